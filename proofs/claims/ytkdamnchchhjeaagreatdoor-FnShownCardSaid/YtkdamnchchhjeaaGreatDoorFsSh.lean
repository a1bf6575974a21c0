/- What the functions compute, over plain values. -/
import Derived.Test.YtkdamnchchhjeaaGreatDoorKc
set_option linter.all false
set_option maxRecDepth 100000
namespace Go.Proofs.YtkdamnchchhjeaaGreatDoor.Fs
open Go Go.Kn
abbrev x_wf := Int × Int
@[reducible] def x_38 : ET := (.p (.i .i64) (.i .i64))
def x_wg : x_wf := (0, 0)
abbrev x_gh := Int × ByteArray × ByteArray × x_wf
@[reducible] def x_ou : ET := (.p (.i .i64) (.p .s (.p .s x_38)))
def x_cm : x_gh := (0, ByteArray.empty, ByteArray.empty, x_wg)
abbrev x_o := Int × (List Int) × (List Int) × (List Int)
@[reducible] def x_ar : ET := (.p (.i .i64) (.p (.sl (.i .i64)) (.p (.sl (.i .i64)) (.sl (.i .i64)))))
def x_d9 : x_o := (0, [], [], [])
abbrev x_a2 := Int × Int × ByteArray × ByteArray
@[reducible] def x_2 : ET := (.p (.i .i64) (.p (.i .i64) (.p .s .s)))
def x_e6 : x_a2 := (0, 0, ByteArray.empty, ByteArray.empty)
abbrev TCmd := Int × Int × Int × Int × x_a2
@[reducible] def eCmd : ET := (.p (.i .i64) (.p (.i .i64) (.p (.i .i64) (.p (.i .i64) x_2))))
def zCmd : TCmd := (0, 0, 0, 0, x_e6)
def qCmd (v w : TCmd) : Bool := eqv eCmd v w
abbrev x_au := Int × TCmd
@[reducible] def x_ct : ET := (.p (.i .i64) eCmd)
def x_ck : x_au := (0, zCmd)
def qEntry (v w : x_au) : Bool := eqv x_ct v w
abbrev TLog := Int × Int × (List x_au)
@[reducible] def eLog : ET := (.p (.i .i64) (.p (.i .i64) (.sl x_ct)))
def zLog : TLog := (0, 0, [])
abbrev TRow := Int × Int × (List x_gh)
@[reducible] def eRow : ET := (.p (.i .i64) (.p (.i .i64) (.sl x_ou)))
def zRow : TRow := (0, 0, [])
abbrev x_v := Int × Int × Int × Int × (List x_wf)
@[reducible] def x_at : ET := (.p (.i .i64) (.p (.i .i64) (.p (.i .i64) (.p (.i .i64) (.sl x_38)))))
def x_b5 : x_v := (0, 0, 0, 0, [])
abbrev x_ao := (List TRow) × (List x_v) × (List x_o) × Int × (List Int) × (List x_a2)
@[reducible] def x_p8 : ET := (.p (.sl eRow) (.p (.sl x_at) (.p (.sl x_ar) (.p (.i .i64) (.p (.sl (.i .i64)) (.sl x_2))))))
def zKeep : x_ao := ([], [], [], 0, [], [])
abbrev x_ff := Int × Int × TLog × x_ao
@[reducible] def x_7y : ET := (.p (.i .i64) (.p (.i .i64) (.p eLog x_p8)))
def zHard : x_ff := (0, 0, zLog, zKeep)
abbrev x_1h := (List Int) × Int
@[reducible] def eDisk : ET := (.p (.sl (.i .u8)) (.i .i64))
def zDisk : x_1h := ([], 0)
abbrev TRpc := Int × Int × Int × Int × Int × Int × Int × (List x_au) × Bool × ByteArray
@[reducible] def eRpc : ET := (.p (.i .i64) (.p (.i .i64) (.p (.i .i64) (.p (.i .i64) (.p (.i .i64) (.p (.i .i64) (.p (.i .i64) (.p (.sl x_ct) (.p .b .s)))))))))
def zRpc : TRpc := (0, 0, 0, 0, 0, 0, 0, [], false, ByteArray.empty)
abbrev x_bt := Int × x_ff × Int × (List Bool) × (List Int) × (List Int) × Int × x_ao × x_1h × (List TRpc)
@[reducible] def x_hh : ET := (.p (.i .i64) (.p x_7y (.p (.i .i64) (.p (.sl .b) (.p (.sl (.i .i64)) (.p (.sl (.i .i64)) (.p (.i .i64) (.p x_p8 (.p eDisk (.sl eRpc))))))))))
def x_ci : x_bt := (0, zHard, 0, [], [], [], 0, zKeep, zDisk, [])
abbrev x_i9 := Int × Int × x_au
@[reducible] def eDeed : ET := (.p (.i .i64) (.p (.i .i64) x_ct))
def zDeed : x_i9 := (0, 0, x_ck)
abbrev THeard := Int × Int × x_a2 × x_wf
@[reducible] def x_j8 : ET := (.p (.i .i64) (.p (.i .i64) (.p x_2 x_38)))
def zHeard : THeard := (0, 0, x_e6, x_wg)
abbrev x_gs := Int × Int × Int × Int × (List x_au) × ByteArray
@[reducible] def x_4w : ET := (.p (.i .i64) (.p (.i .i64) (.p (.i .i64) (.p (.i .i64) (.p (.sl x_ct) .s)))))
def zNote : x_gs := (0, 0, 0, 0, [], ByteArray.empty)
abbrev x_c := (List Int) × x_wf
@[reducible] def x_dn : ET := (.p (.sl (.i .u8)) x_38)
def zl1Cur : x_c := ([], x_wg)
abbrev x_n := Int × Int × x_wf
@[reducible] def x_da : ET := (.p (.i .i64) (.p (.i .i64) x_38))
def zSetup : x_n := (0, 0, x_wg)
abbrev x_r := x_n × Int × (List x_bt) × (List TRpc) × (List TCmd) × (List Int) × (List THeard) × (List TCmd)
@[reducible] def x_d8 : ET := (.p x_da (.p (.i .i64) (.p (.sl x_hh) (.p (.sl eRpc) (.p (.sl eCmd) (.p (.sl (.i .i64)) (.p (.sl x_j8) (.sl eCmd))))))))
def zWorld : x_r := (zSetup, 0, [], [], [], [], [], [])
abbrev x_d := (List Int) × Int × Bool
@[reducible] def x_yu : ET := (.p (.sl (.i .u8)) (.p (.i .i64) .b))
def zl7Cur : x_d := ([], 0, false)
abbrev x_e := x_n × Int × x_bt × Bool
@[reducible] def x_fp : ET := (.p x_da (.p (.i .i64) (.p x_hh .b)))
def zl13Work : x_e := (zSetup, 0, x_ci, false)
def l_big (a0 : List Int) : Option (Bool × Unit) :=
 some (decide (((a0.length : Nat) : Int) > 1048576), ())
def x_cx.l0b (K : Nat) (a0 : List Int) (L0 : Int → Int → Option (x_c × Unit)) (q0 : Int) (q1 : Int) : Option (x_c × Unit) :=
 bif decide (q1 < ((a0.length : Nat) : Int)) then bif decide (q1 < 4000) then bif decide ((0 : Int) ≤ q1) then bif decide (q1 < ((a0.length : Nat) : Int)) then L0 (IntKind.i64.wrap ((BitVec.ofInt (IntKind.bits .i64) (IntKind.i64.wrap ((IntKind.i64.wrap ((IntKind.i64.wrap (q0 * 131)) + (IntKind.i64.wrap (a0.getD (Int.toNat q1) 0)))) + 7)) &&& BitVec.ofInt (IntKind.bits .i64) 1073741823).toNat : Int)) (IntKind.i64.wrap (q1 + 1))
   else none
   else none
  else some ((a0, 0, q0), ())
 else some ((a0, 0, q0), ())
def x_cx.l0 (K : Nat) (a0 : List Int) : Nat → Int → Int → Option (x_c × Unit)
 | 0, _, _ => none
 | n + 1, q0, q1 => x_cx.l0b K a0 (x_cx.l0 K a0 n) q0 q1
def x_cx.b (K : Nat) (a0 : List Int) (L0 : Int → Int → Option (x_c × Unit)) : Option (x_c × Unit) :=
 L0 (IntKind.i64.wrap (24548 + ((a0.length : Nat) : Int))) 0
def x_cx (K : Nat) (a0 : List Int) : Option (x_c × Unit) := x_cx.b K a0 (x_cx.l0 K a0 K)
def x_ln (a0 : x_c) : Option (Int × x_c × Unit) :=
 bif decide (a0.2.1 < ((a0.1.length : Nat) : Int)) then bif decide ((0 : Int) ≤ a0.2.1) then bif decide (a0.2.1 < ((a0.1.length : Nat) : Int)) then some (IntKind.i64.wrap ((BitVec.ofInt (IntKind.bits .i64) (IntKind.i64.wrap ((IntKind.i64.wrap ((BitVec.ofInt (IntKind.bits .i64) (IntKind.i64.wrap ((BitVec.ofInt (IntKind.bits .i64) (Int.fdiv (IntKind.i64.wrap ((IntKind.i64.wrap (a0.2.2 * 6364136223846793005)) + 1442695040888963407)) (2 ^ 33)) ^^^ BitVec.ofInt (IntKind.bits .i64) (Int.fdiv (IntKind.i64.wrap ((IntKind.i64.wrap (a0.2.2 * 6364136223846793005)) + 1442695040888963407)) (2 ^ 45))).toNat : Int)) &&& BitVec.ofInt (IntKind.bits .i64) 255).toNat : Int)) + (IntKind.i64.wrap (a0.1.getD (Int.toNat a0.2.1) 0)))) &&& BitVec.ofInt (IntKind.bits .i64) 255).toNat : Int), (a0.1, IntKind.i64.wrap (a0.2.1 + 1), IntKind.i64.wrap ((IntKind.i64.wrap (a0.2.2 * 6364136223846793005)) + 1442695040888963407)), ())
  else none
  else none
 else some (IntKind.i64.wrap ((BitVec.ofInt (IntKind.bits .i64) (IntKind.i64.wrap ((BitVec.ofInt (IntKind.bits .i64) (Int.fdiv (IntKind.i64.wrap ((IntKind.i64.wrap (a0.2.2 * 6364136223846793005)) + 1442695040888963407)) (2 ^ 33)) ^^^ BitVec.ofInt (IntKind.bits .i64) (Int.fdiv (IntKind.i64.wrap ((IntKind.i64.wrap (a0.2.2 * 6364136223846793005)) + 1442695040888963407)) (2 ^ 45))).toNat : Int)) &&& BitVec.ofInt (IntKind.bits .i64) 255).toNat : Int), (a0.1, a0.2.1, IntKind.i64.wrap ((IntKind.i64.wrap (a0.2.2 * 6364136223846793005)) + 1442695040888963407)), ())
def x_f (a0 : x_c) (a1 : Int) : Option (Int × x_c × Unit) :=
 bif decide (a1 ≤ 0) then some (0, a0, ())
 else bif decide (a1 ≤ 256) then (x_ln a0).bind fun v1 =>
  bif decide (a1 ≠ 0) then some (Int.tmod v1.1 a1, v1.2.1, ())
  else none
 else (x_ln a0).bind fun v2 =>
 (x_ln v2.2.1).bind fun v3 =>
 (x_ln v3.2.1).bind fun v4 =>
 (x_ln v4.2.1).bind fun v5 =>
 bif decide (a1 ≠ 0) then some (Int.tmod (IntKind.i64.wrap ((IntKind.i64.wrap ((IntKind.i64.wrap ((IntKind.i64.wrap (v2.1 * 16777216)) + (IntKind.i64.wrap (v3.1 * 65536)))) + (IntKind.i64.wrap (v4.1 * 256)))) + v5.1)) a1, v5.2.1, ())
 else none
def x_on (a0 : x_c) (a1 : List ByteArray) : Option (ByteArray × x_c × Unit) :=
 (x_f a0 ((a1.length : Nat) : Int)).bind fun v1 =>
 bif decide ((0 : Int) ≤ v1.1) then bif decide (v1.1 < ((a1.length : Nat) : Int)) then some (a1.getD (Int.toNat v1.1) ByteArray.empty, v1.2.1, ())
 else none
 else none
def x_eo (a0 : x_c) : Option (ByteArray × x_c × Unit) :=
 (x_on a0 [ByteArray.empty, (bs [97]), (bs [98]), (bs [107, 32, 49]), (bs [116, 101, 120, 116])]).bind fun v1 =>
 some (v1.1, v1.2.1, ())
def x_kk (a0 : TRow) : Option (TRow × Unit) :=
 bif decide ((([] : List x_gh).length + a0.2.2.length) * 57 ≤ x_g) then some ((a0.1, a0.2.1, [] ++ a0.2.2), ())
 else none
def x_bw.l0b (K : Nat) (a0 : ByteArray) (L0 : Int → Option (Bool × Unit)) (q0 : Int) : Option (Bool × Unit) :=
 bif decide (q0 < ((a0.size : Nat) : Int)) then bif decide ((0 : Int) ≤ q0) then bif decide (q0 < ((a0.size : Nat) : Int)) then bif decide ((x_jc a0 q0) ≥ 97) then bif decide ((x_jc a0 q0) ≤ 122) then L0 (IntKind.i64.wrap (q0 + 1))
   else bif decide ((x_jc a0 q0) ≥ 48) then bif decide ((x_jc a0 q0) ≤ 57) then L0 (IntKind.i64.wrap (q0 + 1))
    else bif !(decide ((x_jc a0 q0) = 32)) then some (false, ())
    else L0 (IntKind.i64.wrap (q0 + 1))
   else bif !(decide ((x_jc a0 q0) = 32)) then some (false, ())
   else L0 (IntKind.i64.wrap (q0 + 1))
  else bif decide ((x_jc a0 q0) ≥ 48) then bif decide ((x_jc a0 q0) ≤ 57) then L0 (IntKind.i64.wrap (q0 + 1))
   else bif !(decide ((x_jc a0 q0) = 32)) then some (false, ())
   else L0 (IntKind.i64.wrap (q0 + 1))
  else bif !(decide ((x_jc a0 q0) = 32)) then some (false, ())
  else L0 (IntKind.i64.wrap (q0 + 1))
  else none
  else none
 else some (decide (((a0.size : Nat) : Int) ≤ 30), ())
def x_bw.l0 (K : Nat) (a0 : ByteArray) : Nat → Int → Option (Bool × Unit)
 | 0, _ => none
 | n + 1, q0 => x_bw.l0b K a0 (x_bw.l0 K a0 n) q0
def x_bw.b (K : Nat) (a0 : ByteArray) (L0 : Int → Option (Bool × Unit)) : Option (Bool × Unit) :=
 L0 0
def x_bw (K : Nat) (a0 : ByteArray) : Option (Bool × Unit) := x_bw.b K a0 (x_bw.l0 K a0 K)
def x_a4 (a0 : Int) (a1 : Int) (a2 : Int) : Option (Bool × Unit) :=
 bif decide (a0 ≥ a1) then some (decide (a0 ≤ a2), ())
 else some (false, ())
def x_0g (K : Nat) (a0 : x_gh) : Option (Bool × Unit) :=
 (x_bw K a0.2.1).bind fun v1 =>
 bif v1.1 then (x_bw K a0.2.2.1).bind fun v2 =>
  bif v2.1 then (x_a4 a0.2.2.2.1 0 3).bind fun v3 =>
   bif v3.1 then (x_a4 a0.2.2.2.2 0 100000).bind fun v4 =>
    some (v4.1, ())
   else some (false, ())
  else some (false, ())
 else some (false, ())
def x_cn.l0b (K : Nat) (a0 : TRow) (L0 : Int → Option (Bool × Unit)) (q0 : Int) : Option (Bool × Unit) :=
 bif decide (q0 < ((a0.2.2.length : Nat) : Int)) then bif decide ((0 : Int) ≤ q0) then bif decide (q0 < ((a0.2.2.length : Nat) : Int)) then (x_0g K (a0.2.2.getD (Int.toNat q0) x_cm)).bind fun v1 =>
  bif !v1.1 then some (false, ())
  else bif decide ((0 : Int) ≤ q0) then bif decide (q0 < ((a0.2.2.length : Nat) : Int)) then (x_a4 (a0.2.2.getD (Int.toNat q0) x_cm).1 a0.1 (IntKind.i64.wrap (a0.2.1 - 1))).bind fun v2 =>
  bif !v2.1 then some (false, ())
  else bif decide (q0 > 0) then bif decide ((0 : Int) ≤ (IntKind.i64.wrap (q0 - 1))) then bif decide ((IntKind.i64.wrap (q0 - 1)) < ((a0.2.2.length : Nat) : Int)) then bif decide ((0 : Int) ≤ q0) then bif decide (q0 < ((a0.2.2.length : Nat) : Int)) then bif decide ((a0.2.2.getD (Int.toNat (IntKind.i64.wrap (q0 - 1))) x_cm).1 ≥ (a0.2.2.getD (Int.toNat q0) x_cm).1) then some (false, ())
   else L0 (IntKind.i64.wrap (q0 + 1))
   else none
   else none
   else none
   else none
  else L0 (IntKind.i64.wrap (q0 + 1))
  else none
  else none
  else none
  else none
 else (x_a4 a0.1 0 a0.2.1).bind fun v3 =>
 bif v3.1 then bif decide (a0.2.1 ≤ 100000) then some (decide (((a0.2.2.length : Nat) : Int) ≤ 80), ())
  else some (false, ())
 else some (false, ())
def x_cn.l0 (K : Nat) (a0 : TRow) : Nat → Int → Option (Bool × Unit)
 | 0, _ => none
 | n + 1, q0 => x_cn.l0b K a0 (x_cn.l0 K a0 n) q0
def x_cn.b (K : Nat) (a0 : TRow) (L0 : Int → Option (Bool × Unit)) : Option (Bool × Unit) :=
 L0 0
def x_cn (K : Nat) (a0 : TRow) : Option (Bool × Unit) := x_cn.b K a0 (x_cn.l0 K a0 K)
def x_ra (K : Nat) (a0 : TRow) (a1 : ByteArray) (a2 : ByteArray) (a3 : Int) (a4 : Int) : Option (TRow × Int × Bool × Unit) :=
 (x_kk a0).bind fun v1 =>
 (x_cn K a0).bind fun v2 =>
 bif !v2.1 then some (v1.1, 0, false, ())
 else bif decide ((v1.1.2.2.length + [(a0.2.1, a1, a2, a3, a4)].length) * 57 ≤ x_g) then (x_cn K (v1.1.1, IntKind.i64.wrap (a0.2.1 + 1), v1.1.2.2 ++ [(a0.2.1, a1, a2, a3, a4)])).bind fun v3 =>
 bif !v3.1 then (x_kk a0).bind fun v4 =>
  some (v4.1, 0, false, ())
 else some ((v1.1.1, IntKind.i64.wrap (a0.2.1 + 1), v1.1.2.2 ++ [(a0.2.1, a1, a2, a3, a4)]), a0.2.1, true, ())
 else none
def x_4.l0b (K : Nat) (a0 : TRow) (a1 : Int) (a2 : Int) (L1 : (List x_gh) → Int → Int → (TRow × Unit) → Option (TRow × Unit)) (q1 : Int) (v1 : TRow × Unit) (q2 : List x_gh) : Option (TRow × Unit) :=
 bif decide (((q2.length : Nat) : Int) > a2) then bif decide ((0 : Int) < ((q2.length : Nat) : Int)) then bif decide (a1 ≠ 0) then bif decide (a1 ≠ 0) then bif decide ((IntKind.i64.wrap (Int.tdiv (q2.getD 0 x_cm).1 a1)) = (IntKind.i64.wrap (Int.tdiv (IntKind.i64.wrap (a0.2.1 - 1)) a1))) then some ((q1, v1.1.2.1, q2), ())
  else L1 q2 0 q1 v1
  else none
  else none
  else none
 else some ((q1, v1.1.2.1, q2), ())
def x_4.l1b (K : Nat) (a0 : TRow) (a1 : Int) (a2 : Int) (L0 : Int → (TRow × Unit) → (List x_gh) → Option (TRow × Unit)) (L1 : (List x_gh) → Int → Int → (TRow × Unit) → Option (TRow × Unit)) (q2 : List x_gh) (q3 : Int) (q1 : Int) (v1 : TRow × Unit) : Option (TRow × Unit) :=
 bif decide (q3 < ((q2.length : Nat) : Int)) then bif decide ((0 : Int) ≤ q3) then bif decide (q3 < ((q2.length : Nat) : Int)) then bif decide (a1 ≠ 0) then bif decide ((IntKind.i64.wrap (Int.tdiv (q2.getD (Int.toNat q3) x_cm).1 a1)) = (IntKind.i64.wrap (Int.tdiv (q2.getD 0 x_cm).1 a1))) then L1 q2 (IntKind.i64.wrap (q3 + 1)) q1 v1
  else bif decide (((q2.length : Nat) : Int) = ((q2.length : Nat) : Int)) then bif decide ((0 : Int) ≤ q3) then bif decide (q3 ≤ ((q2.length : Nat) : Int)) then bif decide (((q2.length : Nat) : Int) ≤ ((q2.length : Nat) : Int)) then bif decide ((([] : List x_gh).length + ((q2.take (Int.toNat ((q2.length : Nat) : Int))).drop (Int.toNat q3)).length) * 57 ≤ x_g) then L0 (IntKind.i64.wrap ((IntKind.i64.wrap ((IntKind.i64.wrap (Int.tdiv (q2.getD 0 x_cm).1 a1)) + 1)) * a1)) v1 ([] ++ ((q2.take (Int.toNat ((q2.length : Nat) : Int))).drop (Int.toNat q3)))
  else none
  else none
  else none
  else none
  else none
  else none
  else none
  else none
 else bif decide (((q2.length : Nat) : Int) = ((q2.length : Nat) : Int)) then bif decide ((0 : Int) ≤ q3) then bif decide (q3 ≤ ((q2.length : Nat) : Int)) then bif decide (((q2.length : Nat) : Int) ≤ ((q2.length : Nat) : Int)) then bif decide ((([] : List x_gh).length + ((q2.take (Int.toNat ((q2.length : Nat) : Int))).drop (Int.toNat q3)).length) * 57 ≤ x_g) then L0 (IntKind.i64.wrap ((IntKind.i64.wrap ((IntKind.i64.wrap (Int.tdiv (q2.getD 0 x_cm).1 a1)) + 1)) * a1)) v1 ([] ++ ((q2.take (Int.toNat ((q2.length : Nat) : Int))).drop (Int.toNat q3)))
 else none
 else none
 else none
 else none
 else none
def x_4.l1 (K : Nat) (a0 : TRow) (a1 : Int) (a2 : Int) (L0 : Int → (TRow × Unit) → (List x_gh) → Option (TRow × Unit)) : Nat → (List x_gh) → Int → Int → (TRow × Unit) → Option (TRow × Unit)
 | 0, _, _, _, _ => none
 | n + 1, q2, q3, q1, v1 => x_4.l1b K a0 a1 a2 L0 (x_4.l1 K a0 a1 a2 L0 n) q2 q3 q1 v1
def x_4.l0 (K : Nat) (a0 : TRow) (a1 : Int) (a2 : Int) : Nat → Int → (TRow × Unit) → (List x_gh) → Option (TRow × Unit)
 | 0, _, _, _ => none
 | n + 1, q1, v1, q2 => x_4.l0b K a0 a1 a2 (x_4.l1 K a0 a1 a2 (x_4.l0 K a0 a1 a2 n) K) q1 v1 q2
def x_4.b (K : Nat) (a0 : TRow) (a1 : Int) (a2 : Int) (L0 : Int → (TRow × Unit) → (List x_gh) → Option (TRow × Unit)) : Option (TRow × Unit) :=
 (x_kk a0).bind fun v1 =>
 bif decide (a1 < 1) then some (v1.1, ())
 else bif decide (a2 < 0) then some (v1.1, ())
 else (x_cn K a0).bind fun v2 =>
 bif !v2.1 then some (v1.1, ())
 else L0 v1.1.1 v1 v1.1.2.2
def x_4 (K : Nat) (a0 : TRow) (a1 : Int) (a2 : Int) : Option (TRow × Unit) := x_4.b K a0 a1 a2 (x_4.l0 K a0 a1 a2 K)
def x_a9.l0b (K : Nat) (a0 : TRow) (a1 : Int) (L0 : Int → Option (Bool × Unit)) (q0 : Int) : Option (Bool × Unit) :=
 bif decide (q0 < ((a0.2.2.length : Nat) : Int)) then bif decide ((0 : Int) ≤ q0) then bif decide (q0 < ((a0.2.2.length : Nat) : Int)) then bif decide ((0 : Int) ≤ a1) then bif decide (a1 < ((a0.2.2.length : Nat) : Int)) then bif decide ((a0.2.2.getD (Int.toNat q0) x_cm).2.1.data.toList = (a0.2.2.getD (Int.toNat a1) x_cm).2.1.data.toList) then some (true, ())
  else L0 (IntKind.i64.wrap (q0 + 1))
  else none
  else none
  else none
  else none
 else some (false, ())
def x_a9.l0 (K : Nat) (a0 : TRow) (a1 : Int) : Nat → Int → Option (Bool × Unit)
 | 0, _ => none
 | n + 1, q0 => x_a9.l0b K a0 a1 (x_a9.l0 K a0 a1 n) q0
def x_a9.b (K : Nat) (a0 : TRow) (a1 : Int) (L0 : Int → Option (Bool × Unit)) : Option (Bool × Unit) :=
 L0 (IntKind.i64.wrap (a1 + 1))
def x_a9 (K : Nat) (a0 : TRow) (a1 : Int) : Option (Bool × Unit) := x_a9.b K a0 a1 (x_a9.l0 K a0 a1 K)
def x_bn.l0b (K : Nat) (a0 : TRow) (a1 : Int) (L0 : Int → (List x_gh) → Option (TRow × Unit)) (q0 : Int) (q1 : List x_gh) : Option (TRow × Unit) :=
 bif decide (q0 < ((a0.2.2.length : Nat) : Int)) then bif decide ((0 : Int) ≤ q0) then bif decide (q0 < ((a0.2.2.length : Nat) : Int)) then bif decide ((a0.2.2.getD (Int.toNat q0) x_cm).2.1.data.toList = ByteArray.empty.data.toList) then bif decide ((q1.length + [a0.2.2.getD (Int.toNat q0) x_cm].length) * 57 ≤ x_g) then L0 (IntKind.i64.wrap (q0 + 1)) (q1 ++ [a0.2.2.getD (Int.toNat q0) x_cm])
   else none
  else (x_a9 K a0 q0).bind fun v4 =>
  bif !v4.1 then bif decide ((q1.length + [a0.2.2.getD (Int.toNat q0) x_cm].length) * 57 ≤ x_g) then L0 (IntKind.i64.wrap (q0 + 1)) (q1 ++ [a0.2.2.getD (Int.toNat q0) x_cm])
   else none
  else bif decide (a1 ≠ 0) then bif decide (a1 ≠ 0) then bif decide ((IntKind.i64.wrap (Int.tdiv (a0.2.2.getD (Int.toNat q0) x_cm).1 a1)) = (IntKind.i64.wrap (Int.tdiv (IntKind.i64.wrap (a0.2.1 - 1)) a1))) then bif decide ((q1.length + [a0.2.2.getD (Int.toNat q0) x_cm].length) * 57 ≤ x_g) then L0 (IntKind.i64.wrap (q0 + 1)) (q1 ++ [a0.2.2.getD (Int.toNat q0) x_cm])
   else none
  else L0 (IntKind.i64.wrap (q0 + 1)) q1
  else none
  else none
  else none
  else none
 else some ((a0.1, a0.2.1, q1), ())
def x_bn.l0 (K : Nat) (a0 : TRow) (a1 : Int) : Nat → Int → (List x_gh) → Option (TRow × Unit)
 | 0, _, _ => none
 | n + 1, q0, q1 => x_bn.l0b K a0 a1 (x_bn.l0 K a0 a1 n) q0 q1
def x_bn.b (K : Nat) (a0 : TRow) (a1 : Int) (L0 : Int → (List x_gh) → Option (TRow × Unit)) : Option (TRow × Unit) :=
 bif decide (a1 < 1) then (x_kk a0).bind fun v2 =>
  some (v2.1, ())
 else (x_cn K a0).bind fun v1 =>
 bif !v1.1 then (x_kk a0).bind fun v3 =>
  some (v3.1, ())
 else L0 0 []
def x_bn (K : Nat) (a0 : TRow) (a1 : Int) : Option (TRow × Unit) := x_bn.b K a0 a1 (x_bn.l0 K a0 a1 K)
def x_6.l0b (K : Nat) (a0 : x_c) (L0 : (Int × x_c × Unit) → Int → (Int × x_c × Unit) → Int → Int → (List x_gh) → Option (TRow × x_c × Unit)) (v1 : Int × x_c × Unit) (q0 : Int) (q1 : Int × x_c × Unit) (q2 : Int) (q3 : Int) (q4 : List x_gh) : Option (TRow × x_c × Unit) :=
 bif decide (q0 < v1.1) then (x_eo q1.2.1).bind fun v2 =>
  (x_eo v2.2.1).bind fun v3 =>
  (x_f v3.2.1 4).bind fun v4 =>
  (x_ra K (q2, q3, q4) v2.1 v3.1 v4.1 q0).bind fun v5 =>
  (x_f v4.2.1 12).bind fun v6 =>
  bif decide (v6.1 = 0) then (x_f v6.2.1 3).bind fun v7 =>
   (x_f v7.2.1 4).bind fun v8 =>
   (x_4 K v5.1 (IntKind.i64.wrap (1 + v7.1)) v8.1).bind fun v9 =>
   L0 v1 (IntKind.i64.wrap (q0 + 1)) v8 v9.1.1 v9.1.2.1 v9.1.2.2
  else bif decide (v6.1 = 1) then (x_f v6.2.1 3).bind fun v10 =>
   (x_bn K v5.1 (IntKind.i64.wrap (1 + v10.1))).bind fun v11 =>
   L0 v1 (IntKind.i64.wrap (q0 + 1)) v10 v11.1.1 v11.1.2.1 v11.1.2.2
  else L0 v1 (IntKind.i64.wrap (q0 + 1)) v6 v5.1.1 v5.1.2.1 v5.1.2.2
 else some ((q2, q3, q4), q1.2.1, ())
def x_6.l0 (K : Nat) (a0 : x_c) : Nat → (Int × x_c × Unit) → Int → (Int × x_c × Unit) → Int → Int → (List x_gh) → Option (TRow × x_c × Unit)
 | 0, _, _, _, _, _, _ => none
 | n + 1, v1, q0, q1, q2, q3, q4 => x_6.l0b K a0 (x_6.l0 K a0 n) v1 q0 q1 q2 q3 q4
def x_6.b (K : Nat) (a0 : x_c) (L0 : (Int × x_c × Unit) → Int → (Int × x_c × Unit) → Int → Int → (List x_gh) → Option (TRow × x_c × Unit)) : Option (TRow × x_c × Unit) :=
 (x_f a0 14).bind fun v1 =>
 L0 v1 0 v1 0 0 []
def x_6 (K : Nat) (a0 : x_c) : Option (TRow × x_c × Unit) := x_6.b K a0 (x_6.l0 K a0 K)
def x_p (a0 : x_c) (a1 : List Int) : Option (Int × x_c × Unit) :=
 (x_f a0 ((a1.length : Nat) : Int)).bind fun v1 =>
 bif decide ((0 : Int) ≤ v1.1) then bif decide (v1.1 < ((a1.length : Nat) : Int)) then some (a1.getD (Int.toNat v1.1) 0, v1.2.1, ())
 else none
 else none
def x_b7.l0b (K : Nat) (a0 : x_c) (L0 : (Int × x_c × Unit) → TRow → Option (TRow × x_c × Unit)) (v2 : Int × x_c × Unit) (q0 : TRow) : Option (TRow × x_c × Unit) :=
 bif decide (((q0.2.2.length : Nat) : Int) < 80) then (x_ra K q0 ByteArray.empty ByteArray.empty 0 0).bind fun v7 =>
  L0 v2 v7.1
 else some (q0, v2.2.1, ())
def x_b7.l0 (K : Nat) (a0 : x_c) : Nat → (Int × x_c × Unit) → TRow → Option (TRow × x_c × Unit)
 | 0, _, _ => none
 | n + 1, v2, q0 => x_b7.l0b K a0 (x_b7.l0 K a0 n) v2 q0
def x_b7.b (K : Nat) (a0 : x_c) (L0 : (Int × x_c × Unit) → TRow → Option (TRow × x_c × Unit)) : Option (TRow × x_c × Unit) :=
 (x_6 K a0).bind fun v1 =>
 (x_f v1.2.1 14).bind fun v2 =>
 bif decide (v2.1 = 0) then (x_p v2.2.1 [(-1), 0, 1, 99]).bind fun v3 =>
  some ((v3.1, v1.1.2), v3.2.1, ())
 else bif decide (v2.1 = 1) then (x_p v2.2.1 [0, 3, 100000, 100001]).bind fun v4 =>
  some ((v1.1.1, v4.1, v1.1.2.2), v4.2.1, ())
 else bif decide (v2.1 = 2) then (x_f v2.2.1 20).bind fun v5 =>
  (x_on v5.2.1 [(bs [97]), (bs [65])]).bind fun v6 =>
  bif decide ((v1.1.2.2.length + [(v5.1, v6.1, ByteArray.empty, 0, 0)].length) * 57 ≤ x_g) then some ((v1.1.1, v1.1.2.1, v1.1.2.2 ++ [(v5.1, v6.1, ByteArray.empty, 0, 0)]), v6.2.1, ())
  else none
 else bif decide (v2.1 = 3) then L0 v2 v1.1
 else some (v1.1, v2.2.1, ())
def x_b7 (K : Nat) (a0 : x_c) : Option (TRow × x_c × Unit) := x_b7.b K a0 (x_b7.l0 K a0 K)
def x_in (K : Nat) (a0 : List Int) : Option (TRow × Unit) :=
 (x_cx K a0).bind fun v1 =>
 (x_b7 K v1.1).bind fun v2 =>
 some (v2.1, ())
def x_lh (a0 : Int) : Option (x_o × Unit) :=
 (x_a4 a0 1 4).bind fun v1 =>
 bif !v1.1 then some ((0, [], [], []), ())
 else bif decide (a0 = a0) then bif decide ((0 : Int) ≤ a0) then bif decide ((Int.toNat a0) * 9 ≤ x_g) then some ((0, [], [], List.replicate (Int.toNat a0) 0), ())
 else none
 else none
 else none
def x_g2.l0b (K : Nat) (a0 : x_o) (a1 : Int) (L0 : Int → Option (Int × Unit)) (q0 : Int) : Option (Int × Unit) :=
 bif decide (q0 < ((a0.2.1.length : Nat) : Int)) then bif decide ((0 : Int) ≤ q0) then bif decide (q0 < ((a0.2.1.length : Nat) : Int)) then bif decide ((a0.2.1.getD (Int.toNat q0) 0) = a1) then some (q0, ())
  else L0 (IntKind.i64.wrap (q0 + 1))
  else none
  else none
 else some ((-1), ())
def x_g2.l0 (K : Nat) (a0 : x_o) (a1 : Int) : Nat → Int → Option (Int × Unit)
 | 0, _ => none
 | n + 1, q0 => x_g2.l0b K a0 a1 (x_g2.l0 K a0 a1 n) q0
def x_g2.b (K : Nat) (a0 : x_o) (a1 : Int) (L0 : Int → Option (Int × Unit)) : Option (Int × Unit) :=
 L0 0
def x_g2 (K : Nat) (a0 : x_o) (a1 : Int) : Option (Int × Unit) := x_g2.b K a0 a1 (x_g2.l0 K a0 a1 K)
def x_i6 (a0 : x_o) : Option (x_o × Unit) :=
 bif decide ((([] : List Int).length + a0.2.1.length) * 9 ≤ x_g) then bif decide ((([] : List Int).length + a0.2.2.1.length) * 9 ≤ x_g) then bif decide ((([] : List Int).length + a0.2.2.2.length) * 9 ≤ x_g) then some ((a0.1, [] ++ a0.2.1, [] ++ a0.2.2.1, [] ++ a0.2.2.2), ())
 else none
 else none
 else none
def x_d5 (a0 : x_o) (a1 : Int) : Option (x_o × Unit) :=
 (x_i6 a0).bind fun v1 =>
 bif decide (a1 = a1) then bif decide ((0 : Int) ≤ a1) then bif decide (a1 ≤ ((a0.2.1.length : Nat) : Int)) then bif decide ((([] : List Int).length + ((a0.2.1.take (Int.toNat a1)).drop 0).length) * 9 ≤ x_g) then bif decide (((a0.2.1.length : Nat) : Int) = ((a0.2.1.length : Nat) : Int)) then bif decide ((0 : Int) ≤ (IntKind.i64.wrap (a1 + 1))) then bif decide ((IntKind.i64.wrap (a1 + 1)) ≤ ((a0.2.1.length : Nat) : Int)) then bif decide (((a0.2.1.length : Nat) : Int) ≤ ((a0.2.1.length : Nat) : Int)) then bif decide ((([] ++ ((a0.2.1.take (Int.toNat a1)).drop 0)).length + ((a0.2.1.take (Int.toNat ((a0.2.1.length : Nat) : Int))).drop (Int.toNat (IntKind.i64.wrap (a1 + 1)))).length) * 9 ≤ x_g) then bif decide (a1 < ((a0.2.2.1.length : Nat) : Int)) then bif decide (a1 = a1) then bif decide ((0 : Int) ≤ a1) then bif decide (a1 ≤ ((a0.2.2.1.length : Nat) : Int)) then bif decide ((([] : List Int).length + ((a0.2.2.1.take (Int.toNat a1)).drop 0).length) * 9 ≤ x_g) then bif decide (((a0.2.2.1.length : Nat) : Int) = ((a0.2.2.1.length : Nat) : Int)) then bif decide ((0 : Int) ≤ (IntKind.i64.wrap (a1 + 1))) then bif decide ((IntKind.i64.wrap (a1 + 1)) ≤ ((a0.2.2.1.length : Nat) : Int)) then bif decide (((a0.2.2.1.length : Nat) : Int) ≤ ((a0.2.2.1.length : Nat) : Int)) then bif decide ((([] ++ ((a0.2.2.1.take (Int.toNat a1)).drop 0)).length + ((a0.2.2.1.take (Int.toNat ((a0.2.2.1.length : Nat) : Int))).drop (Int.toNat (IntKind.i64.wrap (a1 + 1)))).length) * 9 ≤ x_g) then some ((v1.1.1, ([] ++ ((a0.2.1.take (Int.toNat a1)).drop 0)) ++ ((a0.2.1.take (Int.toNat ((a0.2.1.length : Nat) : Int))).drop (Int.toNat (IntKind.i64.wrap (a1 + 1)))), ([] ++ ((a0.2.2.1.take (Int.toNat a1)).drop 0)) ++ ((a0.2.2.1.take (Int.toNat ((a0.2.2.1.length : Nat) : Int))).drop (Int.toNat (IntKind.i64.wrap (a1 + 1)))), v1.1.2.2.2), ())
  else none
  else none
  else none
  else none
  else none
  else none
  else none
  else none
  else none
 else some ((v1.1.1, ([] ++ ((a0.2.1.take (Int.toNat a1)).drop 0)) ++ ((a0.2.1.take (Int.toNat ((a0.2.1.length : Nat) : Int))).drop (Int.toNat (IntKind.i64.wrap (a1 + 1)))), v1.1.2.2), ())
 else none
 else none
 else none
 else none
 else none
 else none
 else none
 else none
 else none
def x_aa1 (a0 : Int) : Option (Int × Unit) :=
 bif decide (a0 ≥ 100000) then some (a0, ())
 else some (IntKind.i64.wrap (a0 + 1), ())
def x_h7 (K : Nat) (a0 : x_o) (a1 : Int) : Option (x_o × Unit) :=
 (x_g2 K a0 a1).bind fun v1 =>
 bif decide (v1.1 < 0) then (x_i6 a0).bind fun v3 =>
  some (v3.1, ())
 else (x_a4 a1 0 3).bind fun v2 =>
 bif !v2.1 then (x_i6 a0).bind fun v4 =>
  some (v4.1, ())
 else (x_d5 a0 v1.1).bind fun v5 =>
 (x_aa1 a0.1).bind fun v6 =>
 some ((v6.1, v5.1.2), ())
def x_ap.l0b (K : Nat) (a0 : x_o) (a1 : Int) (L0 : Bool → Int → (x_o × Unit) → Option (x_o × Unit)) (q0 : Bool) (q1 : Int) (q2 : x_o × Unit) : Option (x_o × Unit) :=
 bif decide (q1 ≥ 0) then bif decide (q1 < ((a0.2.2.1.length : Nat) : Int)) then bif decide ((0 : Int) ≤ q1) then bif decide (q1 < ((a0.2.2.1.length : Nat) : Int)) then bif decide (a1 > (a0.2.2.1.getD (Int.toNat q1) 0)) then bif decide ((0 : Int) ≤ q1) then bif decide (q1 < ((a0.2.2.1.length : Nat) : Int)) then bif decide ((IntKind.i64.wrap (a1 - (a0.2.2.1.getD (Int.toNat q1) 0))) > 50) then (x_d5 q2.1 q1).bind fun v2 =>
     L0 true (IntKind.i64.wrap (q1 - 1)) v2
    else bif decide ((0 : Int) ≤ q1) then bif decide (q1 < ((a0.2.2.1.length : Nat) : Int)) then bif decide ((IntKind.i64.wrap (a1 - (a0.2.2.1.getD (Int.toNat q1) 0))) < 0) then (x_d5 q2.1 q1).bind fun v3 =>
     L0 true (IntKind.i64.wrap (q1 - 1)) v3
    else L0 q0 (IntKind.i64.wrap (q1 - 1)) q2
    else none
    else none
    else none
    else none
   else L0 q0 (IntKind.i64.wrap (q1 - 1)) q2
   else none
   else none
  else L0 q0 (IntKind.i64.wrap (q1 - 1)) q2
 else bif q0 then (x_aa1 a0.1).bind fun v4 =>
  some ((v4.1, q2.1.2), ())
 else some (q2.1, ())
def x_ap.l0 (K : Nat) (a0 : x_o) (a1 : Int) : Nat → Bool → Int → (x_o × Unit) → Option (x_o × Unit)
 | 0, _, _, _ => none
 | n + 1, q0, q1, q2 => x_ap.l0b K a0 a1 (x_ap.l0 K a0 a1 n) q0 q1 q2
def x_ap.b (K : Nat) (a0 : x_o) (a1 : Int) (L0 : Bool → Int → (x_o × Unit) → Option (x_o × Unit)) : Option (x_o × Unit) :=
 (x_i6 a0).bind fun v1 =>
 L0 false (IntKind.i64.wrap (((a0.2.1.length : Nat) : Int) - 1)) v1
def x_ap (K : Nat) (a0 : x_o) (a1 : Int) : Option (x_o × Unit) := x_ap.b K a0 a1 (x_ap.l0 K a0 a1 K)
def x_td (a0 : x_o) (a1 : Int) : Option (Int × Unit) :=
 bif decide (((a0.2.1.length : Nat) : Int) = 0) then some ((-1), ())
 else bif decide (a1 < 0) then some ((-1), ())
 else bif decide (((a0.2.1.length : Nat) : Int) ≠ 0) then bif decide ((0 : Int) ≤ (Int.tmod a1 ((a0.2.1.length : Nat) : Int))) then bif decide ((Int.tmod a1 ((a0.2.1.length : Nat) : Int)) < ((a0.2.1.length : Nat) : Int)) then some (a0.2.1.getD (Int.toNat (Int.tmod a1 ((a0.2.1.length : Nat) : Int))) 0, ())
 else none
 else none
 else none
def x_ka (a0 : x_o) (a1 : Int) (a2 : Int) (a3 : Int) (a4 : Int) : Option (x_o × Bool × Unit) :=
 (x_i6 a0).bind fun v1 =>
 bif !(decide (a2 = a0.1)) then some (v1.1, false, ())
 else (x_a4 a3 0 (IntKind.i64.wrap (((a0.2.2.2.length : Nat) : Int) - 1))).bind fun v2 =>
 bif !v2.1 then some (v1.1, false, ())
 else (x_td a0 a3).bind fun v3 =>
 bif !(decide (v3.1 = a1)) then some (v1.1, false, ())
 else bif decide ((0 : Int) ≤ a3) then bif decide (a3 < ((a0.2.2.2.length : Nat) : Int)) then bif decide (a4 < (a0.2.2.2.getD (Int.toNat a3) 0)) then some (v1.1, false, ())
 else bif decide ((0 : Int) ≤ a3) then bif decide (a3 < ((v1.1.2.2.2.length : Nat) : Int)) then some ((v1.1.1, v1.1.2.1, v1.1.2.2.1, v1.1.2.2.2.set (Int.toNat a3) a4), true, ())
 else none
 else none
 else none
 else none
def x_ac.j0 (K : Nat) (q0 : Int) (a0 : x_o) (a1 : Int) (a2 : Int) (v1 : x_o × Unit) : Option (x_o × Unit) :=
 bif decide (q0 = q0) then bif decide ((0 : Int) ≤ q0) then bif decide (q0 ≤ ((a0.2.1.length : Nat) : Int)) then bif decide ((([] : List Int).length + ((a0.2.1.take (Int.toNat q0)).drop 0).length) * 9 ≤ x_g) then bif decide ((([] ++ ((a0.2.1.take (Int.toNat q0)).drop 0)).length + [a1].length) * 9 ≤ x_g) then bif decide (((a0.2.1.length : Nat) : Int) = ((a0.2.1.length : Nat) : Int)) then bif decide ((0 : Int) ≤ q0) then bif decide (q0 ≤ ((a0.2.1.length : Nat) : Int)) then bif decide (((a0.2.1.length : Nat) : Int) ≤ ((a0.2.1.length : Nat) : Int)) then bif decide (((([] ++ ((a0.2.1.take (Int.toNat q0)).drop 0)) ++ [a1]).length + ((a0.2.1.take (Int.toNat ((a0.2.1.length : Nat) : Int))).drop (Int.toNat q0)).length) * 9 ≤ x_g) then bif decide (q0 = q0) then bif decide ((0 : Int) ≤ q0) then bif decide (q0 ≤ ((a0.2.2.1.length : Nat) : Int)) then bif decide ((([] : List Int).length + ((a0.2.2.1.take (Int.toNat q0)).drop 0).length) * 9 ≤ x_g) then bif decide ((([] ++ ((a0.2.2.1.take (Int.toNat q0)).drop 0)).length + [a2].length) * 9 ≤ x_g) then bif decide (((a0.2.2.1.length : Nat) : Int) = ((a0.2.2.1.length : Nat) : Int)) then bif decide ((0 : Int) ≤ q0) then bif decide (q0 ≤ ((a0.2.2.1.length : Nat) : Int)) then bif decide (((a0.2.2.1.length : Nat) : Int) ≤ ((a0.2.2.1.length : Nat) : Int)) then bif decide (((([] ++ ((a0.2.2.1.take (Int.toNat q0)).drop 0)) ++ [a2]).length + ((a0.2.2.1.take (Int.toNat ((a0.2.2.1.length : Nat) : Int))).drop (Int.toNat q0)).length) * 9 ≤ x_g) then (x_aa1 a0.1).bind fun v4 =>
 some ((v4.1, (([] ++ ((a0.2.1.take (Int.toNat q0)).drop 0)) ++ [a1]) ++ ((a0.2.1.take (Int.toNat ((a0.2.1.length : Nat) : Int))).drop (Int.toNat q0)), (([] ++ ((a0.2.2.1.take (Int.toNat q0)).drop 0)) ++ [a2]) ++ ((a0.2.2.1.take (Int.toNat ((a0.2.2.1.length : Nat) : Int))).drop (Int.toNat q0)), v1.1.2.2.2), ())
 else none
 else none
 else none
 else none
 else none
 else none
 else none
 else none
 else none
 else none
 else none
 else none
 else none
 else none
 else none
 else none
 else none
 else none
 else none
 else none
def x_ac.l0b (K : Nat) (a0 : x_o) (a1 : Int) (a2 : Int) (L0 : Int → (x_o × Unit) → Option (x_o × Unit)) (q0 : Int) (v1 : x_o × Unit) : Option (x_o × Unit) :=
 bif decide (q0 < ((a0.2.1.length : Nat) : Int)) then bif decide (q0 < ((a0.2.2.1.length : Nat) : Int)) then bif decide ((0 : Int) ≤ q0) then bif decide (q0 < ((a0.2.1.length : Nat) : Int)) then bif decide ((a0.2.1.getD (Int.toNat q0) 0) < a1) then L0 (IntKind.i64.wrap (q0 + 1)) v1
   else x_ac.j0 K q0 a0 a1 a2 v1
   else none
   else none
  else x_ac.j0 K q0 a0 a1 a2 v1
 else x_ac.j0 K q0 a0 a1 a2 v1
def x_ac.l0 (K : Nat) (a0 : x_o) (a1 : Int) (a2 : Int) : Nat → Int → (x_o × Unit) → Option (x_o × Unit)
 | 0, _, _ => none
 | n + 1, q0, v1 => x_ac.l0b K a0 a1 a2 (x_ac.l0 K a0 a1 a2 n) q0 v1
def x_ac.b (K : Nat) (a0 : x_o) (a1 : Int) (a2 : Int) (L0 : Int → (x_o × Unit) → Option (x_o × Unit)) : Option (x_o × Unit) :=
 (x_i6 a0).bind fun v1 =>
 (x_a4 a1 0 3).bind fun v2 =>
 bif !v2.1 then some (v1.1, ())
 else (x_g2 K a0 a1).bind fun v3 =>
 bif decide (v3.1 ≥ 0) then bif decide (v3.1 < ((v1.1.2.2.1.length : Nat) : Int)) then bif decide ((0 : Int) ≤ v3.1) then bif decide (v3.1 < ((v1.1.2.2.1.length : Nat) : Int)) then some ((v1.1.1, v1.1.2.1, v1.1.2.2.1.set (Int.toNat v3.1) a2, v1.1.2.2.2), ())
   else none
   else none
  else some (v1.1, ())
 else L0 0 v1
def x_ac (K : Nat) (a0 : x_o) (a1 : Int) (a2 : Int) : Option (x_o × Unit) := x_ac.b K a0 a1 a2 (x_ac.l0 K a0 a1 a2 K)
def x_ab.l0b (K : Nat) (a0 : x_c) (L0 : (Int × x_c × Unit) → Int → Int → (Int × x_c × Unit) → x_o → Option (x_o × Int × x_c × Unit)) (v1 : Int × x_c × Unit) (q0 : Int) (q1 : Int) (q2 : Int × x_c × Unit) (q3 : x_o) : Option (x_o × Int × x_c × Unit) :=
 (x_f q2.2.1 7).bind fun v3 =>
 bif decide (q1 < v3.1) then (x_p v3.2.1 [0, 10, 60]).bind fun v4 =>
  (x_f v4.2.1 5).bind fun v5 =>
  bif decide (v5.1 = 0) then (x_f v5.2.1 4).bind fun v6 =>
   (x_h7 K q3 v6.1).bind fun v7 =>
   L0 v1 (IntKind.i64.wrap (q0 + v4.1)) (IntKind.i64.wrap (q1 + 1)) v6 v7.1
  else bif decide (v5.1 = 1) then (x_ap K q3 (IntKind.i64.wrap (q0 + v4.1))).bind fun v8 =>
   L0 v1 (IntKind.i64.wrap (q0 + v4.1)) (IntKind.i64.wrap (q1 + 1)) v5 v8.1
  else bif decide (v5.1 = 2) then (x_f v5.2.1 4).bind fun v9 =>
   (x_f v9.2.1 (IntKind.i64.wrap (1 + v1.1))).bind fun v10 =>
   (x_f v10.2.1 9).bind fun v11 =>
   (x_ka q3 v9.1 q3.1 v10.1 v11.1).bind fun v12 =>
   L0 v1 (IntKind.i64.wrap (q0 + v4.1)) (IntKind.i64.wrap (q1 + 1)) v11 v12.1
  else (x_f v5.2.1 4).bind fun v13 =>
  (x_ac K q3 v13.1 (IntKind.i64.wrap (q0 + v4.1))).bind fun v14 =>
  L0 v1 (IntKind.i64.wrap (q0 + v4.1)) (IntKind.i64.wrap (q1 + 1)) v13 v14.1
 else some (q3, IntKind.i64.wrap (1 + v1.1), v3.2.1, ())
def x_ab.l0 (K : Nat) (a0 : x_c) : Nat → (Int × x_c × Unit) → Int → Int → (Int × x_c × Unit) → x_o → Option (x_o × Int × x_c × Unit)
 | 0, _, _, _, _, _ => none
 | n + 1, v1, q0, q1, q2, q3 => x_ab.l0b K a0 (x_ab.l0 K a0 n) v1 q0 q1 q2 q3
def x_ab.b (K : Nat) (a0 : x_c) (L0 : (Int × x_c × Unit) → Int → Int → (Int × x_c × Unit) → x_o → Option (x_o × Int × x_c × Unit)) : Option (x_o × Int × x_c × Unit) :=
 (x_f a0 3).bind fun v1 =>
 (x_lh (IntKind.i64.wrap (1 + v1.1))).bind fun v2 =>
 L0 v1 0 0 v1 v2.1
def x_ab (K : Nat) (a0 : x_c) : Option (x_o × Int × x_c × Unit) := x_ab.b K a0 (x_ab.l0 K a0 K)
def x_tn (K : Nat) (a0 : x_c) : Option (x_o × Int × x_c × Unit) :=
 (x_ab K a0).bind fun v1 =>
 (x_f v1.2.2.1 12).bind fun v2 =>
 bif decide (v2.1 = 0) then (x_p v2.2.1 [(-1), 100000, 100001]).bind fun v3 =>
  some ((v3.1, v1.1.2), v1.2.1, v3.2.1, ())
 else bif decide (v2.1 = 1) then (x_f v2.2.1 5).bind fun v4 =>
  bif decide ((v1.1.2.1.length + [v4.1].length) * 9 ≤ x_g) then some ((v1.1.1, v1.1.2.1 ++ [v4.1], v1.1.2.2), v1.2.1, v4.2.1, ())
  else none
 else bif decide (v2.1 = 2) then (x_p v2.2.1 [0, (-1), (-9223372036854775808)]).bind fun v5 =>
  bif decide ((v1.1.2.2.1.length + [v5.1].length) * 9 ≤ x_g) then some ((v1.1.1, v1.1.2.1, v1.1.2.2.1 ++ [v5.1], v1.1.2.2.2), v1.2.1, v5.2.1, ())
  else none
 else bif decide (v2.1 = 3) then (x_f v2.2.1 5).bind fun v6 =>
  some (v1.1, v6.1, v6.2.1, ())
 else bif decide (v2.1 = 4) then (x_p v2.2.1 [(-1), 100001]).bind fun v7 =>
  bif decide ((0 : Int) < ((v1.1.2.2.2.length : Nat) : Int)) then some ((v1.1.1, v1.1.2.1, v1.1.2.2.1, v1.1.2.2.2.set 0 v7.1), v1.2.1, v7.2.1, ())
  else none
 else some (v1.1, v1.2.1, v2.2.1, ())
def x_go (K : Nat) (a0 : List Int) : Option (x_o × Unit) :=
 (x_cx K a0).bind fun v1 =>
 (x_tn K v1.1).bind fun v2 =>
 some (v2.1, ())
def x_g7 (K : Nat) (a0 : List Int) : Option (x_a2 × Unit) :=
 (x_cx K a0).bind fun v1 =>
 (x_p v1.1 [(-2), (-1), 0, 100000, 100001]).bind fun v2 =>
 (x_f v2.2.1 12).bind fun v3 =>
 (x_on v3.2.1 [ByteArray.empty, (bs [97]), (bs [65])]).bind fun v4 =>
 some ((IntKind.i64.wrap (v3.1 - 1), v2.1, v4.1, ByteArray.empty), ())
def x_fq (K : Nat) (a0 : List Int) : Option (x_a2 × Unit) :=
 (x_g7 K a0).bind fun v1 =>
 some (v1.1, ())
def x_d0 (a0 : x_c) : Option (x_n × x_c × Unit) :=
 (x_f a0 3).bind fun v1 =>
 (x_p v1.2.1 [1, 2, 5]).bind fun v2 =>
 (x_p v2.2.1 [1, 2, 3, 8]).bind fun v3 =>
 (x_p v3.2.1 [0, 1, 3, 10]).bind fun v4 =>
 some ((IntKind.i64.wrap (1 + v1.1), v2.1, v3.1, v4.1), v4.2.1, ())
def x_gl (a0 : x_n) : Option (Bool × Unit) :=
 (x_a4 a0.1 1 4).bind fun v1 =>
 bif v1.1 then (x_a4 a0.2.1 1 5).bind fun v2 =>
  bif v2.1 then (x_a4 a0.2.2.1 1 8).bind fun v3 =>
   bif v3.1 then (x_a4 a0.2.2.2 0 60).bind fun v4 =>
    some (v4.1, ())
   else some (false, ())
  else some (false, ())
 else some (false, ())
def x_bg.l0b (K : Nat) (a0 : x_n) (L0 : Int → (List x_o) → Option (x_ao × Unit)) (q0 : Int) (q1 : List x_o) : Option (x_ao × Unit) :=
 bif decide (q0 < 2) then (x_lh a0.1).bind fun v2 =>
  bif decide ((q1.length + [v2.1].length) * 81 ≤ x_g) then L0 (IntKind.i64.wrap (q0 + 1)) (q1 ++ [v2.1])
  else none
 else some ((List.replicate (Int.toNat a0.1) zRow, [], q1, 0, List.replicate 4 0, List.replicate 4 x_e6), ())
def x_bg.l0 (K : Nat) (a0 : x_n) : Nat → Int → (List x_o) → Option (x_ao × Unit)
 | 0, _, _ => none
 | n + 1, q0, q1 => x_bg.l0b K a0 (x_bg.l0 K a0 n) q0 q1
def x_bg.b (K : Nat) (a0 : x_n) (L0 : Int → (List x_o) → Option (x_ao × Unit)) : Option (x_ao × Unit) :=
 (x_gl a0).bind fun v1 =>
 bif !v1.1 then some (([], [], [], 0, [], []), ())
 else bif decide (a0.1 = a0.1) then bif decide ((0 : Int) ≤ a0.1) then bif decide ((Int.toNat a0.1) * 41 ≤ x_g) then L0 0 []
 else none
 else none
 else none
def x_bg (K : Nat) (a0 : x_n) : Option (x_ao × Unit) := x_bg.b K a0 (x_bg.l0 K a0 K)
def x_mx (K : Nat) (a0 : x_n) : Option (x_ff × Unit) :=
 (x_gl a0).bind fun v1 =>
 bif !v1.1 then some ((0, 0, (0, 0, []), [], [], [], 0, [], []), ())
 else (x_bg K a0).bind fun v2 =>
 some ((0, (-1), (0, 0, []), v2.1), ())
def x_bh.l0b (K : Nat) (a0 : Int) (a1 : Int) (L0 : (List Int) → Int → Option ((List Int) × Unit)) (q0 : List Int) (q1 : Int) : Option ((List Int) × Unit) :=
 bif decide (q1 < a0) then bif decide ((q0.length + [a1].length) * 9 ≤ x_g) then L0 (q0 ++ [a1]) (IntKind.i64.wrap (q1 + 1))
  else none
 else some (q0, ())
def x_bh.l0 (K : Nat) (a0 : Int) (a1 : Int) : Nat → (List Int) → Int → Option ((List Int) × Unit)
 | 0, _, _ => none
 | n + 1, q0, q1 => x_bh.l0b K a0 a1 (x_bh.l0 K a0 a1 n) q0 q1
def x_bh.b (K : Nat) (a0 : Int) (a1 : Int) (L0 : (List Int) → Int → Option ((List Int) × Unit)) : Option ((List Int) × Unit) :=
 L0 [] 0
def x_bh (K : Nat) (a0 : Int) (a1 : Int) : Option ((List Int) × Unit) := x_bh.b K a0 a1 (x_bh.l0 K a0 a1 K)
def x_cs (a0 : TLog) : Option (Int × Int × Unit) :=
 bif decide (((a0.2.2.length : Nat) : Int) = 0) then some (a0.1, a0.2.1, ())
 else bif decide ((0 : Int) ≤ (IntKind.i64.wrap (((a0.2.2.length : Nat) : Int) - 1))) then bif decide ((IntKind.i64.wrap (((a0.2.2.length : Nat) : Int) - 1)) < ((a0.2.2.length : Nat) : Int)) then some (IntKind.i64.wrap (a0.1 + ((a0.2.2.length : Nat) : Int)), (a0.2.2.getD (Int.toNat (IntKind.i64.wrap (((a0.2.2.length : Nat) : Int) - 1))) x_ck).1, ())
 else none
 else none
def x_sa (K : Nat) (a0 : TCmd) : Option (Bool × Unit) :=
 bif decide (a0.1 = (-1)) then some (qCmd a0 ((-1), 0, 0, 0, 0, 0, ByteArray.empty, ByteArray.empty), ())
 else (x_a4 a0.1 0 3).bind fun v1 =>
 bif v1.1 then (x_a4 a0.2.1 1 100000).bind fun v2 =>
  bif v2.1 then (x_a4 a0.2.2.1 1 10).bind fun v3 =>
   bif v3.1 then (x_a4 a0.2.2.2.1 0 100000).bind fun v4 =>
    bif v4.1 then (x_a4 a0.2.2.2.2.1 0 100000).bind fun v5 =>
     bif v5.1 then (x_a4 a0.2.2.2.2.2.1 0 100000).bind fun v6 =>
      bif v6.1 then (x_bw K a0.2.2.2.2.2.2.1).bind fun v7 =>
       bif v7.1 then (x_bw K a0.2.2.2.2.2.2.2).bind fun v8 =>
        some (v8.1, ())
       else some (false, ())
      else some (false, ())
     else some (false, ())
    else some (false, ())
   else some (false, ())
  else some (false, ())
 else some (false, ())
def x_c4.l0b (K : Nat) (a0 : TLog) (L0 : Int → Int → Option (Bool × Unit)) (q0 : Int) (q1 : Int) : Option (Bool × Unit) :=
 bif decide (q1 < ((a0.2.2.length : Nat) : Int)) then bif decide ((0 : Int) ≤ q1) then bif decide (q1 < ((a0.2.2.length : Nat) : Int)) then (x_a4 (a0.2.2.getD (Int.toNat q1) x_ck).1 q0 300).bind fun v3 =>
  bif !v3.1 then some (false, ())
  else bif decide ((0 : Int) ≤ q1) then bif decide (q1 < ((a0.2.2.length : Nat) : Int)) then (x_sa K (a0.2.2.getD (Int.toNat q1) x_ck).2).bind fun v4 =>
  bif !v4.1 then some (false, ())
  else bif decide ((0 : Int) ≤ q1) then bif decide (q1 < ((a0.2.2.length : Nat) : Int)) then L0 (a0.2.2.getD (Int.toNat q1) x_ck).1 (IntKind.i64.wrap (q1 + 1))
  else none
  else none
  else none
  else none
  else none
  else none
 else some (true, ())
def x_c4.l0 (K : Nat) (a0 : TLog) : Nat → Int → Int → Option (Bool × Unit)
 | 0, _, _ => none
 | n + 1, q0, q1 => x_c4.l0b K a0 (x_c4.l0 K a0 n) q0 q1
def x_c4.b (K : Nat) (a0 : TLog) (L0 : Int → Int → Option (Bool × Unit)) : Option (Bool × Unit) :=
 (x_a4 a0.1 0 300).bind fun v1 =>
 bif !v1.1 then some (false, ())
 else (x_a4 a0.2.1 0 300).bind fun v2 =>
 bif !v2.1 then some (false, ())
 else bif decide (((a0.2.2.length : Nat) : Int) > (IntKind.i64.wrap (300 - a0.1))) then some (false, ())
 else L0 a0.2.1 0
def x_c4 (K : Nat) (a0 : TLog) : Option (Bool × Unit) := x_c4.b K a0 (x_c4.l0 K a0 K)
def x_a3.j0 (K : Nat) (a0 : x_v) : Option (Bool × Unit) :=
 (x_a4 a0.1 0 3).bind fun v2 =>
 bif v2.1 then (x_a4 a0.2.1 0 3).bind fun v3 =>
  bif v3.1 then (x_a4 a0.2.2.1 0 100000).bind fun v4 =>
   bif v4.1 then (x_a4 a0.2.2.2.1 (-1) 100000).bind fun v5 =>
    some (v5.1, ())
   else some (false, ())
  else some (false, ())
 else some (false, ())
def x_a3.l0b (K : Nat) (a0 : x_v) (a1 : Int) (L0 : Int → Option (Bool × Unit)) (q0 : Int) : Option (Bool × Unit) :=
 bif decide (q0 < ((a0.2.2.2.2.length : Nat) : Int)) then bif decide ((0 : Int) ≤ q0) then bif decide (q0 < ((a0.2.2.2.2.length : Nat) : Int)) then (x_a4 (a0.2.2.2.2.getD (Int.toNat q0) x_wg).2 0 100000).bind fun v1 =>
  bif !v1.1 then some (false, ())
  else bif decide ((0 : Int) ≤ q0) then bif decide (q0 < ((a0.2.2.2.2.length : Nat) : Int)) then bif !(decide ((a0.2.2.2.2.getD (Int.toNat q0) x_wg).1 = (IntKind.i64.wrap (a0.2.2.2.1 - (IntKind.i64.wrap ((IntKind.i64.wrap (((a0.2.2.2.2.length : Nat) : Int) - 1)) - q0)))))) then some (false, ())
  else bif decide (q0 > 0) then bif decide ((0 : Int) ≤ (IntKind.i64.wrap (q0 - 1))) then bif decide ((IntKind.i64.wrap (q0 - 1)) < ((a0.2.2.2.2.length : Nat) : Int)) then bif decide ((0 : Int) ≤ q0) then bif decide (q0 < ((a0.2.2.2.2.length : Nat) : Int)) then bif decide ((a0.2.2.2.2.getD (Int.toNat (IntKind.i64.wrap (q0 - 1))) x_wg).2 ≥ (a0.2.2.2.2.getD (Int.toNat q0) x_wg).2) then some (false, ())
   else L0 (IntKind.i64.wrap (q0 + 1))
   else none
   else none
   else none
   else none
  else L0 (IntKind.i64.wrap (q0 + 1))
  else none
  else none
  else none
  else none
 else bif decide (((a0.2.2.2.2.length : Nat) : Int) > a1) then some (false, ())
 else bif decide (((a0.2.2.2.2.length : Nat) : Int) > (IntKind.i64.wrap (a0.2.2.2.1 + 1))) then some (false, ())
 else bif decide (a0.2.2.2.1 ≥ 0) then bif decide (((a0.2.2.2.2.length : Nat) : Int) = 0) then some (false, ())
  else x_a3.j0 K a0
 else x_a3.j0 K a0
def x_a3.l0 (K : Nat) (a0 : x_v) (a1 : Int) : Nat → Int → Option (Bool × Unit)
 | 0, _ => none
 | n + 1, q0 => x_a3.l0b K a0 a1 (x_a3.l0 K a0 a1 n) q0
def x_a3.b (K : Nat) (a0 : x_v) (a1 : Int) (L0 : Int → Option (Bool × Unit)) : Option (Bool × Unit) :=
 L0 0
def x_a3 (K : Nat) (a0 : x_v) (a1 : Int) : Option (Bool × Unit) := x_a3.b K a0 a1 (x_a3.l0 K a0 a1 K)
def x_ay.l0b (K : Nat) (a0 : x_n) (a1 : List x_v) (L0 : Int → Option (Bool × Unit)) (q0 : Int) : Option (Bool × Unit) :=
 bif decide (q0 < ((a1.length : Nat) : Int)) then bif decide ((0 : Int) ≤ q0) then bif decide (q0 < ((a1.length : Nat) : Int)) then (x_a3 K (a1.getD (Int.toNat q0) x_b5) a0.2.1).bind fun v1 =>
  bif !v1.1 then some (false, ())
  else bif decide ((a1.getD (Int.toNat q0) x_b5).1 ≥ a0.1) then some (false, ())
  else bif decide (q0 > 0) then bif decide ((0 : Int) ≤ (IntKind.i64.wrap (q0 - 1))) then bif decide ((IntKind.i64.wrap (q0 - 1)) < ((a1.length : Nat) : Int)) then bif decide ((a1.getD (Int.toNat (IntKind.i64.wrap (q0 - 1))) x_b5).1 > (a1.getD (Int.toNat q0) x_b5).1) then some (false, ())
   else bif decide ((0 : Int) ≤ (IntKind.i64.wrap (q0 - 1))) then bif decide ((IntKind.i64.wrap (q0 - 1)) < ((a1.length : Nat) : Int)) then bif decide ((a1.getD (Int.toNat (IntKind.i64.wrap (q0 - 1))) x_b5).1 = (a1.getD (Int.toNat q0) x_b5).1) then bif decide ((0 : Int) ≤ (IntKind.i64.wrap (q0 - 1))) then bif decide ((IntKind.i64.wrap (q0 - 1)) < ((a1.length : Nat) : Int)) then bif decide ((a1.getD (Int.toNat (IntKind.i64.wrap (q0 - 1))) x_b5).2.1 ≥ (a1.getD (Int.toNat q0) x_b5).2.1) then some (false, ())
    else L0 (IntKind.i64.wrap (q0 + 1))
    else none
    else none
   else L0 (IntKind.i64.wrap (q0 + 1))
   else none
   else none
   else none
   else none
  else L0 (IntKind.i64.wrap (q0 + 1))
  else none
  else none
 else some (true, ())
def x_ay.l0 (K : Nat) (a0 : x_n) (a1 : List x_v) : Nat → Int → Option (Bool × Unit)
 | 0, _ => none
 | n + 1, q0 => x_ay.l0b K a0 a1 (x_ay.l0 K a0 a1 n) q0
def x_ay.b (K : Nat) (a0 : x_n) (a1 : List x_v) (L0 : Int → Option (Bool × Unit)) : Option (Bool × Unit) :=
 L0 0
def x_ay (K : Nat) (a0 : x_n) (a1 : List x_v) : Option (Bool × Unit) := x_ay.b K a0 a1 (x_ay.l0 K a0 a1 K)
def x_8.l0b (K : Nat) (a0 : x_o) (a1 : Int) (L0 : Int → Option (Bool × Unit)) (L1 : Int → Option (Bool × Unit)) (q0 : Int) : Option (Bool × Unit) :=
 bif decide (q0 < ((a0.2.1.length : Nat) : Int)) then bif decide ((0 : Int) ≤ q0) then bif decide (q0 < ((a0.2.1.length : Nat) : Int)) then (x_a4 (a0.2.1.getD (Int.toNat q0) 0) 0 3).bind fun v2 =>
  bif !v2.1 then some (false, ())
  else bif decide (q0 > 0) then bif decide ((0 : Int) ≤ (IntKind.i64.wrap (q0 - 1))) then bif decide ((IntKind.i64.wrap (q0 - 1)) < ((a0.2.1.length : Nat) : Int)) then bif decide ((0 : Int) ≤ q0) then bif decide (q0 < ((a0.2.1.length : Nat) : Int)) then bif decide ((a0.2.1.getD (Int.toNat (IntKind.i64.wrap (q0 - 1))) 0) ≥ (a0.2.1.getD (Int.toNat q0) 0)) then some (false, ())
   else bif decide ((0 : Int) ≤ q0) then bif decide (q0 < ((a0.2.2.1.length : Nat) : Int)) then (x_a4 (a0.2.2.1.getD (Int.toNat q0) 0) 0 100000).bind fun v3 =>
   bif !v3.1 then some (false, ())
   else L0 (IntKind.i64.wrap (q0 + 1))
   else none
   else none
   else none
   else none
   else none
   else none
  else bif decide ((0 : Int) ≤ q0) then bif decide (q0 < ((a0.2.2.1.length : Nat) : Int)) then (x_a4 (a0.2.2.1.getD (Int.toNat q0) 0) 0 100000).bind fun v4 =>
  bif !v4.1 then some (false, ())
  else L0 (IntKind.i64.wrap (q0 + 1))
  else none
  else none
  else none
  else none
 else L1 0
def x_8.l1b (K : Nat) (a0 : x_o) (a1 : Int) (L1 : Int → Option (Bool × Unit)) (q1 : Int) : Option (Bool × Unit) :=
 bif decide (q1 < ((a0.2.2.2.length : Nat) : Int)) then bif decide ((0 : Int) ≤ q1) then bif decide (q1 < ((a0.2.2.2.length : Nat) : Int)) then (x_a4 (a0.2.2.2.getD (Int.toNat q1) 0) 0 100000).bind fun v5 =>
  bif !v5.1 then some (false, ())
  else L1 (IntKind.i64.wrap (q1 + 1))
  else none
  else none
 else some (true, ())
def x_8.l1 (K : Nat) (a0 : x_o) (a1 : Int) : Nat → Int → Option (Bool × Unit)
 | 0, _ => none
 | n + 1, q1 => x_8.l1b K a0 a1 (x_8.l1 K a0 a1 n) q1
def x_8.l0 (K : Nat) (a0 : x_o) (a1 : Int) : Nat → Int → Option (Bool × Unit)
 | 0, _ => none
 | n + 1, q0 => x_8.l0b K a0 a1 (x_8.l0 K a0 a1 n) (x_8.l1 K a0 a1 K) q0
def x_8.b (K : Nat) (a0 : x_o) (a1 : Int) (L0 : Int → Option (Bool × Unit)) : Option (Bool × Unit) :=
 bif !(decide (((a0.2.2.1.length : Nat) : Int) = ((a0.2.1.length : Nat) : Int))) then some (false, ())
 else bif !(decide (((a0.2.2.2.length : Nat) : Int) = a1)) then some (false, ())
 else (x_a4 a0.1 0 100000).bind fun v1 =>
 bif !v1.1 then some (false, ())
 else L0 0
def x_8 (K : Nat) (a0 : x_o) (a1 : Int) : Option (Bool × Unit) := x_8.b K a0 a1 (x_8.l0 K a0 a1 K)
def x_pu (K : Nat) (a0 : x_a2) : Option (Bool × Unit) :=
 (x_a4 a0.1 0 9).bind fun v1 =>
 bif v1.1 then (x_a4 a0.2.1 (-1) 100000).bind fun v2 =>
  bif v2.1 then (x_bw K a0.2.2.1).bind fun v3 =>
   bif v3.1 then (x_bw K a0.2.2.2).bind fun v4 =>
    some (v4.1, ())
   else some (false, ())
  else some (false, ())
 else some (false, ())
def x_z.l0b (K : Nat) (a0 : x_n) (a1 : x_ao) (L0 : Int → Option (Bool × Unit)) (L1 : Int → Option (Bool × Unit)) (q0 : Int) : Option (Bool × Unit) :=
 bif decide (q0 < a0.1) then bif decide ((0 : Int) ≤ q0) then bif decide (q0 < ((a1.1.length : Nat) : Int)) then (x_cn K (a1.1.getD (Int.toNat q0) zRow)).bind fun v4 =>
  bif !v4.1 then some (false, ())
  else L0 (IntKind.i64.wrap (q0 + 1))
  else none
  else none
 else L1 0
def x_z.l1b (K : Nat) (a0 : x_n) (a1 : x_ao) (L1 : Int → Option (Bool × Unit)) (L2 : Int → Option (Bool × Unit)) (q1 : Int) : Option (Bool × Unit) :=
 bif decide (q1 < 2) then bif decide ((0 : Int) ≤ q1) then bif decide (q1 < ((a1.2.2.1.length : Nat) : Int)) then (x_8 K (a1.2.2.1.getD (Int.toNat q1) x_d9) a0.1).bind fun v5 =>
  bif !v5.1 then some (false, ())
  else L1 (IntKind.i64.wrap (q1 + 1))
  else none
  else none
 else L2 0
def x_z.l2b (K : Nat) (a0 : x_n) (a1 : x_ao) (L2 : Int → Option (Bool × Unit)) (q2 : Int) : Option (Bool × Unit) :=
 bif decide (q2 < 4) then bif decide ((0 : Int) ≤ q2) then bif decide (q2 < ((a1.2.2.2.2.1.length : Nat) : Int)) then (x_a4 (a1.2.2.2.2.1.getD (Int.toNat q2) 0) 0 100000).bind fun v6 =>
  bif !v6.1 then some (false, ())
  else bif decide ((0 : Int) ≤ q2) then bif decide (q2 < ((a1.2.2.2.2.2.length : Nat) : Int)) then (x_pu K (a1.2.2.2.2.2.getD (Int.toNat q2) x_e6)).bind fun v7 =>
  bif !v7.1 then some (false, ())
  else L2 (IntKind.i64.wrap (q2 + 1))
  else none
  else none
  else none
  else none
 else some (true, ())
def x_z.l2 (K : Nat) (a0 : x_n) (a1 : x_ao) : Nat → Int → Option (Bool × Unit)
 | 0, _ => none
 | n + 1, q2 => x_z.l2b K a0 a1 (x_z.l2 K a0 a1 n) q2
def x_z.l1 (K : Nat) (a0 : x_n) (a1 : x_ao) : Nat → Int → Option (Bool × Unit)
 | 0, _ => none
 | n + 1, q1 => x_z.l1b K a0 a1 (x_z.l1 K a0 a1 n) (x_z.l2 K a0 a1 K) q1
def x_z.l0 (K : Nat) (a0 : x_n) (a1 : x_ao) : Nat → Int → Option (Bool × Unit)
 | 0, _ => none
 | n + 1, q0 => x_z.l0b K a0 a1 (x_z.l0 K a0 a1 n) (x_z.l1 K a0 a1 K) q0
def x_z.b (K : Nat) (a0 : x_n) (a1 : x_ao) (L0 : Int → Option (Bool × Unit)) : Option (Bool × Unit) :=
 (x_gl a0).bind fun v1 =>
 bif !v1.1 then some (false, ())
 else bif !(decide (((a1.1.length : Nat) : Int) = a0.1)) then some (false, ())
 else bif !(decide (((a1.2.2.1.length : Nat) : Int) = 2)) then some (false, ())
 else bif !(decide (((a1.2.2.2.2.1.length : Nat) : Int) = 4)) then some (false, ())
 else bif !(decide (((a1.2.2.2.2.2.length : Nat) : Int) = 4)) then some (false, ())
 else (x_a4 a1.2.2.2.1 0 100000).bind fun v2 =>
 bif !v2.1 then some (false, ())
 else (x_ay K a0 a1.2.1).bind fun v3 =>
 bif !v3.1 then some (false, ())
 else L0 0
def x_z (K : Nat) (a0 : x_n) (a1 : x_ao) : Option (Bool × Unit) := x_z.b K a0 a1 (x_z.l0 K a0 a1 K)
def x_q1 (K : Nat) (a0 : x_n) (a1 : x_ff) : Option (Bool × Unit) :=
 (x_cs a1.2.2.1).bind fun v1 =>
 (x_a4 a1.1 0 300).bind fun v2 =>
 bif v2.1 then (x_a4 a1.2.1 (-1) 4).bind fun v3 =>
  bif v3.1 then (x_c4 K a1.2.2.1).bind fun v4 =>
   bif v4.1 then bif decide (v1.2.1 ≤ a1.1) then (x_z K a0 a1.2.2.2).bind fun v5 =>
     some (v5.1, ())
    else some (false, ())
   else some (false, ())
  else some (false, ())
 else some (false, ())
def x_b2.l0b (K : Nat) (a0 : List x_au) (a1 : Int) (L0 : Int → Option (Bool × Unit)) (q0 : Int) : Option (Bool × Unit) :=
 bif decide (q0 < ((a0.length : Nat) : Int)) then bif decide ((0 : Int) ≤ q0) then bif decide (q0 < ((a0.length : Nat) : Int)) then (x_a4 (a0.getD (Int.toNat q0) x_ck).1 0 a1).bind fun v1 =>
  bif !v1.1 then some (false, ())
  else bif decide ((0 : Int) ≤ q0) then bif decide (q0 < ((a0.length : Nat) : Int)) then (x_sa K (a0.getD (Int.toNat q0) x_ck).2).bind fun v2 =>
  bif !v2.1 then some (false, ())
  else L0 (IntKind.i64.wrap (q0 + 1))
  else none
  else none
  else none
  else none
 else some (decide (((a0.length : Nat) : Int) ≤ 40), ())
def x_b2.l0 (K : Nat) (a0 : List x_au) (a1 : Int) : Nat → Int → Option (Bool × Unit)
 | 0, _ => none
 | n + 1, q0 => x_b2.l0b K a0 a1 (x_b2.l0 K a0 a1 n) q0
def x_b2.b (K : Nat) (a0 : List x_au) (a1 : Int) (L0 : Int → Option (Bool × Unit)) : Option (Bool × Unit) :=
 L0 0
def x_b2 (K : Nat) (a0 : List x_au) (a1 : Int) : Option (Bool × Unit) := x_b2.b K a0 a1 (x_b2.l0 K a0 a1 K)
def x_yg (K : Nat) (a0 : TRpc) (a1 : Int) : Option (Bool × Unit) :=
 (x_a4 a0.1 1 5).bind fun v1 =>
 bif !v1.1 then some (false, ())
 else (x_a4 a1 1 5).bind fun v2 =>
 bif !v2.1 then some (false, ())
 else (x_a4 a0.2.1 0 (IntKind.i64.wrap (a1 - 1))).bind fun v3 =>
 bif !v3.1 then some (false, ())
 else (x_a4 a0.2.2.1 0 (IntKind.i64.wrap (a1 - 1))).bind fun v4 =>
 bif !v4.1 then some (false, ())
 else bif decide (a0.2.1 = a0.2.2.1) then some (false, ())
 else (x_a4 a0.2.2.2.1 0 300).bind fun v5 =>
 bif v5.1 then (x_a4 a0.2.2.2.2.1 0 300).bind fun v6 =>
  bif v6.1 then (x_a4 a0.2.2.2.2.2.1 0 300).bind fun v7 =>
   bif v7.1 then (x_a4 a0.2.2.2.2.2.2.1 0 300).bind fun v8 =>
    bif v8.1 then (x_b2 K a0.2.2.2.2.2.2.2.1 a0.2.2.2.1).bind fun v9 =>
     bif v9.1 then some (decide (((a0.2.2.2.2.2.2.2.2.2.size : Nat) : Int) ≤ 30000), ())
     else some (false, ())
    else some (false, ())
   else some (false, ())
  else some (false, ())
 else some (false, ())
def x_oe (a0 : x_1h) : Option (Bool × Unit) :=
 bif decide (((a0.1.length : Nat) : Int) ≤ 80000) then (x_a4 a0.2 0 ((a0.1.length : Nat) : Int)).bind fun v1 =>
  some (v1.1, ())
 else some (false, ())
def x_3.l0b (K : Nat) (a0 : x_n) (a1 : x_bt) (a2 : Int) (L0 : (Int × Int × Unit) → Int → Option (Bool × Unit)) (L1 : (Int × Int × Unit) → Int → Option (Bool × Unit)) (v5 : Int × Int × Unit) (q0 : Int) : Option (Bool × Unit) :=
 bif decide (q0 < a2) then bif decide ((0 : Int) ≤ q0) then bif decide (q0 < ((a1.2.2.2.2.1.length : Nat) : Int)) then (x_a4 (a1.2.2.2.2.1.getD (Int.toNat q0) 0) 1 (IntKind.i64.wrap (v5.1 + 1))).bind fun v6 =>
  bif !v6.1 then some (false, ())
  else bif decide ((0 : Int) ≤ q0) then bif decide (q0 < ((a1.2.2.2.2.2.1.length : Nat) : Int)) then (x_a4 (a1.2.2.2.2.2.1.getD (Int.toNat q0) 0) 0 v5.1).bind fun v7 =>
  bif !v7.1 then some (false, ())
  else L0 v5 (IntKind.i64.wrap (q0 + 1))
  else none
  else none
  else none
  else none
 else L1 v5 0
def x_3.l1b (K : Nat) (a0 : x_n) (a1 : x_bt) (a2 : Int) (L1 : (Int × Int × Unit) → Int → Option (Bool × Unit)) (v5 : Int × Int × Unit) (q1 : Int) : Option (Bool × Unit) :=
 bif decide (q1 < ((a1.2.2.2.2.2.2.2.2.2.length : Nat) : Int)) then bif decide ((0 : Int) ≤ q1) then bif decide (q1 < ((a1.2.2.2.2.2.2.2.2.2.length : Nat) : Int)) then (x_yg K (a1.2.2.2.2.2.2.2.2.2.getD (Int.toNat q1) zRpc) a2).bind fun v8 =>
  bif !v8.1 then some (false, ())
  else bif decide ((0 : Int) ≤ q1) then bif decide (q1 < ((a1.2.2.2.2.2.2.2.2.2.length : Nat) : Int)) then bif !(decide ((a1.2.2.2.2.2.2.2.2.2.getD (Int.toNat q1) zRpc).2.1 = a1.1)) then some (false, ())
  else L1 v5 (IntKind.i64.wrap (q1 + 1))
  else none
  else none
  else none
  else none
 else (x_a4 a1.2.2.2.2.2.2.1 a1.2.1.2.2.1.1 v5.1).bind fun v9 =>
 bif v9.1 then (x_z K a0 a1.2.2.2.2.2.2.2.1).bind fun v10 =>
  bif v10.1 then (x_oe a1.2.2.2.2.2.2.2.2.1).bind fun v11 =>
   bif v11.1 then some (decide (((a1.2.2.2.2.2.2.2.2.2.length : Nat) : Int) ≤ 40), ())
   else some (false, ())
  else some (false, ())
 else some (false, ())
def x_3.l1 (K : Nat) (a0 : x_n) (a1 : x_bt) (a2 : Int) : Nat → (Int × Int × Unit) → Int → Option (Bool × Unit)
 | 0, _, _ => none
 | n + 1, v5, q1 => x_3.l1b K a0 a1 a2 (x_3.l1 K a0 a1 a2 n) v5 q1
def x_3.l0 (K : Nat) (a0 : x_n) (a1 : x_bt) (a2 : Int) : Nat → (Int × Int × Unit) → Int → Option (Bool × Unit)
 | 0, _, _ => none
 | n + 1, v5, q0 => x_3.l0b K a0 a1 a2 (x_3.l0 K a0 a1 a2 n) (x_3.l1 K a0 a1 a2 K) v5 q0
def x_3.b (K : Nat) (a0 : x_n) (a1 : x_bt) (a2 : Int) (L0 : (Int × Int × Unit) → Int → Option (Bool × Unit)) : Option (Bool × Unit) :=
 (x_a4 a2 1 5).bind fun v1 =>
 bif !v1.1 then some (false, ())
 else (x_a4 a1.1 0 (IntKind.i64.wrap (a2 - 1))).bind fun v2 =>
 bif !v2.1 then some (false, ())
 else (x_q1 K a0 a1.2.1).bind fun v3 =>
 bif !v3.1 then some (false, ())
 else bif decide (a1.2.1.2.1 ≥ a2) then some (false, ())
 else (x_a4 a1.2.2.1 0 2).bind fun v4 =>
 bif !v4.1 then some (false, ())
 else bif !(decide (((a1.2.2.2.1.length : Nat) : Int) = a2)) then some (false, ())
 else bif !(decide (((a1.2.2.2.2.1.length : Nat) : Int) = a2)) then some (false, ())
 else bif !(decide (((a1.2.2.2.2.2.1.length : Nat) : Int) = a2)) then some (false, ())
 else (x_cs a1.2.1.2.2.1).bind fun v5 =>
 L0 v5 0
def x_3 (K : Nat) (a0 : x_n) (a1 : x_bt) (a2 : Int) : Option (Bool × Unit) := x_3.b K a0 a1 a2 (x_3.l0 K a0 a1 a2 K)
def x_tc (K : Nat) (a0 : x_n) (a1 : Int) (a2 : Int) : Option (x_bt × Bool × Unit) :=
 (x_gl a0).bind fun v1 =>
 bif !v1.1 then some ((0, (0, 0, (0, 0, []), [], [], [], 0, [], []), 0, [], [], [], 0, ([], [], [], 0, [], []), ([], 0), []), false, ())
 else (x_a4 a2 1 5).bind fun v2 =>
 bif !v2.1 then some ((0, (0, 0, (0, 0, []), [], [], [], 0, [], []), 0, [], [], [], 0, ([], [], [], 0, [], []), ([], 0), []), false, ())
 else (x_mx K a0).bind fun v3 =>
 bif decide (a2 = a2) then bif decide ((0 : Int) ≤ a2) then bif decide ((Int.toNat a2) * 2 ≤ x_g) then (x_bh K a2 1).bind fun v4 =>
 bif decide (a2 = a2) then bif decide ((0 : Int) ≤ a2) then bif decide ((Int.toNat a2) * 9 ≤ x_g) then (x_bg K a0).bind fun v5 =>
 (x_3 K a0 (a1, v3.1, 0, List.replicate (Int.toNat a2) false, v4.1, List.replicate (Int.toNat a2) 0, 0, v5.1, ([], 0), []) a2).bind fun v6 =>
 bif !v6.1 then some ((0, (0, 0, (0, 0, []), [], [], [], 0, [], []), 0, [], [], [], 0, ([], [], [], 0, [], []), ([], 0), []), false, ())
 else some ((a1, v3.1, 0, List.replicate (Int.toNat a2) false, v4.1, List.replicate (Int.toNat a2) 0, 0, v5.1, ([], 0), []), true, ())
 else none
 else none
 else none
 else none
 else none
 else none
def x_a6.l0b (K : Nat) (a0 : x_n) (a1 : Int) (L0 : Int → (List x_bt) → Option (x_r × Bool × Unit)) (q0 : Int) (q1 : List x_bt) : Option (x_r × Bool × Unit) :=
 bif decide (q0 < a1) then (x_tc K a0 q0 a1).bind fun v3 =>
  bif !v3.2.1 then some (((0, 0, 0, 0), 0, [], [], [], [], [], []), false, ())
  else bif decide ((q1.length + [v3.1].length) * 465 ≤ x_g) then L0 (IntKind.i64.wrap (q0 + 1)) (q1 ++ [v3.1])
  else none
 else some ((a0, a1, q1, [], List.replicate 4 zCmd, List.replicate 4 0, [], []), true, ())
def x_a6.l0 (K : Nat) (a0 : x_n) (a1 : Int) : Nat → Int → (List x_bt) → Option (x_r × Bool × Unit)
 | 0, _, _ => none
 | n + 1, q0, q1 => x_a6.l0b K a0 a1 (x_a6.l0 K a0 a1 n) q0 q1
def x_a6.b (K : Nat) (a0 : x_n) (a1 : Int) (L0 : Int → (List x_bt) → Option (x_r × Bool × Unit)) : Option (x_r × Bool × Unit) :=
 (x_gl a0).bind fun v1 =>
 bif !v1.1 then some (((0, 0, 0, 0), 0, [], [], [], [], [], []), false, ())
 else (x_a4 a1 1 5).bind fun v2 =>
 bif !v2.1 then some (((0, 0, 0, 0), 0, [], [], [], [], [], []), false, ())
 else L0 0 []
def x_a6 (K : Nat) (a0 : x_n) (a1 : Int) : Option (x_r × Bool × Unit) := x_a6.b K a0 a1 (x_a6.l0 K a0 a1 K)
def x_hl (a0 : Int) (a1 : Int) : Option (Int × Unit) :=
 bif decide (a0 > a1) then some (a0, ())
 else some (a1, ())
def x_ey (a0 : x_c) : Option (TCmd × x_c × Unit) :=
 (x_p a0 [1, 1, 1, 2, 2, 3, 4, 4, 5, 6, 7, 8, 9, 10]).bind fun v1 =>
 (x_f v1.2.1 3).bind fun v2 =>
 (x_f v2.2.1 4).bind fun v3 =>
 (x_f v3.2.1 3).bind fun v4 =>
 bif decide (v1.1 = 1) then (x_eo v4.2.1).bind fun v5 =>
  (x_eo v5.2.1).bind fun v6 =>
  (x_p v6.2.1 [0, 0, 0, 1]).bind fun v7 =>
  some ((0, 0, v1.1, v2.1, v3.1, v7.1, v5.1, v6.1), v7.2.1, ())
 else bif decide (v1.1 = 8) then (x_p v4.2.1 [0, 10, 60]).bind fun v8 =>
  some ((0, 0, v1.1, v8.1, v3.1, v4.1, ByteArray.empty, ByteArray.empty), v8.2.1, ())
 else some ((0, 0, v1.1, v2.1, v3.1, v4.1, ByteArray.empty, ByteArray.empty), v4.2.1, ())
def x_mr (a0 : x_c) (a1 : Int) : Option (Bool × x_c × Unit) :=
 (x_f a0 a1).bind fun v1 =>
 some (decide (v1.1 = 0), v1.2.1, ())
def x_h.j0 (K : Nat) (L1 : (Int × Unit) → (Int × x_c × Unit) → Int → (Int × x_c × Unit) → Option (x_i9 × x_c × Unit)) (p11 : Bool) (v1 : Int × Unit) (v2 : Int × x_c × Unit) (v4 : Int × x_c × Unit) (q0 : Int) (v3 : Int × x_c × Unit) (a1 : x_r) : Option (x_i9 × x_c × Unit) :=
 bif p11 then L1 v1 v2 0 v4
 else bif decide (v4.1 = 11) then (x_p v4.2.1 [0, 0, 3, 12, 99999]).bind fun v12 =>
  some ((9, v2.1, v12.1, 0, 0, 0, 0, 0, 0, ByteArray.empty, ByteArray.empty), v12.2.1, ())
 else bif decide (v4.1 = 12) then some ((10, v2.1, 0, 0, 0, 0, 0, 0, 0, ByteArray.empty, ByteArray.empty), v4.2.1, ())
 else bif decide (v4.1 = 13) then some ((11, q0, v3.1, 0, 0, 0, 0, 0, 0, ByteArray.empty, ByteArray.empty), v4.2.1, ())
 else bif decide (v4.1 = 14) then some ((11, q0, v3.1, 0, 0, 0, 0, 0, 0, ByteArray.empty, ByteArray.empty), v4.2.1, ())
 else bif decide (v4.1 = 15) then (x_f v4.2.1 2).bind fun v13 =>
  (x_hl ((a1.2.2.2.1.length : Nat) : Int) 1).bind fun v14 =>
  (x_f v13.2.1 v14.1).bind fun v15 =>
  some ((IntKind.i64.wrap (5 + v13.1), v15.1, 0, 0, 0, 0, 0, 0, 0, ByteArray.empty, ByteArray.empty), v15.2.1, ())
 else bif decide (((a1.2.2.2.1.length : Nat) : Int) = 0) then (x_mr v4.2.1 2).bind fun v16 =>
  bif v16.1 then some ((1, v2.1, 0, 0, 0, 0, 0, 0, 0, ByteArray.empty, ByteArray.empty), v16.2.1, ())
  else (x_hl ((a1.2.2.2.1.length : Nat) : Int) 1).bind fun v17 =>
  (x_f v16.2.1 v17.1).bind fun v18 =>
  some ((4, v18.1, 0, 0, 0, 0, 0, 0, 0, ByteArray.empty, ByteArray.empty), v18.2.1, ())
 else (x_hl ((a1.2.2.2.1.length : Nat) : Int) 1).bind fun v19 =>
 (x_f v4.2.1 v19.1).bind fun v20 =>
 some ((4, v20.1, 0, 0, 0, 0, 0, 0, 0, ByteArray.empty, ByteArray.empty), v20.2.1, ())
def x_h.l0b (K : Nat) (a0 : x_c) (a1 : x_r) (L0 : (Int × Unit) → (Int × x_c × Unit) → Int → Int → Option (x_i9 × x_c × Unit)) (L1 : (Int × Unit) → (Int × x_c × Unit) → Int → (Int × x_c × Unit) → Option (x_i9 × x_c × Unit)) (v1 : Int × Unit) (v2 : Int × x_c × Unit) (q0 : Int) (q1 : Int) : Option (x_i9 × x_c × Unit) :=
 bif decide (q1 < ((a1.2.2.1.length : Nat) : Int)) then bif decide ((0 : Int) ≤ q1) then bif decide (q1 < ((a1.2.2.1.length : Nat) : Int)) then bif decide ((a1.2.2.1.getD (Int.toNat q1) x_ci).2.2.1 = 2) then L0 v1 v2 q1 (IntKind.i64.wrap (q1 + 1))
  else L0 v1 v2 q0 (IntKind.i64.wrap (q1 + 1))
  else none
  else none
 else (x_f v2.2.1 4).bind fun v3 =>
 (x_f v3.2.1 22).bind fun v4 =>
 bif decide (v4.1 = 0) then some ((1, v2.1, 0, 0, 0, 0, 0, 0, 0, ByteArray.empty, ByteArray.empty), v4.2.1, ())
 else bif decide (v4.1 = 1) then (x_ey v4.2.1).bind fun v5 =>
  some ((7, q0, v3.1, v5.1), v5.2.1, ())
 else bif decide (v4.1 = 2) then (x_ey v4.2.1).bind fun v6 =>
  some ((7, q0, v3.1, v6.1), v6.2.1, ())
 else bif decide (v4.1 = 3) then (x_ey v4.2.1).bind fun v7 =>
  some ((7, q0, v3.1, v7.1), v7.2.1, ())
 else bif decide (v4.1 = 4) then some ((8, q0, v3.1, 0, 0, 0, 0, 0, 0, ByteArray.empty, ByteArray.empty), v4.2.1, ())
 else bif decide (v4.1 = 5) then (x_f v4.2.1 v1.1).bind fun v8 =>
  some ((2, q0, v8.1, 0, 0, 0, 0, 0, 0, ByteArray.empty, ByteArray.empty), v8.2.1, ())
 else bif decide (v4.1 = 6) then (x_f v4.2.1 v1.1).bind fun v9 =>
  some ((2, q0, v9.1, 0, 0, 0, 0, 0, 0, ByteArray.empty, ByteArray.empty), v9.2.1, ())
 else bif decide (v4.1 = 7) then (x_f v4.2.1 v1.1).bind fun v10 =>
  some ((2, q0, v10.1, 0, 0, 0, 0, 0, 0, ByteArray.empty, ByteArray.empty), v10.2.1, ())
 else bif decide (v4.1 = 8) then x_h.j0 K L1 true v1 v2 v4 q0 v3 a1
 else bif decide (v4.1 = 9) then x_h.j0 K L1 true v1 v2 v4 q0 v3 a1
 else x_h.j0 K L1 (decide (v4.1 = 10)) v1 v2 v4 q0 v3 a1
def x_h.l1b (K : Nat) (a0 : x_c) (a1 : x_r) (L1 : (Int × Unit) → (Int × x_c × Unit) → Int → (Int × x_c × Unit) → Option (x_i9 × x_c × Unit)) (v1 : Int × Unit) (v2 : Int × x_c × Unit) (q3 : Int) (v4 : Int × x_c × Unit) : Option (x_i9 × x_c × Unit) :=
 bif decide (q3 < v1.1) then bif decide (q3 < ((a1.2.2.1.length : Nat) : Int)) then bif decide (((a1.2.2.1.length : Nat) : Int) ≠ 0) then bif decide ((0 : Int) ≤ (Int.tmod (IntKind.i64.wrap (v2.1 + q3)) ((a1.2.2.1.length : Nat) : Int))) then bif decide ((Int.tmod (IntKind.i64.wrap (v2.1 + q3)) ((a1.2.2.1.length : Nat) : Int)) < ((a1.2.2.1.length : Nat) : Int)) then bif decide ((((a1.2.2.1.getD (Int.toNat (Int.tmod (IntKind.i64.wrap (v2.1 + q3)) ((a1.2.2.1.length : Nat) : Int))) x_ci).2.2.2.2.2.2.2.2.2.length : Nat) : Int) > 0) then bif decide (((a1.2.2.1.length : Nat) : Int) ≠ 0) then some ((3, Int.tmod (IntKind.i64.wrap (v2.1 + q3)) ((a1.2.2.1.length : Nat) : Int), 0, 0, 0, 0, 0, 0, 0, ByteArray.empty, ByteArray.empty), v4.2.1, ())
    else none
   else L1 v1 v2 (IntKind.i64.wrap (q3 + 1)) v4
   else none
   else none
   else none
  else some ((3, v2.1, 0, 0, 0, 0, 0, 0, 0, ByteArray.empty, ByteArray.empty), v4.2.1, ())
 else some ((3, v2.1, 0, 0, 0, 0, 0, 0, 0, ByteArray.empty, ByteArray.empty), v4.2.1, ())
def x_h.l1 (K : Nat) (a0 : x_c) (a1 : x_r) : Nat → (Int × Unit) → (Int × x_c × Unit) → Int → (Int × x_c × Unit) → Option (x_i9 × x_c × Unit)
 | 0, _, _, _, _ => none
 | n + 1, v1, v2, q3, v4 => x_h.l1b K a0 a1 (x_h.l1 K a0 a1 n) v1 v2 q3 v4
def x_h.l0 (K : Nat) (a0 : x_c) (a1 : x_r) : Nat → (Int × Unit) → (Int × x_c × Unit) → Int → Int → Option (x_i9 × x_c × Unit)
 | 0, _, _, _, _ => none
 | n + 1, v1, v2, q0, q1 => x_h.l0b K a0 a1 (x_h.l0 K a0 a1 n) (x_h.l1 K a0 a1 K) v1 v2 q0 q1
def x_h.b (K : Nat) (a0 : x_c) (a1 : x_r) (L0 : (Int × Unit) → (Int × x_c × Unit) → Int → Int → Option (x_i9 × x_c × Unit)) : Option (x_i9 × x_c × Unit) :=
 (x_hl a1.2.1 1).bind fun v1 =>
 (x_f a0 v1.1).bind fun v2 =>
 L0 v1 v2 v2.1 0
def x_h (K : Nat) (a0 : x_c) (a1 : x_r) : Option (x_i9 × x_c × Unit) := x_h.b K a0 a1 (x_h.l0 K a0 a1 K)
def x_ro (a0 : TRpc) : Option (TRpc × Unit) :=
 bif decide ((([] : List x_au).length + a0.2.2.2.2.2.2.2.1.length) * 89 ≤ x_g) then some ((a0.1, a0.2.1, a0.2.2.1, a0.2.2.2.1, a0.2.2.2.2.1, a0.2.2.2.2.2.1, a0.2.2.2.2.2.2.1, [] ++ a0.2.2.2.2.2.2.2.1, a0.2.2.2.2.2.2.2.2), ())
 else none
def x_bm.l0b (K : Nat) (a0 : List TRpc) (L0 : (List TRpc) → Int → Option ((List TRpc) × Unit)) (q0 : List TRpc) (q1 : Int) : Option ((List TRpc) × Unit) :=
 bif decide (q1 < ((a0.length : Nat) : Int)) then bif decide ((0 : Int) ≤ q1) then bif decide (q1 < ((a0.length : Nat) : Int)) then (x_ro (a0.getD (Int.toNat q1) zRpc)).bind fun v1 =>
  bif decide ((q0.length + [v1.1].length) * 105 ≤ x_g) then L0 (q0 ++ [v1.1]) (IntKind.i64.wrap (q1 + 1))
  else none
  else none
  else none
 else some (q0, ())
def x_bm.l0 (K : Nat) (a0 : List TRpc) : Nat → (List TRpc) → Int → Option ((List TRpc) × Unit)
 | 0, _, _ => none
 | n + 1, q0, q1 => x_bm.l0b K a0 (x_bm.l0 K a0 n) q0 q1
def x_bm.b (K : Nat) (a0 : List TRpc) (L0 : (List TRpc) → Int → Option ((List TRpc) × Unit)) : Option ((List TRpc) × Unit) :=
 L0 [] 0
def x_bm (K : Nat) (a0 : List TRpc) : Option ((List TRpc) × Unit) := x_bm.b K a0 (x_bm.l0 K a0 K)
def x_o4 (a0 : TLog) : Option (TLog × Unit) :=
 bif decide ((([] : List x_au).length + a0.2.2.length) * 89 ≤ x_g) then some ((a0.1, a0.2.1, [] ++ a0.2.2), ())
 else none
def x_d7 (a0 : x_v) : Option (x_v × Unit) :=
 bif decide ((([] : List x_wf).length + a0.2.2.2.2.length) * 17 ≤ x_g) then some ((a0.1, a0.2.1, a0.2.2.1, a0.2.2.2.1, [] ++ a0.2.2.2.2), ())
 else none
def x_x.l0b (K : Nat) (a0 : x_ao) (L0 : Int → (List TRow) → Option (x_ao × Unit)) (L1 : Int → (List TRow) → (List x_v) → Option (x_ao × Unit)) (q0 : Int) (q1 : List TRow) : Option (x_ao × Unit) :=
 bif decide (q0 < ((a0.1.length : Nat) : Int)) then bif decide ((0 : Int) ≤ q0) then bif decide (q0 < ((a0.1.length : Nat) : Int)) then (x_kk (a0.1.getD (Int.toNat q0) zRow)).bind fun v1 =>
  bif decide ((q1.length + [v1.1].length) * 41 ≤ x_g) then L0 (IntKind.i64.wrap (q0 + 1)) (q1 ++ [v1.1])
  else none
  else none
  else none
 else L1 0 q1 []
def x_x.l1b (K : Nat) (a0 : x_ao) (L1 : Int → (List TRow) → (List x_v) → Option (x_ao × Unit)) (L2 : Int → (List TRow) → (List x_v) → (List x_o) → Option (x_ao × Unit)) (q2 : Int) (q1 : List TRow) (q3 : List x_v) : Option (x_ao × Unit) :=
 bif decide (q2 < ((a0.2.1.length : Nat) : Int)) then bif decide ((0 : Int) ≤ q2) then bif decide (q2 < ((a0.2.1.length : Nat) : Int)) then (x_d7 (a0.2.1.getD (Int.toNat q2) x_b5)).bind fun v2 =>
  bif decide ((q3.length + [v2.1].length) * 57 ≤ x_g) then L1 (IntKind.i64.wrap (q2 + 1)) q1 (q3 ++ [v2.1])
  else none
  else none
  else none
 else L2 0 q1 q3 []
def x_x.l2b (K : Nat) (a0 : x_ao) (L2 : Int → (List TRow) → (List x_v) → (List x_o) → Option (x_ao × Unit)) (q4 : Int) (q1 : List TRow) (q3 : List x_v) (q5 : List x_o) : Option (x_ao × Unit) :=
 bif decide (q4 < ((a0.2.2.1.length : Nat) : Int)) then bif decide ((0 : Int) ≤ q4) then bif decide (q4 < ((a0.2.2.1.length : Nat) : Int)) then (x_i6 (a0.2.2.1.getD (Int.toNat q4) x_d9)).bind fun v3 =>
  bif decide ((q5.length + [v3.1].length) * 81 ≤ x_g) then L2 (IntKind.i64.wrap (q4 + 1)) q1 q3 (q5 ++ [v3.1])
  else none
  else none
  else none
 else some ((q1, q3, q5, a0.2.2.2.1, [] ++ a0.2.2.2.2.1, [] ++ a0.2.2.2.2.2), ())
def x_x.l2 (K : Nat) (a0 : x_ao) : Nat → Int → (List TRow) → (List x_v) → (List x_o) → Option (x_ao × Unit)
 | 0, _, _, _, _ => none
 | n + 1, q4, q1, q3, q5 => x_x.l2b K a0 (x_x.l2 K a0 n) q4 q1 q3 q5
def x_x.l1 (K : Nat) (a0 : x_ao) : Nat → Int → (List TRow) → (List x_v) → Option (x_ao × Unit)
 | 0, _, _, _ => none
 | n + 1, q2, q1, q3 => x_x.l1b K a0 (x_x.l1 K a0 n) (x_x.l2 K a0 K) q2 q1 q3
def x_x.l0 (K : Nat) (a0 : x_ao) : Nat → Int → (List TRow) → Option (x_ao × Unit)
 | 0, _, _ => none
 | n + 1, q0, q1 => x_x.l0b K a0 (x_x.l0 K a0 n) (x_x.l1 K a0 K) q0 q1
def x_x.b (K : Nat) (a0 : x_ao) (L0 : Int → (List TRow) → Option (x_ao × Unit)) : Option (x_ao × Unit) :=
 bif decide ((([] : List Int).length + a0.2.2.2.2.1.length) * 9 ≤ x_g) then bif decide ((([] : List x_a2).length + a0.2.2.2.2.2.length) * 49 ≤ x_g) then L0 0 []
 else none
 else none
def x_x (K : Nat) (a0 : x_ao) : Option (x_ao × Unit) := x_x.b K a0 (x_x.l0 K a0 K)
def x_is (K : Nat) (a0 : x_ff) : Option (x_ff × Unit) :=
 (x_o4 a0.2.2.1).bind fun v1 =>
 (x_x K a0.2.2.2).bind fun v2 =>
 some ((a0.1, a0.2.1, v1.1, v2.1), ())
def x_ks (a0 : x_1h) : Option (x_1h × Unit) :=
 bif decide ((([] : List Int).length + a0.1.length) * 2 ≤ x_g) then some (([] ++ a0.1, a0.2), ())
 else none
def x_w (K : Nat) (a0 : x_bt) : Option (x_bt × Unit) :=
 (x_is K a0.2.1).bind fun v1 =>
 bif decide ((([] : List Bool).length + a0.2.2.2.1.length) * 2 ≤ x_g) then bif decide ((([] : List Int).length + a0.2.2.2.2.1.length) * 9 ≤ x_g) then bif decide ((([] : List Int).length + a0.2.2.2.2.2.1.length) * 9 ≤ x_g) then (x_x K a0.2.2.2.2.2.2.2.1).bind fun v2 =>
 (x_ks a0.2.2.2.2.2.2.2.2.1).bind fun v3 =>
 (x_bm K a0.2.2.2.2.2.2.2.2.2).bind fun v4 =>
 some ((a0.1, v1.1, a0.2.2.1, [] ++ a0.2.2.2.1, [] ++ a0.2.2.2.2.1, [] ++ a0.2.2.2.2.2.1, a0.2.2.2.2.2.2.1, v2.1, v3.1, v4.1), ())
 else none
 else none
 else none
def x_bq.l0b (K : Nat) (a0 : x_r) (L0 : Int → (List x_bt) → ((List TRpc) × Unit) → Option (x_r × Unit)) (q0 : Int) (q1 : List x_bt) (v1 : (List TRpc) × Unit) : Option (x_r × Unit) :=
 bif decide (q0 < ((a0.2.2.1.length : Nat) : Int)) then bif decide ((0 : Int) ≤ q0) then bif decide (q0 < ((a0.2.2.1.length : Nat) : Int)) then (x_w K (a0.2.2.1.getD (Int.toNat q0) x_ci)).bind fun v2 =>
  bif decide ((q1.length + [v2.1].length) * 465 ≤ x_g) then L0 (IntKind.i64.wrap (q0 + 1)) (q1 ++ [v2.1]) v1
  else none
  else none
  else none
 else some ((a0.1, a0.2.1, q1, v1.1, [] ++ a0.2.2.2.2.1, [] ++ a0.2.2.2.2.2.1, [] ++ a0.2.2.2.2.2.2.1, [] ++ a0.2.2.2.2.2.2.2), ())
def x_bq.l0 (K : Nat) (a0 : x_r) : Nat → Int → (List x_bt) → ((List TRpc) × Unit) → Option (x_r × Unit)
 | 0, _, _, _ => none
 | n + 1, q0, q1, v1 => x_bq.l0b K a0 (x_bq.l0 K a0 n) q0 q1 v1
def x_bq.b (K : Nat) (a0 : x_r) (L0 : Int → (List x_bt) → ((List TRpc) × Unit) → Option (x_r × Unit)) : Option (x_r × Unit) :=
 (x_bm K a0.2.2.2.1).bind fun v1 =>
 bif decide ((([] : List TCmd).length + a0.2.2.2.2.1.length) * 81 ≤ x_g) then bif decide ((([] : List Int).length + a0.2.2.2.2.2.1.length) * 9 ≤ x_g) then bif decide ((([] : List THeard).length + a0.2.2.2.2.2.2.1.length) * 81 ≤ x_g) then bif decide ((([] : List TCmd).length + a0.2.2.2.2.2.2.2.length) * 81 ≤ x_g) then L0 0 [] v1
 else none
 else none
 else none
 else none
def x_bq (K : Nat) (a0 : x_r) : Option (x_r × Unit) := x_bq.b K a0 (x_bq.l0 K a0 K)
def x_ov (K : Nat) (a0 : x_gs) : Option (Bool × Unit) :=
 (x_a4 a0.2.1 0 300).bind fun v1 =>
 bif !v1.1 then some (false, ())
 else (x_a4 a0.2.2.2.1 0 300).bind fun v2 =>
 bif !v2.1 then some (false, ())
 else (x_b2 K a0.2.2.2.2.1 300).bind fun v3 =>
 bif !v3.1 then some (false, ())
 else bif decide (((a0.2.2.2.2.2.size : Nat) : Int) > 30000) then some (false, ())
 else bif decide (a0.1 = 1) then (x_a4 a0.2.2.1 (-1) 4).bind fun v4 =>
  bif v4.1 then bif decide (a0.2.2.2.1 = 0) then bif decide (((a0.2.2.2.2.1.length : Nat) : Int) = 0) then some (decide (a0.2.2.2.2.2.data.toList = ByteArray.empty.data.toList), ())
    else some (false, ())
   else some (false, ())
  else some (false, ())
 else bif decide (a0.1 = 2) then bif decide (a0.2.2.1 = 0) then some (decide (a0.2.2.2.2.2.data.toList = ByteArray.empty.data.toList), ())
  else some (false, ())
 else bif decide (a0.1 = 3) then bif decide (a0.2.2.1 = 0) then some (decide (((a0.2.2.2.2.1.length : Nat) : Int) = 0), ())
  else some (false, ())
 else some (false, ())
def x_az.l0b (K : Nat) (a0 : Int) (L0 : Int → (List Int) → Option ((List Int) × Unit)) (q0 : Int) (q1 : List Int) : Option ((List Int) × Unit) :=
 bif decide (q0 > 127) then bif decide ((q1.length + [IntKind.u8.wrap (IntKind.i64.wrap ((Int.tmod q0 128) + 128))].length) * 2 ≤ x_g) then L0 (IntKind.i64.wrap (Int.tdiv q0 128)) (q1 ++ [IntKind.u8.wrap (IntKind.i64.wrap ((Int.tmod q0 128) + 128))])
  else none
 else bif decide ((q1.length + [IntKind.u8.wrap q0].length) * 2 ≤ x_g) then some (q1 ++ [IntKind.u8.wrap q0], ())
 else none
def x_az.l0 (K : Nat) (a0 : Int) : Nat → Int → (List Int) → Option ((List Int) × Unit)
 | 0, _, _ => none
 | n + 1, q0, q1 => x_az.l0b K a0 (x_az.l0 K a0 n) q0 q1
def x_az.b (K : Nat) (a0 : Int) (L0 : Int → (List Int) → Option ((List Int) × Unit)) : Option ((List Int) × Unit) :=
 (x_a4 a0 0 2147483647).bind fun v1 =>
 bif !v1.1 then some ([], ())
 else L0 a0 []
def x_az (K : Nat) (a0 : Int) : Option ((List Int) × Unit) := x_az.b K a0 (x_az.l0 K a0 K)
def x_be.l0b (K : Nat) (a0 : List Int) (L0 : (List Int) → Int → Option ((List Int) × Unit)) (q0 : List Int) (q1 : Int) : Option ((List Int) × Unit) :=
 bif decide (q1 < ((a0.length : Nat) : Int)) then bif decide ((0 : Int) ≤ q1) then bif decide (q1 < ((a0.length : Nat) : Int)) then (x_az K (a0.getD (Int.toNat q1) 0)).bind fun v1 =>
  bif decide ((q0.length + v1.1.length) * 2 ≤ x_g) then L0 (q0 ++ v1.1) (IntKind.i64.wrap (q1 + 1))
  else none
  else none
  else none
 else some (q0, ())
def x_be.l0 (K : Nat) (a0 : List Int) : Nat → (List Int) → Int → Option ((List Int) × Unit)
 | 0, _, _ => none
 | n + 1, q0, q1 => x_be.l0b K a0 (x_be.l0 K a0 n) q0 q1
def x_be.b (K : Nat) (a0 : List Int) (L0 : (List Int) → Int → Option ((List Int) × Unit)) : Option ((List Int) × Unit) :=
 L0 [] 0
def x_be (K : Nat) (a0 : List Int) : Option ((List Int) × Unit) := x_be.b K a0 (x_be.l0 K a0 K)
def x_fl (K : Nat) (a0 : ByteArray) : Option ((List Int) × Unit) :=
 (x_az K ((a0.size : Nat) : Int)).bind fun v1 =>
 bif decide ((v1.1.length + (x_dm a0).length) * 2 ≤ x_g) then some (v1.1 ++ (x_dm a0), ())
 else none
def x_pt (K : Nat) (a0 : TCmd) : Option ((List Int) × Unit) :=
 (x_sa K a0).bind fun v1 =>
 bif !v1.1 then some ([], ())
 else (x_be K [IntKind.i64.wrap (a0.1 + 1), a0.2.1, a0.2.2.1, a0.2.2.2.1, a0.2.2.2.2.1, a0.2.2.2.2.2.1]).bind fun v2 =>
 (x_fl K a0.2.2.2.2.2.2.1).bind fun v3 =>
 bif decide ((v2.1.length + v3.1.length) * 2 ≤ x_g) then (x_fl K a0.2.2.2.2.2.2.2).bind fun v4 =>
 bif decide (((v2.1 ++ v3.1).length + v4.1.length) * 2 ≤ x_g) then some ((v2.1 ++ v3.1) ++ v4.1, ())
 else none
 else none
def x_cf.l0b (K : Nat) (a0 : x_gs) (L0 : (List Int) → Int → Option ((List Int) × Unit)) (q0 : List Int) (q1 : Int) : Option ((List Int) × Unit) :=
 bif decide (q1 < ((a0.2.2.2.2.1.length : Nat) : Int)) then bif decide ((0 : Int) ≤ q1) then bif decide (q1 < ((a0.2.2.2.2.1.length : Nat) : Int)) then (x_az K (a0.2.2.2.2.1.getD (Int.toNat q1) x_ck).1).bind fun v6 =>
  bif decide ((q0.length + v6.1.length) * 2 ≤ x_g) then (x_pt K (a0.2.2.2.2.1.getD (Int.toNat q1) x_ck).2).bind fun v7 =>
  bif decide (((q0 ++ v6.1).length + v7.1.length) * 2 ≤ x_g) then L0 ((q0 ++ v6.1) ++ v7.1) (IntKind.i64.wrap (q1 + 1))
  else none
  else none
  else none
  else none
 else (x_fl K a0.2.2.2.2.2).bind fun v8 =>
 bif decide ((q0.length + v8.1.length) * 2 ≤ x_g) then some (q0 ++ v8.1, ())
 else none
def x_cf.l0 (K : Nat) (a0 : x_gs) : Nat → (List Int) → Int → Option ((List Int) × Unit)
 | 0, _, _ => none
 | n + 1, q0, q1 => x_cf.l0b K a0 (x_cf.l0 K a0 n) q0 q1
def x_cf.b (K : Nat) (a0 : x_gs) (L0 : (List Int) → Int → Option ((List Int) × Unit)) : Option ((List Int) × Unit) :=
 (x_az K a0.1).bind fun v1 =>
 (x_az K a0.2.1).bind fun v2 =>
 bif decide ((v1.1.length + v2.1.length) * 2 ≤ x_g) then (x_az K (IntKind.i64.wrap (a0.2.2.1 + 1))).bind fun v3 =>
 bif decide (((v1.1 ++ v2.1).length + v3.1.length) * 2 ≤ x_g) then (x_az K a0.2.2.2.1).bind fun v4 =>
 bif decide ((((v1.1 ++ v2.1) ++ v3.1).length + v4.1.length) * 2 ≤ x_g) then (x_az K ((a0.2.2.2.2.1.length : Nat) : Int)).bind fun v5 =>
 bif decide (((((v1.1 ++ v2.1) ++ v3.1) ++ v4.1).length + v5.1.length) * 2 ≤ x_g) then L0 ((((v1.1 ++ v2.1) ++ v3.1) ++ v4.1) ++ v5.1) 0
 else none
 else none
 else none
 else none
def x_cf (K : Nat) (a0 : x_gs) : Option ((List Int) × Unit) := x_cf.b K a0 (x_cf.l0 K a0 K)
def x_dl.l0b (K : Nat) (a0 : List Int) (L0 : Int → Int → Int → Option (Int × Unit)) (q0 : Int) (q1 : Int) (q2 : Int) : Option (Int × Unit) :=
 bif decide (q2 < ((a0.length : Nat) : Int)) then bif decide ((0 : Int) ≤ q2) then bif decide (q2 < ((a0.length : Nat) : Int)) then L0 (Int.tmod (IntKind.i64.wrap (q0 + (IntKind.i64.wrap (a0.getD (Int.toNat q2) 0)))) 65521) (Int.tmod (IntKind.i64.wrap (q1 + (Int.tmod (IntKind.i64.wrap (q0 + (IntKind.i64.wrap (a0.getD (Int.toNat q2) 0)))) 65521))) 65521) (IntKind.i64.wrap (q2 + 1))
  else none
  else none
 else some (IntKind.i64.wrap ((IntKind.i64.wrap (q1 * 65536)) + q0), ())
def x_dl.l0 (K : Nat) (a0 : List Int) : Nat → Int → Int → Int → Option (Int × Unit)
 | 0, _, _, _ => none
 | n + 1, q0, q1, q2 => x_dl.l0b K a0 (x_dl.l0 K a0 n) q0 q1 q2
def x_dl.b (K : Nat) (a0 : List Int) (L0 : Int → Int → Int → Option (Int × Unit)) : Option (Int × Unit) :=
 L0 1 0 0
def x_dl (K : Nat) (a0 : List Int) : Option (Int × Unit) := x_dl.b K a0 (x_dl.l0 K a0 K)
def x_2d (K : Nat) (a0 : List Int) : Option ((List Int) × Unit) :=
 (x_dl K a0).bind fun v1 =>
 some ([IntKind.u8.wrap v1.1, IntKind.u8.wrap (Int.fdiv v1.1 (2 ^ 8)), IntKind.u8.wrap (Int.fdiv v1.1 (2 ^ 16)), IntKind.u8.wrap (Int.fdiv v1.1 (2 ^ 24))], ())
def x_e3 (K : Nat) (a0 : x_gs) : Option ((List Int) × Unit) :=
 (x_ov K a0).bind fun v1 =>
 bif !v1.1 then some ([], ())
 else (x_cf K a0).bind fun v2 =>
 (x_az K ((v2.1.length : Nat) : Int)).bind fun v3 =>
 bif decide ((v3.1.length + v2.1.length) * 2 ≤ x_g) then (x_2d K v2.1).bind fun v4 =>
 bif decide (((v3.1 ++ v2.1).length + v4.1.length) * 2 ≤ x_g) then some ((v3.1 ++ v2.1) ++ v4.1, ())
 else none
 else none
def x_z9 (a0 : x_1h) (a1 : List Int) : Option (x_1h × Bool × Unit) :=
 (x_ks a0).bind fun v1 =>
 (x_oe a0).bind fun v2 =>
 bif !v2.1 then some (v1.1, false, ())
 else bif decide (((a1.length : Nat) : Int) > (IntKind.i64.wrap (80000 - ((a0.1.length : Nat) : Int)))) then some (v1.1, false, ())
 else bif decide ((v1.1.1.length + a1.length) * 2 ≤ x_g) then some ((v1.1.1 ++ a1, v1.1.2), true, ())
 else none
def x_9y (a0 : TLog) (a1 : Int) : Option (Int × Unit) :=
 bif decide (a1 ≤ a0.1) then some ((-1), ())
 else bif decide (a1 > 300) then some ((-1), ())
 else bif decide (a0.1 < 0) then some ((-1), ())
 else bif decide ((IntKind.i64.wrap ((IntKind.i64.wrap (a1 - a0.1)) - 1)) ≥ ((a0.2.2.length : Nat) : Int)) then some ((-1), ())
 else some (IntKind.i64.wrap ((IntKind.i64.wrap (a1 - a0.1)) - 1), ())
def x_ho (a0 : TLog) (a1 : Int) : Option (Int × Unit) :=
 bif decide (a1 = a0.1) then some (a0.2.1, ())
 else (x_9y a0 a1).bind fun v1 =>
 bif decide (v1.1 < 0) then some ((-1), ())
 else bif decide ((0 : Int) ≤ v1.1) then bif decide (v1.1 < ((a0.2.2.length : Nat) : Int)) then some ((a0.2.2.getD (Int.toNat v1.1) x_ck).1, ())
 else none
 else none
def x_cb.l0b (K : Nat) (a0 : TLog) (a1 : Int) (a2 : Int) (a3 : List x_au) (L0 : Int → (TLog × Unit) → (List x_au) → Option (TLog × Bool × Unit)) (q0 : Int) (v2 : TLog × Unit) (q1 : List x_au) : Option (TLog × Bool × Unit) :=
 bif decide (q0 < ((a3.length : Nat) : Int)) then bif decide ((IntKind.i64.wrap ((IntKind.i64.wrap (a1 - a0.1)) + q0)) < ((q1.length : Nat) : Int)) then bif decide ((0 : Int) ≤ (IntKind.i64.wrap ((IntKind.i64.wrap (a1 - a0.1)) + q0))) then bif decide ((IntKind.i64.wrap ((IntKind.i64.wrap (a1 - a0.1)) + q0)) < ((q1.length : Nat) : Int)) then bif decide ((0 : Int) ≤ q0) then bif decide (q0 < ((a3.length : Nat) : Int)) then bif decide ((q1.getD (Int.toNat (IntKind.i64.wrap ((IntKind.i64.wrap (a1 - a0.1)) + q0))) x_ck).1 = (a3.getD (Int.toNat q0) x_ck).1) then L0 (IntKind.i64.wrap (q0 + 1)) v2 q1
   else bif decide ((IntKind.i64.wrap ((IntKind.i64.wrap (a1 - a0.1)) + q0)) = (IntKind.i64.wrap ((IntKind.i64.wrap (a1 - a0.1)) + q0))) then bif decide ((0 : Int) ≤ (IntKind.i64.wrap ((IntKind.i64.wrap (a1 - a0.1)) + q0))) then bif decide ((IntKind.i64.wrap ((IntKind.i64.wrap (a1 - a0.1)) + q0)) ≤ ((q1.length : Nat) : Int)) then bif decide ((([] : List x_au).length + ((q1.take (Int.toNat (IntKind.i64.wrap ((IntKind.i64.wrap (a1 - a0.1)) + q0)))).drop 0).length) * 89 ≤ x_g) then bif decide ((0 : Int) ≤ q0) then bif decide (q0 < ((a3.length : Nat) : Int)) then bif decide ((([] ++ ((q1.take (Int.toNat (IntKind.i64.wrap ((IntKind.i64.wrap (a1 - a0.1)) + q0)))).drop 0)).length + [a3.getD (Int.toNat q0) x_ck].length) * 89 ≤ x_g) then L0 (IntKind.i64.wrap (q0 + 1)) v2 (([] ++ ((q1.take (Int.toNat (IntKind.i64.wrap ((IntKind.i64.wrap (a1 - a0.1)) + q0)))).drop 0)) ++ [a3.getD (Int.toNat q0) x_ck])
   else none
   else none
   else none
   else none
   else none
   else none
   else none
   else none
   else none
   else none
   else none
  else bif decide ((0 : Int) ≤ q0) then bif decide (q0 < ((a3.length : Nat) : Int)) then bif decide ((q1.length + [a3.getD (Int.toNat q0) x_ck].length) * 89 ≤ x_g) then L0 (IntKind.i64.wrap (q0 + 1)) v2 (q1 ++ [a3.getD (Int.toNat q0) x_ck])
  else none
  else none
  else none
 else (x_c4 K (v2.1.1, v2.1.2.1, q1)).bind fun v4 =>
 bif !v4.1 then (x_o4 a0).bind fun v5 =>
  some (v5.1, false, ())
 else some ((v2.1.1, v2.1.2.1, q1), true, ())
def x_cb.l0 (K : Nat) (a0 : TLog) (a1 : Int) (a2 : Int) (a3 : List x_au) : Nat → Int → (TLog × Unit) → (List x_au) → Option (TLog × Bool × Unit)
 | 0, _, _, _ => none
 | n + 1, q0, v2, q1 => x_cb.l0b K a0 a1 a2 a3 (x_cb.l0 K a0 a1 a2 a3 n) q0 v2 q1
def x_cb.b (K : Nat) (a0 : TLog) (a1 : Int) (a2 : Int) (a3 : List x_au) (L0 : Int → (TLog × Unit) → (List x_au) → Option (TLog × Bool × Unit)) : Option (TLog × Bool × Unit) :=
 (x_c4 K a0).bind fun v1 =>
 bif !v1.1 then some ((0, 0, []), false, ())
 else (x_o4 a0).bind fun v2 =>
 bif decide (a2 < 0) then some (v2.1, false, ())
 else (x_ho a0 a1).bind fun v3 =>
 bif !(decide (v3.1 = a2)) then some (v2.1, false, ())
 else L0 0 v2 v2.1.2.2
def x_cb (K : Nat) (a0 : TLog) (a1 : Int) (a2 : Int) (a3 : List x_au) : Option (TLog × Bool × Unit) := x_cb.b K a0 a1 a2 a3 (x_cb.l0 K a0 a1 a2 a3 K)
def x_b3.l0b (K : Nat) (a0 : List Int) (a1 : Int) (L0 : Int → Int → Option (Int × Int × Bool × Unit)) (q0 : Int) (q1 : Int) : Option (Int × Int × Bool × Unit) :=
 bif decide (q1 < 5) then bif decide (a1 < 0) then some (0, 0, false, ())
  else bif decide (a1 ≥ (IntKind.i64.wrap (((a0.length : Nat) : Int) - q1))) then some (0, 0, false, ())
  else bif decide ((0 : Int) ≤ (IntKind.i64.wrap (a1 + q1))) then bif decide ((IntKind.i64.wrap (a1 + q1)) < ((a0.length : Nat) : Int)) then bif decide ((0 : Int) ≤ (IntKind.i64.wrap (7 * q1))) then bif decide ((IntKind.i64.wrap (a0.getD (Int.toNat (IntKind.i64.wrap (a1 + q1))) 0)) < 128) then bif decide (q1 > 0) then bif decide ((IntKind.i64.wrap (a0.getD (Int.toNat (IntKind.i64.wrap (a1 + q1))) 0)) = 0) then some (0, 0, false, ())
    else bif decide ((IntKind.i64.wrap ((BitVec.ofInt (IntKind.bits .i64) q0 ||| BitVec.ofInt (IntKind.bits .i64) (IntKind.i64.wrap ((Int.tmod (IntKind.i64.wrap (a0.getD (Int.toNat (IntKind.i64.wrap (a1 + q1))) 0)) 128) * 2 ^ (min (Int.toNat (IntKind.i64.wrap (7 * q1))) 64)))).toNat : Int)) > 2147483647) then some (0, 0, false, ())
    else some (IntKind.i64.wrap ((BitVec.ofInt (IntKind.bits .i64) q0 ||| BitVec.ofInt (IntKind.bits .i64) (IntKind.i64.wrap ((Int.tmod (IntKind.i64.wrap (a0.getD (Int.toNat (IntKind.i64.wrap (a1 + q1))) 0)) 128) * 2 ^ (min (Int.toNat (IntKind.i64.wrap (7 * q1))) 64)))).toNat : Int), IntKind.i64.wrap ((IntKind.i64.wrap (a1 + q1)) + 1), true, ())
   else bif decide ((IntKind.i64.wrap ((BitVec.ofInt (IntKind.bits .i64) q0 ||| BitVec.ofInt (IntKind.bits .i64) (IntKind.i64.wrap ((Int.tmod (IntKind.i64.wrap (a0.getD (Int.toNat (IntKind.i64.wrap (a1 + q1))) 0)) 128) * 2 ^ (min (Int.toNat (IntKind.i64.wrap (7 * q1))) 64)))).toNat : Int)) > 2147483647) then some (0, 0, false, ())
   else some (IntKind.i64.wrap ((BitVec.ofInt (IntKind.bits .i64) q0 ||| BitVec.ofInt (IntKind.bits .i64) (IntKind.i64.wrap ((Int.tmod (IntKind.i64.wrap (a0.getD (Int.toNat (IntKind.i64.wrap (a1 + q1))) 0)) 128) * 2 ^ (min (Int.toNat (IntKind.i64.wrap (7 * q1))) 64)))).toNat : Int), IntKind.i64.wrap ((IntKind.i64.wrap (a1 + q1)) + 1), true, ())
  else L0 (IntKind.i64.wrap ((BitVec.ofInt (IntKind.bits .i64) q0 ||| BitVec.ofInt (IntKind.bits .i64) (IntKind.i64.wrap ((Int.tmod (IntKind.i64.wrap (a0.getD (Int.toNat (IntKind.i64.wrap (a1 + q1))) 0)) 128) * 2 ^ (min (Int.toNat (IntKind.i64.wrap (7 * q1))) 64)))).toNat : Int)) (IntKind.i64.wrap (q1 + 1))
  else none
  else none
  else none
 else some (0, 0, false, ())
def x_b3.l0 (K : Nat) (a0 : List Int) (a1 : Int) : Nat → Int → Int → Option (Int × Int × Bool × Unit)
 | 0, _, _ => none
 | n + 1, q0, q1 => x_b3.l0b K a0 a1 (x_b3.l0 K a0 a1 n) q0 q1
def x_b3.b (K : Nat) (a0 : List Int) (a1 : Int) (L0 : Int → Int → Option (Int × Int × Bool × Unit)) : Option (Int × Int × Bool × Unit) :=
 L0 0 0
def x_b3 (K : Nat) (a0 : List Int) (a1 : Int) : Option (Int × Int × Bool × Unit) := x_b3.b K a0 a1 (x_b3.l0 K a0 a1 K)
def x_bs (K : Nat) (a0 : x_d) : Option (Int × x_d × Unit) :=
 (x_b3 K a0.1 a0.2.1).bind fun v1 =>
 bif !v1.2.2.1 then some (0, (a0.1, a0.2.1, false), ())
 else bif !a0.2.2 then some (0, (a0.1, a0.2.1, false), ())
 else some (v1.1, (a0.1, v1.2.1, a0.2.2), ())
def x_sv (K : Nat) (a0 : List Int) (a1 : Int) : Option (ByteArray × Int × Bool × Unit) :=
 (x_b3 K a0 a1).bind fun v1 =>
 bif !v1.2.2.1 then some (ByteArray.empty, 0, false, ())
 else bif decide (v1.1 > (IntKind.i64.wrap (((a0.length : Nat) : Int) - v1.2.1))) then some (ByteArray.empty, 0, false, ())
 else bif decide ((IntKind.i64.wrap (v1.2.1 + v1.1)) = (IntKind.i64.wrap (v1.2.1 + v1.1))) then bif decide ((0 : Int) ≤ v1.2.1) then bif decide (v1.2.1 ≤ (IntKind.i64.wrap (v1.2.1 + v1.1))) then bif decide ((IntKind.i64.wrap (v1.2.1 + v1.1)) ≤ ((a0.length : Nat) : Int)) then some (x_wv ((a0.take (Int.toNat (IntKind.i64.wrap (v1.2.1 + v1.1)))).drop (Int.toNat v1.2.1)), IntKind.i64.wrap (v1.2.1 + v1.1), true, ())
 else none
 else none
 else none
 else none
def x_g5 (K : Nat) (a0 : x_d) : Option (ByteArray × x_d × Unit) :=
 (x_sv K a0.1 a0.2.1).bind fun v1 =>
 bif !v1.2.2.1 then some (ByteArray.empty, (a0.1, a0.2.1, false), ())
 else bif !a0.2.2 then some (ByteArray.empty, (a0.1, a0.2.1, false), ())
 else some (v1.1, (a0.1, v1.2.1, a0.2.2), ())
def x_db.l0b (K : Nat) (a0 : x_d) (L0 : (Int × x_d × Unit) → Int → (Int × x_d × Unit) → (Int × x_d × Unit) → (Int × x_d × Unit) → (List x_gh) → Option (TRow × x_d × Unit)) (v3 : Int × x_d × Unit) (q0 : Int) (q1 : Int × x_d × Unit) (v1 : Int × x_d × Unit) (v2 : Int × x_d × Unit) (q2 : List x_gh) : Option (TRow × x_d × Unit) :=
 bif decide (q0 < v3.1) then bif q1.2.1.2.2 then (x_bs K q1.2.1).bind fun v4 =>
   (x_g5 K v4.2.1).bind fun v5 =>
   (x_g5 K v5.2.1).bind fun v6 =>
   (x_bs K v6.2.1).bind fun v7 =>
   (x_bs K v7.2.1).bind fun v8 =>
   bif decide ((q2.length + [(v4.1, v5.1, v6.1, v7.1, v8.1)].length) * 57 ≤ x_g) then L0 v3 (IntKind.i64.wrap (q0 + 1)) v8 v1 v2 (q2 ++ [(v4.1, v5.1, v6.1, v7.1, v8.1)])
   else none
  else some ((v1.1, v2.1, q2), q1.2.1, ())
 else some ((v1.1, v2.1, q2), q1.2.1, ())
def x_db.l0 (K : Nat) (a0 : x_d) : Nat → (Int × x_d × Unit) → Int → (Int × x_d × Unit) → (Int × x_d × Unit) → (Int × x_d × Unit) → (List x_gh) → Option (TRow × x_d × Unit)
 | 0, _, _, _, _, _, _ => none
 | n + 1, v3, q0, q1, v1, v2, q2 => x_db.l0b K a0 (x_db.l0 K a0 n) v3 q0 q1 v1 v2 q2
def x_db.b (K : Nat) (a0 : x_d) (L0 : (Int × x_d × Unit) → Int → (Int × x_d × Unit) → (Int × x_d × Unit) → (Int × x_d × Unit) → (List x_gh) → Option (TRow × x_d × Unit)) : Option (TRow × x_d × Unit) :=
 (x_bs K a0).bind fun v1 =>
 (x_bs K v1.2.1).bind fun v2 =>
 (x_bs K v2.2.1).bind fun v3 =>
 L0 v3 0 v3 v1 v2 []
def x_db (K : Nat) (a0 : x_d) : Option (TRow × x_d × Unit) := x_db.b K a0 (x_db.l0 K a0 K)
def x_bj.l0b (K : Nat) (a0 : x_d) (L0 : (Int × x_d × Unit) → Int → (Int × x_d × Unit) → (Int × x_d × Unit) → (Int × x_d × Unit) → (Int × x_d × Unit) → (Int × x_d × Unit) → (List x_wf) → Option (x_v × x_d × Unit)) (v5 : Int × x_d × Unit) (q0 : Int) (q1 : Int × x_d × Unit) (v1 : Int × x_d × Unit) (v2 : Int × x_d × Unit) (v3 : Int × x_d × Unit) (v4 : Int × x_d × Unit) (q2 : List x_wf) : Option (x_v × x_d × Unit) :=
 bif decide (q0 < v5.1) then bif q1.2.1.2.2 then (x_bs K q1.2.1).bind fun v6 =>
   (x_bs K v6.2.1).bind fun v7 =>
   bif decide ((q2.length + [(v6.1, v7.1)].length) * 17 ≤ x_g) then L0 v5 (IntKind.i64.wrap (q0 + 1)) v7 v1 v2 v3 v4 (q2 ++ [(v6.1, v7.1)])
   else none
  else some ((v1.1, v2.1, v3.1, IntKind.i64.wrap (v4.1 - 1), q2), q1.2.1, ())
 else some ((v1.1, v2.1, v3.1, IntKind.i64.wrap (v4.1 - 1), q2), q1.2.1, ())
def x_bj.l0 (K : Nat) (a0 : x_d) : Nat → (Int × x_d × Unit) → Int → (Int × x_d × Unit) → (Int × x_d × Unit) → (Int × x_d × Unit) → (Int × x_d × Unit) → (Int × x_d × Unit) → (List x_wf) → Option (x_v × x_d × Unit)
 | 0, _, _, _, _, _, _, _, _ => none
 | n + 1, v5, q0, q1, v1, v2, v3, v4, q2 => x_bj.l0b K a0 (x_bj.l0 K a0 n) v5 q0 q1 v1 v2 v3 v4 q2
def x_bj.b (K : Nat) (a0 : x_d) (L0 : (Int × x_d × Unit) → Int → (Int × x_d × Unit) → (Int × x_d × Unit) → (Int × x_d × Unit) → (Int × x_d × Unit) → (Int × x_d × Unit) → (List x_wf) → Option (x_v × x_d × Unit)) : Option (x_v × x_d × Unit) :=
 (x_bs K a0).bind fun v1 =>
 (x_bs K v1.2.1).bind fun v2 =>
 (x_bs K v2.2.1).bind fun v3 =>
 (x_bs K v3.2.1).bind fun v4 =>
 (x_bs K v4.2.1).bind fun v5 =>
 L0 v5 0 v5 v1 v2 v3 v4 []
def x_bj (K : Nat) (a0 : x_d) : Option (x_v × x_d × Unit) := x_bj.b K a0 (x_bj.l0 K a0 K)
def x_0.j0 (K : Nat) (L1 : Int → (Int × x_d × Unit) → (Int × x_d × Unit) → (List Int) → (List Int) → (List Int) → Option (x_o × x_d × Unit)) (q1 : Int × x_d × Unit) (v1 : Int × x_d × Unit) (q2 : List Int) (q3 : List Int) : Option (x_o × x_d × Unit) :=
 L1 0 q1 v1 q2 q3 []
def x_0.l0b (K : Nat) (a0 : x_d) (a1 : Int) (L0 : (Int × x_d × Unit) → Int → (Int × x_d × Unit) → (Int × x_d × Unit) → (List Int) → (List Int) → Option (x_o × x_d × Unit)) (L1 : Int → (Int × x_d × Unit) → (Int × x_d × Unit) → (List Int) → (List Int) → (List Int) → Option (x_o × x_d × Unit)) (v2 : Int × x_d × Unit) (q0 : Int) (q1 : Int × x_d × Unit) (v1 : Int × x_d × Unit) (q2 : List Int) (q3 : List Int) : Option (x_o × x_d × Unit) :=
 bif decide (q0 < v2.1) then bif q1.2.1.2.2 then (x_bs K q1.2.1).bind fun v3 =>
   (x_bs K v3.2.1).bind fun v4 =>
   bif decide ((q2.length + [v3.1].length) * 9 ≤ x_g) then bif decide ((q3.length + [v4.1].length) * 9 ≤ x_g) then L0 v2 (IntKind.i64.wrap (q0 + 1)) v4 v1 (q2 ++ [v3.1]) (q3 ++ [v4.1])
   else none
   else none
  else x_0.j0 K L1 q1 v1 q2 q3
 else x_0.j0 K L1 q1 v1 q2 q3
def x_0.l1b (K : Nat) (a0 : x_d) (a1 : Int) (L1 : Int → (Int × x_d × Unit) → (Int × x_d × Unit) → (List Int) → (List Int) → (List Int) → Option (x_o × x_d × Unit)) (q7 : Int) (q8 : Int × x_d × Unit) (v1 : Int × x_d × Unit) (q2 : List Int) (q3 : List Int) (q9 : List Int) : Option (x_o × x_d × Unit) :=
 bif decide (q7 < a1) then (x_bs K q8.2.1).bind fun v5 =>
  bif decide ((q9.length + [v5.1].length) * 9 ≤ x_g) then L1 (IntKind.i64.wrap (q7 + 1)) v5 v1 q2 q3 (q9 ++ [v5.1])
  else none
 else some ((v1.1, q2, q3, q9), q8.2.1, ())
def x_0.l1 (K : Nat) (a0 : x_d) (a1 : Int) : Nat → Int → (Int × x_d × Unit) → (Int × x_d × Unit) → (List Int) → (List Int) → (List Int) → Option (x_o × x_d × Unit)
 | 0, _, _, _, _, _, _ => none
 | n + 1, q7, q8, v1, q2, q3, q9 => x_0.l1b K a0 a1 (x_0.l1 K a0 a1 n) q7 q8 v1 q2 q3 q9
def x_0.l0 (K : Nat) (a0 : x_d) (a1 : Int) : Nat → (Int × x_d × Unit) → Int → (Int × x_d × Unit) → (Int × x_d × Unit) → (List Int) → (List Int) → Option (x_o × x_d × Unit)
 | 0, _, _, _, _, _, _ => none
 | n + 1, v2, q0, q1, v1, q2, q3 => x_0.l0b K a0 a1 (x_0.l0 K a0 a1 n) (x_0.l1 K a0 a1 K) v2 q0 q1 v1 q2 q3
def x_0.b (K : Nat) (a0 : x_d) (a1 : Int) (L0 : (Int × x_d × Unit) → Int → (Int × x_d × Unit) → (Int × x_d × Unit) → (List Int) → (List Int) → Option (x_o × x_d × Unit)) : Option (x_o × x_d × Unit) :=
 (x_bs K a0).bind fun v1 =>
 (x_bs K v1.2.1).bind fun v2 =>
 L0 v2 0 v2 v1 [] []
def x_0 (K : Nat) (a0 : x_d) (a1 : Int) : Option (x_o × x_d × Unit) := x_0.b K a0 a1 (x_0.l0 K a0 a1 K)
def x_j.j2 (K : Nat) (L1 : (Int × x_d × Unit) → Int → (x_d × Unit) → (List TRow) → (List x_v) → Option (x_ao × x_d × Unit)) (q1 : x_d × Unit) (q2 : List TRow) : Option (x_ao × x_d × Unit) :=
 (x_bs K q1.1).bind fun v3 =>
 L1 v3 0 v3.2 q2 []
def x_j.j1 (K : Nat) (L2 : (Int × x_d × Unit) → Int → (x_d × Unit) → (List TRow) → (List x_v) → (List x_o) → Option (x_ao × x_d × Unit)) (q29 : x_d × Unit) (q2 : List TRow) (q30 : List x_v) : Option (x_ao × x_d × Unit) :=
 (x_bs K q29.1).bind fun v5 =>
 L2 v5 0 v5.2 q2 q30 []
def x_j.j0 (K : Nat) (L3 : Int → (x_d × Unit) → (List TRow) → (List x_v) → (List x_o) → (Int × x_d × Unit) → (List Int) → (List x_a2) → Option (x_ao × x_d × Unit)) (q43 : x_d × Unit) (q2 : List TRow) (q30 : List x_v) (q44 : List x_o) : Option (x_ao × x_d × Unit) :=
 (x_bs K q43.1).bind fun v7 =>
 L3 0 v7.2 q2 q30 q44 v7 [] []
def x_j.l0b (K : Nat) (a0 : x_d) (a1 : Int) (L0 : (Int × x_d × Unit) → Int → (x_d × Unit) → (List TRow) → Option (x_ao × x_d × Unit)) (L1 : (Int × x_d × Unit) → Int → (x_d × Unit) → (List TRow) → (List x_v) → Option (x_ao × x_d × Unit)) (v1 : Int × x_d × Unit) (q0 : Int) (q1 : x_d × Unit) (q2 : List TRow) : Option (x_ao × x_d × Unit) :=
 bif decide (q0 < v1.1) then bif q1.1.2.2 then (x_db K q1.1).bind fun v2 =>
   bif decide ((q2.length + [v2.1].length) * 41 ≤ x_g) then L0 v1 (IntKind.i64.wrap (q0 + 1)) v2.2 (q2 ++ [v2.1])
   else none
  else x_j.j2 K L1 q1 q2
 else x_j.j2 K L1 q1 q2
def x_j.l1b (K : Nat) (a0 : x_d) (a1 : Int) (L1 : (Int × x_d × Unit) → Int → (x_d × Unit) → (List TRow) → (List x_v) → Option (x_ao × x_d × Unit)) (L2 : (Int × x_d × Unit) → Int → (x_d × Unit) → (List TRow) → (List x_v) → (List x_o) → Option (x_ao × x_d × Unit)) (v3 : Int × x_d × Unit) (q28 : Int) (q29 : x_d × Unit) (q2 : List TRow) (q30 : List x_v) : Option (x_ao × x_d × Unit) :=
 bif decide (q28 < v3.1) then bif q29.1.2.2 then (x_bj K q29.1).bind fun v4 =>
   bif decide ((q30.length + [v4.1].length) * 57 ≤ x_g) then L1 v3 (IntKind.i64.wrap (q28 + 1)) v4.2 q2 (q30 ++ [v4.1])
   else none
  else x_j.j1 K L2 q29 q2 q30
 else x_j.j1 K L2 q29 q2 q30
def x_j.l2b (K : Nat) (a0 : x_d) (a1 : Int) (L2 : (Int × x_d × Unit) → Int → (x_d × Unit) → (List TRow) → (List x_v) → (List x_o) → Option (x_ao × x_d × Unit)) (L3 : Int → (x_d × Unit) → (List TRow) → (List x_v) → (List x_o) → (Int × x_d × Unit) → (List Int) → (List x_a2) → Option (x_ao × x_d × Unit)) (v5 : Int × x_d × Unit) (q42 : Int) (q43 : x_d × Unit) (q2 : List TRow) (q30 : List x_v) (q44 : List x_o) : Option (x_ao × x_d × Unit) :=
 bif decide (q42 < v5.1) then bif q43.1.2.2 then (x_0 K q43.1 a1).bind fun v6 =>
   bif decide ((q44.length + [v6.1].length) * 81 ≤ x_g) then L2 v5 (IntKind.i64.wrap (q42 + 1)) v6.2 q2 q30 (q44 ++ [v6.1])
   else none
  else x_j.j0 K L3 q43 q2 q30 q44
 else x_j.j0 K L3 q43 q2 q30 q44
def x_j.l3b (K : Nat) (a0 : x_d) (a1 : Int) (L3 : Int → (x_d × Unit) → (List TRow) → (List x_v) → (List x_o) → (Int × x_d × Unit) → (List Int) → (List x_a2) → Option (x_ao × x_d × Unit)) (q49 : Int) (q50 : x_d × Unit) (q2 : List TRow) (q30 : List x_v) (q44 : List x_o) (v7 : Int × x_d × Unit) (q51 : List Int) (q52 : List x_a2) : Option (x_ao × x_d × Unit) :=
 bif decide (q49 < 4) then (x_bs K q50.1).bind fun v8 =>
  (x_bs K v8.2.1).bind fun v9 =>
  (x_bs K v9.2.1).bind fun v10 =>
  (x_g5 K v10.2.1).bind fun v11 =>
  (x_g5 K v11.2.1).bind fun v12 =>
  bif decide ((q51.length + [v8.1].length) * 9 ≤ x_g) then bif decide ((q52.length + [(v9.1, IntKind.i64.wrap (v10.1 - 1), v11.1, v12.1)].length) * 49 ≤ x_g) then L3 (IntKind.i64.wrap (q49 + 1)) v12.2 q2 q30 q44 v7 (q51 ++ [v8.1]) (q52 ++ [(v9.1, IntKind.i64.wrap (v10.1 - 1), v11.1, v12.1)])
  else none
  else none
 else some ((q2, q30, q44, v7.1, q51, q52), q50.1, ())
def x_j.l3 (K : Nat) (a0 : x_d) (a1 : Int) : Nat → Int → (x_d × Unit) → (List TRow) → (List x_v) → (List x_o) → (Int × x_d × Unit) → (List Int) → (List x_a2) → Option (x_ao × x_d × Unit)
 | 0, _, _, _, _, _, _, _, _ => none
 | n + 1, q49, q50, q2, q30, q44, v7, q51, q52 => x_j.l3b K a0 a1 (x_j.l3 K a0 a1 n) q49 q50 q2 q30 q44 v7 q51 q52
def x_j.l2 (K : Nat) (a0 : x_d) (a1 : Int) : Nat → (Int × x_d × Unit) → Int → (x_d × Unit) → (List TRow) → (List x_v) → (List x_o) → Option (x_ao × x_d × Unit)
 | 0, _, _, _, _, _, _ => none
 | n + 1, v5, q42, q43, q2, q30, q44 => x_j.l2b K a0 a1 (x_j.l2 K a0 a1 n) (x_j.l3 K a0 a1 K) v5 q42 q43 q2 q30 q44
def x_j.l1 (K : Nat) (a0 : x_d) (a1 : Int) : Nat → (Int × x_d × Unit) → Int → (x_d × Unit) → (List TRow) → (List x_v) → Option (x_ao × x_d × Unit)
 | 0, _, _, _, _, _ => none
 | n + 1, v3, q28, q29, q2, q30 => x_j.l1b K a0 a1 (x_j.l1 K a0 a1 n) (x_j.l2 K a0 a1 K) v3 q28 q29 q2 q30
def x_j.l0 (K : Nat) (a0 : x_d) (a1 : Int) : Nat → (Int × x_d × Unit) → Int → (x_d × Unit) → (List TRow) → Option (x_ao × x_d × Unit)
 | 0, _, _, _, _ => none
 | n + 1, v1, q0, q1, q2 => x_j.l0b K a0 a1 (x_j.l0 K a0 a1 n) (x_j.l1 K a0 a1 K) v1 q0 q1 q2
def x_j.b (K : Nat) (a0 : x_d) (a1 : Int) (L0 : (Int × x_d × Unit) → Int → (x_d × Unit) → (List TRow) → Option (x_ao × x_d × Unit)) : Option (x_ao × x_d × Unit) :=
 (x_bs K a0).bind fun v1 =>
 L0 v1 0 v1.2 []
def x_j (K : Nat) (a0 : x_d) (a1 : Int) : Option (x_ao × x_d × Unit) := x_j.b K a0 a1 (x_j.l0 K a0 a1 K)
def x_vm (K : Nat) (a0 : x_n) (a1 : List Int) : Option (x_ao × Bool × Unit) :=
 (x_gl a0).bind fun v1 =>
 bif !v1.1 then some (([], [], [], 0, [], []), false, ())
 else (x_j K (a1, 0, true) a0.1).bind fun v2 =>
 bif !v2.2.1.2.2 then some (([], [], [], 0, [], []), false, ())
 else bif !(decide (v2.2.1.2.1 = ((a1.length : Nat) : Int))) then some (([], [], [], 0, [], []), false, ())
 else (x_z K a0 v2.1).bind fun v3 =>
 bif !v3.1 then some (([], [], [], 0, [], []), false, ())
 else some (v2.1, true, ())
def x_vd (a0 : TLog) (a1 : Int) : Option (TLog × Unit) :=
 (x_o4 a0).bind fun v1 =>
 (x_9y a0 a1).bind fun v2 =>
 bif decide (v2.1 < 0) then some (v1.1, ())
 else bif decide ((0 : Int) ≤ v2.1) then bif decide (v2.1 < ((a0.2.2.length : Nat) : Int)) then bif decide (((a0.2.2.length : Nat) : Int) = ((a0.2.2.length : Nat) : Int)) then bif decide ((0 : Int) ≤ (IntKind.i64.wrap (v2.1 + 1))) then bif decide ((IntKind.i64.wrap (v2.1 + 1)) ≤ ((a0.2.2.length : Nat) : Int)) then bif decide (((a0.2.2.length : Nat) : Int) ≤ ((a0.2.2.length : Nat) : Int)) then bif decide ((([] : List x_au).length + ((a0.2.2.take (Int.toNat ((a0.2.2.length : Nat) : Int))).drop (Int.toNat (IntKind.i64.wrap (v2.1 + 1)))).length) * 89 ≤ x_g) then some ((a1, (a0.2.2.getD (Int.toNat v2.1) x_ck).1, [] ++ ((a0.2.2.take (Int.toNat ((a0.2.2.length : Nat) : Int))).drop (Int.toNat (IntKind.i64.wrap (v2.1 + 1))))), ())
 else none
 else none
 else none
 else none
 else none
 else none
 else none
def x_6v (K : Nat) (a0 : x_n) (a1 : x_ff) (a2 : x_gs) : Option (x_ff × Unit) :=
 bif decide (a2.1 = 1) then some ((a2.2.1, a2.2.2.1, a1.2.2), ())
 else bif decide (a2.1 = 2) then (x_cb K a1.2.2.1 a2.2.2.2.1 a2.2.1 a2.2.2.2.2.1).bind fun v1 =>
  bif v1.2.1 then some ((a1.1, a1.2.1, v1.1, a1.2.2.2), ())
  else some (a1, ())
 else bif decide (a2.1 = 3) then (x_vm K a0 (x_dm a2.2.2.2.2.2)).bind fun v2 =>
  bif !v2.2.1 then some (a1, ())
  else bif decide (a2.2.2.2.1 ≤ a1.2.2.1.1) then some (a1, ())
  else (x_ho a1.2.2.1 a2.2.2.2.1).bind fun v3 =>
  bif decide (v3.1 = a2.2.1) then (x_vd a1.2.2.1 a2.2.2.2.1).bind fun v4 =>
   some ((a1.1, a1.2.1, v4.1, v2.1), ())
  else some ((a1.1, a1.2.1, (a2.2.2.2.1, a2.2.1, []), v2.1), ())
 else some (a1, ())
def x_iw (K : Nat) (a0 : x_n) (a1 : x_ff) (a2 : x_gs) : Option (x_ff × Unit) :=
 (x_q1 K a0 a1).bind fun v1 =>
 bif !v1.1 then (x_is K a1).bind fun v3 =>
  some (v3.1, ())
 else (x_ov K a2).bind fun v2 =>
 bif !v2.1 then (x_is K a1).bind fun v4 =>
  some (v4.1, ())
 else (x_is K a1).bind fun v5 =>
 (x_6v K a0 v5.1 a2).bind fun v6 =>
 (x_q1 K a0 v6.1).bind fun v7 =>
 bif !v7.1 then (x_is K a1).bind fun v8 =>
  some (v8.1, ())
 else some (v6.1, ())
def x_jh (K : Nat) (a0 : x_n) (a1 : x_bt) (a2 : x_gs) : Option (x_bt × Bool × Unit) :=
 (x_w K a1).bind fun v1 =>
 (x_e3 K a2).bind fun v2 =>
 (x_z9 a1.2.2.2.2.2.2.2.2.1 v2.1).bind fun v3 =>
 (x_iw K a0 a1.2.1 a2).bind fun v4 =>
 bif !v3.2.1 then (x_w K a1).bind fun v7 =>
  some (v7.1, false, ())
 else (x_ov K a2).bind fun v5 =>
 bif !v5.1 then (x_w K a1).bind fun v8 =>
  some (v8.1, false, ())
 else (x_3 K a0 (v1.1.1, v4.1, v1.1.2.2.1, v1.1.2.2.2.1, v1.1.2.2.2.2.1, v1.1.2.2.2.2.2.1, v1.1.2.2.2.2.2.2.1, v1.1.2.2.2.2.2.2.2.1, v3.1, v1.1.2.2.2.2.2.2.2.2.2) ((a1.2.2.2.1.length : Nat) : Int)).bind fun v6 =>
 bif !v6.1 then (x_w K a1).bind fun v9 =>
  some (v9.1, false, ())
 else some ((v1.1.1, v4.1, v1.1.2.2.1, v1.1.2.2.2.1, v1.1.2.2.2.2.1, v1.1.2.2.2.2.2.1, v1.1.2.2.2.2.2.2.1, v1.1.2.2.2.2.2.2.2.1, v3.1, v1.1.2.2.2.2.2.2.2.2.2), true, ())
def x_fh (K : Nat) (a0 : x_e) (a1 : x_gs) : Option (x_e × Unit) :=
 bif !a0.2.2.2 then some (a0, ())
 else (x_jh K a0.1 a0.2.2.1 a1).bind fun v1 =>
 some ((a0.1, a0.2.1, v1.1, v1.2.1), ())
def x_hd (K : Nat) (a0 : x_e) (a1 : Int) : Option (x_e × Unit) :=
 bif decide (a1 > a0.2.2.1.2.1.1) then (x_fh K a0 (1, a1, (-1), 0, [], ByteArray.empty)).bind fun v1 =>
  some ((v1.1.1, v1.1.2.1, (v1.1.2.2.1.1, v1.1.2.2.1.2.1, 0, v1.1.2.2.1.2.2.2), v1.1.2.2.2), ())
 else some ((a0.1, a0.2.1, (a0.2.2.1.1, a0.2.2.1.2.1, 0, a0.2.2.1.2.2.2), a0.2.2.2), ())
def x_14 (a0 : TLog) (a1 : Int) (a2 : Int) : Option (Bool × Unit) :=
 (x_cs a0).bind fun v1 =>
 bif decide (a2 > v1.2.1) then some (true, ())
 else bif decide (a2 = v1.2.1) then some (decide (a1 ≥ v1.1), ())
 else some (false, ())
def s_Tell (K : Nat) (a0 : x_bt) (a1 : TRpc) : Option (x_bt × Bool × Unit) :=
 (x_w K a0).bind fun v1 =>
 bif decide (((a0.2.2.2.2.2.2.2.2.2.length : Nat) : Int) ≥ 40) then some (v1.1, false, ())
 else (x_ro a1).bind fun v2 =>
 bif decide ((v1.1.2.2.2.2.2.2.2.2.2.length + [v2.1].length) * 105 ≤ x_g) then some ((v1.1.1, v1.1.2.1, v1.1.2.2.1, v1.1.2.2.2.1, v1.1.2.2.2.2.1, v1.1.2.2.2.2.2.1, v1.1.2.2.2.2.2.2.1, v1.1.2.2.2.2.2.2.2.1, v1.1.2.2.2.2.2.2.2.2.1, v1.1.2.2.2.2.2.2.2.2.2 ++ [v2.1]), true, ())
 else none
def x_ek (K : Nat) (a0 : x_e) (a1 : TRpc) : Option (x_e × Unit) :=
 bif !a0.2.2.2 then some (a0, ())
 else (s_Tell K a0.2.2.1 (a1.1, a0.2.2.1.1, a1.2.2.1, a0.2.2.1.2.1.1, a1.2.2.2.2)).bind fun v1 =>
 bif v1.2.1 then (x_yg K (a1.1, a0.2.2.1.1, a1.2.2.1, a0.2.2.1.2.1.1, a1.2.2.2.2) a0.2.1).bind fun v2 =>
  some ((a0.1, a0.2.1, v1.1, v2.1), ())
 else some ((a0.1, a0.2.1, v1.1, false), ())
def x_fy.j0 (K : Nat) (p3 : Bool) (a0 : x_e) (a1 : TRpc) : Option (x_e × Unit) :=
 bif p3 then bif decide (a0.2.2.1.2.1.2.1 = (-1)) then (x_fh K a0 (1, a0.2.2.1.2.1.1, a1.2.1, 0, [], ByteArray.empty)).bind fun v4 =>
   (x_ek K v4.1 (2, 0, a1.2.1, 0, 0, 0, 0, [], p3, ByteArray.empty)).bind fun v5 =>
   some (v5.1, ())
  else (x_ek K a0 (2, 0, a1.2.1, 0, 0, 0, 0, [], p3, ByteArray.empty)).bind fun v6 =>
  some (v6.1, ())
 else (x_ek K a0 (2, 0, a1.2.1, 0, 0, 0, 0, [], p3, ByteArray.empty)).bind fun v7 =>
 some (v7.1, ())
def x_fy (K : Nat) (a0 : x_e) (a1 : TRpc) : Option (x_e × Unit) :=
 bif decide (a1.2.2.2.1 = a0.2.2.1.2.1.1) then bif decide (a0.2.2.1.2.1.2.1 = (-1)) then (x_14 a0.2.2.1.2.1.2.2.1 a1.2.2.2.2.1 a1.2.2.2.2.2.1).bind fun v1 =>
   x_fy.j0 K v1.1 a0 a1
  else bif decide (a0.2.2.1.2.1.2.1 = a1.2.1) then (x_14 a0.2.2.1.2.1.2.2.1 a1.2.2.2.2.1 a1.2.2.2.2.2.1).bind fun v2 =>
   x_fy.j0 K v2.1 a0 a1
  else x_fy.j0 K false a0 a1
 else x_fy.j0 K false a0 a1
def x_3s (a0 : Bool) : Option (Int × Unit) :=
 bif a0 then some (1, ())
 else some (0, ())
def x_6o (a0 : Int) : Option (Int × Unit) :=
 some (IntKind.i64.wrap ((IntKind.i64.wrap (Int.tdiv a0 2)) + 1), ())
def x_pf (K : Nat) (a0 : x_e) : Option (x_e × Unit) :=
 (x_w K a0.2.2.1).bind fun v1 =>
 (x_cs a0.2.2.1.2.1.2.2.1).bind fun v2 =>
 (x_bh K a0.2.1 (IntKind.i64.wrap (v2.1 + 1))).bind fun v3 =>
 bif decide (a0.2.1 = a0.2.1) then bif decide ((0 : Int) ≤ a0.2.1) then bif decide ((Int.toNat a0.2.1) * 9 ≤ x_g) then (x_fh K (a0.1, a0.2.1, (a0.2.2.1.1, a0.2.2.1.2.1, 2, a0.2.2.1.2.2.2.1, v3.1, List.replicate (Int.toNat a0.2.1) 0, a0.2.2.1.2.2.2.2.2.2), a0.2.2.2) (2, v2.2.1, 0, v2.1, [(a0.2.2.1.2.1.1, (-1), 0, 0, 0, 0, 0, ByteArray.empty, ByteArray.empty)], ByteArray.empty)).bind fun v4 =>
 bif !v4.1.2.2.2 then some ((v4.1.1, v4.1.2.1, (v1.1.1, v1.1.2.1, 0, v1.1.2.2.2), true), ())
 else bif decide (((v4.1.2.2.1.2.1.2.2.1.2.2.length : Nat) : Int) = ((v1.1.2.1.2.2.1.2.2.length : Nat) : Int)) then some ((v4.1.1, v4.1.2.1, (v1.1.1, v1.1.2.1, 0, v1.1.2.2.2), true), ())
 else some (v4.1, ())
 else none
 else none
 else none
def x_bi.l0b (K : Nat) (a0 : x_e) (a1 : TRpc) (L0 : Int → Int → Option (x_e × Unit)) (q0 : Int) (q1 : Int) : Option (x_e × Unit) :=
 bif decide (q1 < a0.2.1) then bif decide ((0 : Int) ≤ q1) then bif decide (q1 < (((a0.2.2.1.2.2.2.1.set (Int.toNat a1.2.1) true).length : Nat) : Int)) then (x_3s ((a0.2.2.1.2.2.2.1.set (Int.toNat a1.2.1) true).getD (Int.toNat q1) false)).bind fun v1 =>
  L0 (IntKind.i64.wrap (q0 + v1.1)) (IntKind.i64.wrap (q1 + 1))
  else none
  else none
 else (x_6o a0.2.1).bind fun v2 =>
 bif decide (q0 ≥ v2.1) then (x_pf K (a0.1, a0.2.1, (a0.2.2.1.1, a0.2.2.1.2.1, a0.2.2.1.2.2.1, a0.2.2.1.2.2.2.1.set (Int.toNat a1.2.1) true, a0.2.2.1.2.2.2.2), a0.2.2.2)).bind fun v3 =>
  some (v3.1, ())
 else some ((a0.1, a0.2.1, (a0.2.2.1.1, a0.2.2.1.2.1, a0.2.2.1.2.2.1, a0.2.2.1.2.2.2.1.set (Int.toNat a1.2.1) true, a0.2.2.1.2.2.2.2), a0.2.2.2), ())
def x_bi.l0 (K : Nat) (a0 : x_e) (a1 : TRpc) : Nat → Int → Int → Option (x_e × Unit)
 | 0, _, _ => none
 | n + 1, q0, q1 => x_bi.l0b K a0 a1 (x_bi.l0 K a0 a1 n) q0 q1
def x_bi.b (K : Nat) (a0 : x_e) (a1 : TRpc) (L0 : Int → Int → Option (x_e × Unit)) : Option (x_e × Unit) :=
 bif !(decide (a0.2.2.1.2.2.1 = 1)) then some (a0, ())
 else bif !a1.2.2.2.2.2.2.2.2.1 then some (a0, ())
 else bif !(decide (a1.2.2.2.1 = a0.2.2.1.2.1.1)) then some (a0, ())
 else bif decide ((0 : Int) ≤ a1.2.1) then bif decide (a1.2.1 < ((a0.2.2.1.2.2.2.1.length : Nat) : Int)) then L0 0 0
 else none
 else none
def x_bi (K : Nat) (a0 : x_e) (a1 : TRpc) : Option (x_e × Unit) := x_bi.b K a0 a1 (x_bi.l0 K a0 a1 K)
def x_eb (K : Nat) (a0 : x_e) (a1 : Int) (a2 : Bool) (a3 : Int) : Option (x_e × Unit) :=
 (x_ek K a0 (4, 0, a1, 0, a3, 0, 0, [], a2, ByteArray.empty)).bind fun v1 =>
 some (v1.1, ())
def x_bp.l0b (K : Nat) (a0 : x_bt) (a1 : TLog) (L0 : Int → Option (Bool × Unit)) (q0 : Int) : Option (Bool × Unit) :=
 bif decide (q0 ≤ a0.2.2.2.2.2.2.1) then (x_ho a1 q0).bind fun v2 =>
  (x_ho a0.2.1.2.2.1 q0).bind fun v3 =>
  bif !(decide (v2.1 = v3.1)) then some (true, ())
  else L0 (IntKind.i64.wrap (q0 + 1))
 else some (false, ())
def x_bp.l0 (K : Nat) (a0 : x_bt) (a1 : TLog) : Nat → Int → Option (Bool × Unit)
 | 0, _ => none
 | n + 1, q0 => x_bp.l0b K a0 a1 (x_bp.l0 K a0 a1 n) q0
def x_bp.b (K : Nat) (a0 : x_bt) (a1 : TLog) (L0 : Int → Option (Bool × Unit)) : Option (Bool × Unit) :=
 (x_cs a1).bind fun v1 =>
 bif decide (v1.1 < a0.2.2.2.2.2.2.1) then some (true, ())
 else L0 (IntKind.i64.wrap (a0.2.1.2.2.1.1 + 1))
def x_bp (K : Nat) (a0 : x_bt) (a1 : TLog) : Option (Bool × Unit) := x_bp.b K a0 a1 (x_bp.l0 K a0 a1 K)
def x_jx (a0 : Int) (a1 : Int) : Option (Int × Unit) :=
 bif decide (a0 < a1) then some (a0, ())
 else some (a1, ())
def x_ah.l0b (K : Nat) (a0 : List x_au) (a1 : List x_au) (L0 : Int → Option (Bool × Unit)) (q0 : Int) : Option (Bool × Unit) :=
 bif decide (q0 < ((a0.length : Nat) : Int)) then bif decide (q0 < ((a1.length : Nat) : Int)) then bif decide ((0 : Int) ≤ q0) then bif decide (q0 < ((a0.length : Nat) : Int)) then bif decide ((0 : Int) ≤ q0) then bif decide (q0 < ((a1.length : Nat) : Int)) then bif !(qEntry (a0.getD (Int.toNat q0) x_ck) (a1.getD (Int.toNat q0) x_ck)) then some (false, ())
   else L0 (IntKind.i64.wrap (q0 + 1))
   else none
   else none
   else none
   else none
  else some (decide (((a0.length : Nat) : Int) = ((a1.length : Nat) : Int)), ())
 else some (decide (((a0.length : Nat) : Int) = ((a1.length : Nat) : Int)), ())
def x_ah.l0 (K : Nat) (a0 : List x_au) (a1 : List x_au) : Nat → Int → Option (Bool × Unit)
 | 0, _ => none
 | n + 1, q0 => x_ah.l0b K a0 a1 (x_ah.l0 K a0 a1 n) q0
def x_ah.b (K : Nat) (a0 : List x_au) (a1 : List x_au) (L0 : Int → Option (Bool × Unit)) : Option (Bool × Unit) :=
 L0 0
def x_ah (K : Nat) (a0 : List x_au) (a1 : List x_au) : Option (Bool × Unit) := x_ah.b K a0 a1 (x_ah.l0 K a0 a1 K)
def x_a0.l0b (K : Nat) (a0 : x_e) (a1 : Int) (L0 : Int → (List Int) → (List Int) → Option (x_e × Unit)) (q0 : Int) (q1 : List Int) (q2 : List Int) : Option (x_e × Unit) :=
 bif decide (q0 < a0.2.1) then bif decide ((0 : Int) ≤ q0) then bif decide (q0 < ((q1.length : Nat) : Int)) then (x_jx (q1.getD (Int.toNat q0) 0) (IntKind.i64.wrap (a1 + 1))).bind fun v1 =>
  bif decide ((0 : Int) ≤ q0) then bif decide (q0 < ((q1.length : Nat) : Int)) then bif decide ((0 : Int) ≤ q0) then bif decide (q0 < ((q2.length : Nat) : Int)) then (x_jx (q2.getD (Int.toNat q0) 0) a1).bind fun v2 =>
  bif decide ((0 : Int) ≤ q0) then bif decide (q0 < ((q2.length : Nat) : Int)) then L0 (IntKind.i64.wrap (q0 + 1)) (q1.set (Int.toNat q0) v1.1) (q2.set (Int.toNat q0) v2.1)
  else none
  else none
  else none
  else none
  else none
  else none
  else none
  else none
 else some ((a0.1, a0.2.1, (a0.2.2.1.1, a0.2.2.1.2.1, a0.2.2.1.2.2.1, a0.2.2.1.2.2.2.1, q1, q2, a0.2.2.1.2.2.2.2.2.2), a0.2.2.2), ())
def x_a0.l0 (K : Nat) (a0 : x_e) (a1 : Int) : Nat → Int → (List Int) → (List Int) → Option (x_e × Unit)
 | 0, _, _, _ => none
 | n + 1, q0, q1, q2 => x_a0.l0b K a0 a1 (x_a0.l0 K a0 a1 n) q0 q1 q2
def x_a0.b (K : Nat) (a0 : x_e) (a1 : Int) (L0 : Int → (List Int) → (List Int) → Option (x_e × Unit)) : Option (x_e × Unit) :=
 L0 0 a0.2.2.1.2.2.2.2.1 a0.2.2.1.2.2.2.2.2.1
def x_a0 (K : Nat) (a0 : x_e) (a1 : Int) : Option (x_e × Unit) := x_a0.b K a0 a1 (x_a0.l0 K a0 a1 K)
def x_sw (K : Nat) (a0 : x_n) (a1 : x_ao) (a2 : TCmd) : Option (x_ao × x_a2 × Unit) :=
 bif decide ((0 : Int) ≤ a2.2.2.2.1) then bif decide (a2.2.2.2.1 < ((a1.2.2.1.length : Nat) : Int)) then bif decide (a2.2.2.1 = 4) then (x_ac K (a1.2.2.1.getD (Int.toNat a2.2.2.2.1) x_d9) a2.1 a1.2.2.2.1).bind fun v1 =>
  bif decide ((0 : Int) ≤ a2.2.2.2.1) then bif decide (a2.2.2.2.1 < ((a1.2.2.1.length : Nat) : Int)) then bif decide ((0 : Int) ≤ a2.2.2.2.1) then bif decide (a2.2.2.2.1 < (((a1.2.2.1.set (Int.toNat a2.2.2.2.1) v1.1).length : Nat) : Int)) then some ((a1.1, a1.2.1, a1.2.2.1.set (Int.toNat a2.2.2.2.1) v1.1, a1.2.2.2), (0, ((a1.2.2.1.set (Int.toNat a2.2.2.2.1) v1.1).getD (Int.toNat a2.2.2.2.1) x_d9).1, ByteArray.empty, ByteArray.empty), ())
  else none
  else none
  else none
  else none
 else bif decide (a2.2.2.1 = 5) then (x_h7 K (a1.2.2.1.getD (Int.toNat a2.2.2.2.1) x_d9) a2.1).bind fun v2 =>
  bif decide ((0 : Int) ≤ a2.2.2.2.1) then bif decide (a2.2.2.2.1 < ((a1.2.2.1.length : Nat) : Int)) then bif decide ((0 : Int) ≤ a2.2.2.2.1) then bif decide (a2.2.2.2.1 < (((a1.2.2.1.set (Int.toNat a2.2.2.2.1) v2.1).length : Nat) : Int)) then some ((a1.1, a1.2.1, a1.2.2.1.set (Int.toNat a2.2.2.2.1) v2.1, a1.2.2.2), (0, ((a1.2.2.1.set (Int.toNat a2.2.2.2.1) v2.1).getD (Int.toNat a2.2.2.2.1) x_d9).1, ByteArray.empty, ByteArray.empty), ())
  else none
  else none
  else none
  else none
 else bif decide (a2.2.2.1 = 6) then (x_ka (a1.2.2.1.getD (Int.toNat a2.2.2.2.1) x_d9) a2.1 (a1.2.2.1.getD (Int.toNat a2.2.2.2.1) x_d9).1 a2.2.2.2.2.1 a2.2.2.2.2.2.1).bind fun v3 =>
  bif !v3.2.1 then some (a1, (9, 0, ByteArray.empty, ByteArray.empty), ())
  else bif decide ((0 : Int) ≤ a2.2.2.2.1) then bif decide (a2.2.2.2.1 < ((a1.2.2.1.length : Nat) : Int)) then some ((a1.1, a1.2.1, a1.2.2.1.set (Int.toNat a2.2.2.2.1) v3.1, a1.2.2.2), (0, a2.2.2.2.2.2.1, ByteArray.empty, ByteArray.empty), ())
  else none
  else none
 else bif decide (a2.2.2.2.2.1 ≥ a0.1) then some (a1, (5, 0, ByteArray.empty, ByteArray.empty), ())
 else bif decide ((0 : Int) ≤ a2.2.2.2.2.1) then bif decide (a2.2.2.2.2.1 < (((a1.2.2.1.getD (Int.toNat a2.2.2.2.1) x_d9).2.2.2.length : Nat) : Int)) then some (a1, (0, (a1.2.2.1.getD (Int.toNat a2.2.2.2.1) x_d9).2.2.2.getD (Int.toNat a2.2.2.2.2.1) 0, ByteArray.empty, ByteArray.empty), ())
 else none
 else none
 else none
 else none
def x_bk.l0b (K : Nat) (a0 : List x_v) (a1 : Int) (a2 : Int) (L0 : Int → Option (x_v × Unit)) (q0 : Int) : Option (x_v × Unit) :=
 bif decide (q0 < ((a0.length : Nat) : Int)) then bif decide ((0 : Int) ≤ q0) then bif decide (q0 < ((a0.length : Nat) : Int)) then bif decide ((a0.getD (Int.toNat q0) x_b5).1 = a1) then bif decide ((0 : Int) ≤ q0) then bif decide (q0 < ((a0.length : Nat) : Int)) then bif decide ((a0.getD (Int.toNat q0) x_b5).2.1 = a2) then bif decide ((0 : Int) ≤ q0) then bif decide (q0 < ((a0.length : Nat) : Int)) then (x_d7 (a0.getD (Int.toNat q0) x_b5)).bind fun v1 =>
    some (v1.1, ())
    else none
    else none
   else L0 (IntKind.i64.wrap (q0 + 1))
   else none
   else none
  else L0 (IntKind.i64.wrap (q0 + 1))
  else none
  else none
 else some ((a1, a2, 0, (-1), []), ())
def x_bk.l0 (K : Nat) (a0 : List x_v) (a1 : Int) (a2 : Int) : Nat → Int → Option (x_v × Unit)
 | 0, _ => none
 | n + 1, q0 => x_bk.l0b K a0 a1 a2 (x_bk.l0 K a0 a1 a2 n) q0
def x_bk.b (K : Nat) (a0 : List x_v) (a1 : Int) (a2 : Int) (L0 : Int → Option (x_v × Unit)) : Option (x_v × Unit) :=
 L0 0
def x_bk (K : Nat) (a0 : List x_v) (a1 : Int) (a2 : Int) : Option (x_v × Unit) := x_bk.b K a0 a1 a2 (x_bk.l0 K a0 a1 a2 K)
def x_a1.l0b (K : Nat) (a0 : x_v) (a1 : Int) (a2 : Int) (L0 : Int → Option (Int × Int × Unit)) (q0 : Int) : Option (Int × Int × Unit) :=
 bif decide (q0 < ((a0.2.2.2.2.length : Nat) : Int)) then bif decide ((0 : Int) ≤ q0) then bif decide (q0 < ((a0.2.2.2.2.length : Nat) : Int)) then bif decide ((a0.2.2.2.2.getD (Int.toNat q0) x_wg).1 = a2) then bif decide ((0 : Int) ≤ q0) then bif decide (q0 < ((a0.2.2.2.2.length : Nat) : Int)) then some (1, (a0.2.2.2.2.getD (Int.toNat q0) x_wg).2, ())
   else none
   else none
  else L0 (IntKind.i64.wrap (q0 + 1))
  else none
  else none
 else some (2, 0, ())
def x_a1.l0 (K : Nat) (a0 : x_v) (a1 : Int) (a2 : Int) : Nat → Int → Option (Int × Int × Unit)
 | 0, _ => none
 | n + 1, q0 => x_a1.l0b K a0 a1 a2 (x_a1.l0 K a0 a1 a2 n) q0
def x_a1.b (K : Nat) (a0 : x_v) (a1 : Int) (a2 : Int) (L0 : Int → Option (Int × Int × Unit)) : Option (Int × Int × Unit) :=
 bif decide (a1 < a0.2.2.1) then some (4, 0, ())
 else bif decide (a1 > a0.2.2.1) then bif decide (a2 = 0) then some (0, 0, ())
  else some (3, 0, ())
 else bif decide (a2 > a0.2.2.2.1) then bif decide ((IntKind.i64.wrap (a2 - 1)) = a0.2.2.2.1) then some (0, 0, ())
  else some (3, 0, ())
 else L0 0
def x_a1 (K : Nat) (a0 : x_v) (a1 : Int) (a2 : Int) : Option (Int × Int × Unit) := x_a1.b K a0 a1 a2 (x_a1.l0 K a0 a1 a2 K)
def x_ds.j0 (K : Nat) (p3 : List x_wf) (a3 : Int) (a4 : Int) (a1 : Int) (v1 : x_v × Unit) (a2 : Int) : Option (x_v × Unit) :=
 bif decide ((p3.length + [(a3, a4)].length) * 17 ≤ x_g) then (x_hl a1 0).bind fun v4 =>
 bif decide ((((p3 ++ [(a3, a4)]).length : Nat) : Int) > v4.1) then (x_hl a1 0).bind fun v5 =>
  bif decide ((((p3 ++ [(a3, a4)]).length : Nat) : Int) = (((p3 ++ [(a3, a4)]).length : Nat) : Int)) then bif decide ((0 : Int) ≤ (IntKind.i64.wrap ((((p3 ++ [(a3, a4)]).length : Nat) : Int) - v5.1))) then bif decide ((IntKind.i64.wrap ((((p3 ++ [(a3, a4)]).length : Nat) : Int) - v5.1)) ≤ (((p3 ++ [(a3, a4)]).length : Nat) : Int)) then bif decide ((((p3 ++ [(a3, a4)]).length : Nat) : Int) ≤ (((p3 ++ [(a3, a4)]).length : Nat) : Int)) then bif decide ((([] : List x_wf).length + (((p3 ++ [(a3, a4)]).take (Int.toNat (((p3 ++ [(a3, a4)]).length : Nat) : Int))).drop (Int.toNat (IntKind.i64.wrap ((((p3 ++ [(a3, a4)]).length : Nat) : Int) - v5.1)))).length) * 17 ≤ x_g) then some ((v1.1.1, v1.1.2.1, a2, a3, [] ++ (((p3 ++ [(a3, a4)]).take (Int.toNat (((p3 ++ [(a3, a4)]).length : Nat) : Int))).drop (Int.toNat (IntKind.i64.wrap ((((p3 ++ [(a3, a4)]).length : Nat) : Int) - v5.1))))), ())
  else none
  else none
  else none
  else none
  else none
 else some ((v1.1.1, v1.1.2.1, a2, a3, p3 ++ [(a3, a4)]), ())
 else none
def x_ds (K : Nat) (a0 : x_v) (a1 : Int) (a2 : Int) (a3 : Int) (a4 : Int) : Option (x_v × Unit) :=
 (x_d7 a0).bind fun v1 =>
 (x_a1 K a0 a2 a3).bind fun v2 =>
 bif !(decide (v2.1 = 0)) then some (v1.1, ())
 else bif decide (a2 > a0.2.2.1) then x_ds.j0 K [] a3 a4 a1 v1 a2
 else x_ds.j0 K v1.1.2.2.2.2 a3 a4 a1 v1 a2
def x_am.j0 (K : Nat) (L0 : (List x_v) → Bool → Int → Option ((List x_v) × Unit)) (q1 : Bool) (a0 : List x_v) (q2 : Int) (a1 : x_v) (q0 : List x_v) : Option ((List x_v) × Unit) :=
 bif !q1 then bif decide ((a0.getD (Int.toNat q2) x_b5).1 > a1.1) then (x_d7 a1).bind fun v2 =>
   bif decide ((q0.length + [v2.1].length) * 57 ≤ x_g) then (x_d7 (a0.getD (Int.toNat q2) x_b5)).bind fun v4 =>
   bif decide (((q0 ++ [v2.1]).length + [v4.1].length) * 57 ≤ x_g) then L0 ((q0 ++ [v2.1]) ++ [v4.1]) true (IntKind.i64.wrap (q2 + 1))
   else none
   else none
  else bif decide ((a0.getD (Int.toNat q2) x_b5).1 = a1.1) then bif decide ((a0.getD (Int.toNat q2) x_b5).2.1 > a1.2.1) then (x_d7 a1).bind fun v3 =>
    bif decide ((q0.length + [v3.1].length) * 57 ≤ x_g) then (x_d7 (a0.getD (Int.toNat q2) x_b5)).bind fun v5 =>
    bif decide (((q0 ++ [v3.1]).length + [v5.1].length) * 57 ≤ x_g) then L0 ((q0 ++ [v3.1]) ++ [v5.1]) true (IntKind.i64.wrap (q2 + 1))
    else none
    else none
   else (x_d7 (a0.getD (Int.toNat q2) x_b5)).bind fun v6 =>
   bif decide ((q0.length + [v6.1].length) * 57 ≤ x_g) then L0 (q0 ++ [v6.1]) q1 (IntKind.i64.wrap (q2 + 1))
   else none
  else (x_d7 (a0.getD (Int.toNat q2) x_b5)).bind fun v7 =>
  bif decide ((q0.length + [v7.1].length) * 57 ≤ x_g) then L0 (q0 ++ [v7.1]) q1 (IntKind.i64.wrap (q2 + 1))
  else none
 else (x_d7 (a0.getD (Int.toNat q2) x_b5)).bind fun v8 =>
 bif decide ((q0.length + [v8.1].length) * 57 ≤ x_g) then L0 (q0 ++ [v8.1]) q1 (IntKind.i64.wrap (q2 + 1))
 else none
def x_am.l0b (K : Nat) (a0 : List x_v) (a1 : x_v) (L0 : (List x_v) → Bool → Int → Option ((List x_v) × Unit)) (q0 : List x_v) (q1 : Bool) (q2 : Int) : Option ((List x_v) × Unit) :=
 bif decide (q2 < ((a0.length : Nat) : Int)) then bif decide ((0 : Int) ≤ q2) then bif decide (q2 < ((a0.length : Nat) : Int)) then bif decide ((a0.getD (Int.toNat q2) x_b5).1 = a1.1) then bif decide ((a0.getD (Int.toNat q2) x_b5).2.1 = a1.2.1) then bif !q1 then (x_d7 a1).bind fun v1 =>
     bif decide ((q0.length + [v1.1].length) * 57 ≤ x_g) then L0 (q0 ++ [v1.1]) true (IntKind.i64.wrap (q2 + 1))
     else none
    else L0 q0 q1 (IntKind.i64.wrap (q2 + 1))
   else x_am.j0 K L0 q1 a0 q2 a1 q0
  else x_am.j0 K L0 q1 a0 q2 a1 q0
  else none
  else none
 else bif !q1 then (x_d7 a1).bind fun v9 =>
  bif decide ((q0.length + [v9.1].length) * 57 ≤ x_g) then some (q0 ++ [v9.1], ())
  else none
 else some (q0, ())
def x_am.l0 (K : Nat) (a0 : List x_v) (a1 : x_v) : Nat → (List x_v) → Bool → Int → Option ((List x_v) × Unit)
 | 0, _, _, _ => none
 | n + 1, q0, q1, q2 => x_am.l0b K a0 a1 (x_am.l0 K a0 a1 n) q0 q1 q2
def x_am.b (K : Nat) (a0 : List x_v) (a1 : x_v) (L0 : (List x_v) → Bool → Int → Option ((List x_v) × Unit)) : Option ((List x_v) × Unit) :=
 L0 [] false 0
def x_am (K : Nat) (a0 : List x_v) (a1 : x_v) : Option ((List x_v) × Unit) := x_am.b K a0 a1 (x_am.l0 K a0 a1 K)
def x_75 (K : Nat) (a0 : x_n) (a1 : x_ao) (a2 : TCmd) : Option (x_ao × x_a2 × Unit) :=
 (x_bk K a1.2.1 a2.2.2.2.1 a2.1).bind fun v1 =>
 (x_a1 K v1.1 a2.2.2.2.2.2.1 a2.2.2.2.2.1).bind fun v2 =>
 bif decide (v2.1 = 1) then some (a1, (1, v2.2.1, ByteArray.empty, ByteArray.empty), ())
 else bif decide (v2.1 = 2) then some (a1, (2, 0, ByteArray.empty, ByteArray.empty), ())
 else bif decide (v2.1 = 3) then some (a1, (3, 0, ByteArray.empty, ByteArray.empty), ())
 else bif decide (v2.1 = 4) then some (a1, (4, 0, ByteArray.empty, ByteArray.empty), ())
 else bif decide ((0 : Int) ≤ a2.2.2.2.1) then bif decide (a2.2.2.2.1 < ((a1.1.length : Nat) : Int)) then (x_ra K (a1.1.getD (Int.toNat a2.2.2.2.1) zRow) a2.2.2.2.2.2.2.1 a2.2.2.2.2.2.2.2 a2.1 a1.2.2.2.1).bind fun v3 =>
 bif !v3.2.2.1 then some (a1, (8, 0, ByteArray.empty, ByteArray.empty), ())
 else bif decide ((0 : Int) ≤ a2.2.2.2.1) then bif decide (a2.2.2.2.1 < ((a1.1.length : Nat) : Int)) then (x_ds K v1.1 a0.2.1 a2.2.2.2.2.2.1 a2.2.2.2.2.1 v3.2.1).bind fun v4 =>
 (x_am K a1.2.1 v4.1).bind fun v5 =>
 some ((a1.1.set (Int.toNat a2.2.2.2.1) v3.1, v5.1, a1.2.2), (0, v3.2.1, ByteArray.empty, ByteArray.empty), ())
 else none
 else none
 else none
 else none
def x_s1 (K : Nat) (a0 : x_ao) (a1 : TCmd) : Option (x_ao × x_a2 × Unit) :=
 (x_bk K a0.2.1 a1.2.2.2.1 a1.1).bind fun v1 =>
 bif decide (a1.2.2.2.2.1 ≤ v1.1.2.2.1) then some (a0, (4, v1.1.2.2.1, ByteArray.empty, ByteArray.empty), ())
 else (x_am K a0.2.1 (a1.2.2.2.1, a1.1, a1.2.2.2.2.1, (-1), [])).bind fun v2 =>
 some ((a0.1, v2.1, a0.2.2), (0, a1.2.2.2.2.1, ByteArray.empty, ByteArray.empty), ())
def x_cd.l0b (K : Nat) (a0 : TRow) (a1 : Int) (L0 : Int → Option (x_gh × Int × Unit)) (q0 : Int) : Option (x_gh × Int × Unit) :=
 bif decide (q0 < ((a0.2.2.length : Nat) : Int)) then bif decide ((0 : Int) ≤ q0) then bif decide (q0 < ((a0.2.2.length : Nat) : Int)) then bif decide ((a0.2.2.getD (Int.toNat q0) x_cm).1 ≥ a1) then bif decide ((0 : Int) ≤ q0) then bif decide (q0 < ((a0.2.2.length : Nat) : Int)) then some (a0.2.2.getD (Int.toNat q0) x_cm, 0, ())
   else none
   else none
  else L0 (IntKind.i64.wrap (q0 + 1))
  else none
  else none
 else some ((0, ByteArray.empty, ByteArray.empty, 0, 0), 2, ())
def x_cd.l0 (K : Nat) (a0 : TRow) (a1 : Int) : Nat → Int → Option (x_gh × Int × Unit)
 | 0, _ => none
 | n + 1, q0 => x_cd.l0b K a0 a1 (x_cd.l0 K a0 a1 n) q0
def x_cd.b (K : Nat) (a0 : TRow) (a1 : Int) (L0 : Int → Option (x_gh × Int × Unit)) : Option (x_gh × Int × Unit) :=
 bif decide (a1 < a0.1) then some ((0, ByteArray.empty, ByteArray.empty, 0, 0), 1, ())
 else L0 0
def x_cd (K : Nat) (a0 : TRow) (a1 : Int) : Option (x_gh × Int × Unit) := x_cd.b K a0 a1 (x_cd.l0 K a0 a1 K)
def x_68 (K : Nat) (a0 : x_n) (a1 : x_ao) (a2 : TCmd) : Option (x_ao × x_a2 × Unit) :=
 bif decide (a2.2.2.1 = 1) then (x_75 K a0 a1 a2).bind fun v1 =>
  some (v1.1, v1.2.1, ())
 else bif decide (a2.2.2.1 = 3) then (x_s1 K a1 a2).bind fun v2 =>
  some (v2.1, v2.2.1, ())
 else bif decide (a2.2.2.1 = 2) then bif decide ((0 : Int) ≤ a2.2.2.2.1) then bif decide (a2.2.2.2.1 < ((a1.1.length : Nat) : Int)) then (x_cd K (a1.1.getD (Int.toNat a2.2.2.2.1) zRow) a2.2.2.2.2.1).bind fun v3 =>
  bif decide (v3.2.1 = 1) then some (a1, (6, 0, ByteArray.empty, ByteArray.empty), ())
  else bif decide (v3.2.1 = 2) then some (a1, (7, 0, ByteArray.empty, ByteArray.empty), ())
  else some (a1, (0, v3.1.1, v3.1.2.1, v3.1.2.2.1), ())
  else none
  else none
 else bif decide (a2.2.2.1 = 9) then bif decide ((0 : Int) ≤ a2.2.2.2.1) then bif decide (a2.2.2.2.1 < ((a1.1.length : Nat) : Int)) then (x_4 K (a1.1.getD (Int.toNat a2.2.2.2.1) zRow) a0.2.2.1 a0.2.2.2).bind fun v4 =>
  bif decide ((0 : Int) ≤ a2.2.2.2.1) then bif decide (a2.2.2.2.1 < ((a1.1.length : Nat) : Int)) then bif decide ((0 : Int) ≤ a2.2.2.2.1) then bif decide (a2.2.2.2.1 < (((a1.1.set (Int.toNat a2.2.2.2.1) v4.1).length : Nat) : Int)) then some ((a1.1.set (Int.toNat a2.2.2.2.1) v4.1, a1.2), (0, ((a1.1.set (Int.toNat a2.2.2.2.1) v4.1).getD (Int.toNat a2.2.2.2.1) zRow).1, ByteArray.empty, ByteArray.empty), ())
  else none
  else none
  else none
  else none
  else none
  else none
 else bif decide ((0 : Int) ≤ a2.2.2.2.1) then bif decide (a2.2.2.2.1 < ((a1.1.length : Nat) : Int)) then (x_bn K (a1.1.getD (Int.toNat a2.2.2.2.1) zRow) a0.2.2.1).bind fun v5 =>
 bif decide ((0 : Int) ≤ a2.2.2.2.1) then bif decide (a2.2.2.2.1 < ((a1.1.length : Nat) : Int)) then bif decide ((0 : Int) ≤ a2.2.2.2.1) then bif decide (a2.2.2.2.1 < (((a1.1.set (Int.toNat a2.2.2.2.1) v5.1).length : Nat) : Int)) then some ((a1.1.set (Int.toNat a2.2.2.2.1) v5.1, a1.2), (0, ((a1.1.set (Int.toNat a2.2.2.2.1) v5.1).getD (Int.toNat a2.2.2.2.1) zRow).1, ByteArray.empty, ByteArray.empty), ())
 else none
 else none
 else none
 else none
 else none
 else none
def x_dk.l0b (K : Nat) (a0 : x_n) (a1 : x_ao) (a2 : TCmd) (L0 : Int → (List x_o) → (Int × Unit) → Option (x_ao × x_a2 × Unit)) (q0 : Int) (q1 : List x_o) (v1 : Int × Unit) : Option (x_ao × x_a2 × Unit) :=
 bif decide (q0 < ((q1.length : Nat) : Int)) then bif decide ((0 : Int) ≤ q0) then bif decide (q0 < ((q1.length : Nat) : Int)) then (x_ap K (q1.getD (Int.toNat q0) x_d9) v1.1).bind fun v2 =>
  bif decide ((0 : Int) ≤ q0) then bif decide (q0 < ((q1.length : Nat) : Int)) then L0 (IntKind.i64.wrap (q0 + 1)) (q1.set (Int.toNat q0) v2.1) v1
  else none
  else none
  else none
  else none
 else some ((a1.1, a1.2.1, q1, v1.1, a1.2.2.2.2), (0, v1.1, ByteArray.empty, ByteArray.empty), ())
def x_dk.l0 (K : Nat) (a0 : x_n) (a1 : x_ao) (a2 : TCmd) : Nat → Int → (List x_o) → (Int × Unit) → Option (x_ao × x_a2 × Unit)
 | 0, _, _, _ => none
 | n + 1, q0, q1, v1 => x_dk.l0b K a0 a1 a2 (x_dk.l0 K a0 a1 a2 n) q0 q1 v1
def x_dk.b (K : Nat) (a0 : x_n) (a1 : x_ao) (a2 : TCmd) (L0 : Int → (List x_o) → (Int × Unit) → Option (x_ao × x_a2 × Unit)) : Option (x_ao × x_a2 × Unit) :=
 bif decide (a2.2.2.1 = 8) then (x_jx 100000 (IntKind.i64.wrap (a1.2.2.2.1 + a2.2.2.2.1))).bind fun v1 =>
  L0 0 a1.2.2.1 v1
 else (x_a4 a2.2.2.1 4 7).bind fun v3 =>
 bif v3.1 then bif decide (a2.2.2.2.1 ≥ 2) then some (a1, (9, 0, ByteArray.empty, ByteArray.empty), ())
  else (x_sw K a0 a1 a2).bind fun v4 =>
  some (v4.1, v4.2.1, ())
 else bif decide (a2.2.2.2.1 ≥ a0.1) then some (a1, (5, 0, ByteArray.empty, ByteArray.empty), ())
 else (x_68 K a0 a1 a2).bind fun v5 =>
 some (v5.1, v5.2.1, ())
def x_dk (K : Nat) (a0 : x_n) (a1 : x_ao) (a2 : TCmd) : Option (x_ao × x_a2 × Unit) := x_dk.b K a0 a1 a2 (x_dk.l0 K a0 a1 a2 K)
def x_ada (K : Nat) (a0 : x_n) (a1 : x_ao) (a2 : TCmd) : Option (x_ao × x_a2 × Unit) :=
 bif decide (a2.1 < 0) then (x_x K a1).bind fun v1 =>
  some (v1.1, (0, 0, ByteArray.empty, ByteArray.empty), ())
 else bif decide ((0 : Int) ≤ a2.1) then bif decide (a2.1 < ((a1.2.2.2.2.1.length : Nat) : Int)) then bif decide (a2.2.1 ≤ (a1.2.2.2.2.1.getD (Int.toNat a2.1) 0)) then (x_x K a1).bind fun v2 =>
  bif decide ((0 : Int) ≤ a2.1) then bif decide (a2.1 < ((a1.2.2.2.2.2.length : Nat) : Int)) then some (v2.1, a1.2.2.2.2.2.getD (Int.toNat a2.1) x_e6, ())
  else none
  else none
 else (x_x K a1).bind fun v3 =>
 (x_dk K a0 v3.1 a2).bind fun v4 =>
 bif decide ((0 : Int) ≤ a2.1) then bif decide (a2.1 < ((v4.1.2.2.2.2.1.length : Nat) : Int)) then bif decide ((0 : Int) ≤ a2.1) then bif decide (a2.1 < ((v4.1.2.2.2.2.2.length : Nat) : Int)) then some ((v4.1.1, v4.1.2.1, v4.1.2.2.1, v4.1.2.2.2.1, v4.1.2.2.2.2.1.set (Int.toNat a2.1) a2.2.1, v4.1.2.2.2.2.2.set (Int.toNat a2.1) v4.2.1), v4.2.1, ())
 else none
 else none
 else none
 else none
 else none
 else none
def x_0f (K : Nat) (a0 : x_n) (a1 : x_ao) (a2 : TCmd) : Option (x_ao × Unit) :=
 (x_ada K a0 a1 a2).bind fun v1 =>
 some (v1.1, ())
def x_cw.l0b (K : Nat) (a0 : x_e) (a1 : Int) (L0 : (Int × Int × Unit) → Int → x_ao → Option (x_e × Unit)) (v1 : Int × Int × Unit) (q0 : Int) (q1 : x_ao) : Option (x_e × Unit) :=
 (x_jx a1 v1.1).bind fun v2 =>
 bif decide (q0 < v2.1) then bif decide ((0 : Int) ≤ (IntKind.i64.wrap (q0 - a0.2.2.1.2.1.2.2.1.1))) then bif decide ((IntKind.i64.wrap (q0 - a0.2.2.1.2.1.2.2.1.1)) < ((a0.2.2.1.2.1.2.2.1.2.2.length : Nat) : Int)) then (x_0f K a0.1 q1 (a0.2.2.1.2.1.2.2.1.2.2.getD (Int.toNat (IntKind.i64.wrap (q0 - a0.2.2.1.2.1.2.2.1.1))) x_ck).2).bind fun v3 =>
  L0 v1 (IntKind.i64.wrap (q0 + 1)) v3.1
  else none
  else none
 else some ((a0.1, a0.2.1, (a0.2.2.1.1, a0.2.2.1.2.1, a0.2.2.1.2.2.1, a0.2.2.1.2.2.2.1, a0.2.2.1.2.2.2.2.1, a0.2.2.1.2.2.2.2.2.1, q0, q1, a0.2.2.1.2.2.2.2.2.2.2.2), a0.2.2.2), ())
def x_cw.l0 (K : Nat) (a0 : x_e) (a1 : Int) : Nat → (Int × Int × Unit) → Int → x_ao → Option (x_e × Unit)
 | 0, _, _, _ => none
 | n + 1, v1, q0, q1 => x_cw.l0b K a0 a1 (x_cw.l0 K a0 a1 n) v1 q0 q1
def x_cw.b (K : Nat) (a0 : x_e) (a1 : Int) (L0 : (Int × Int × Unit) → Int → x_ao → Option (x_e × Unit)) : Option (x_e × Unit) :=
 (x_cs a0.2.2.1.2.1.2.2.1).bind fun v1 =>
 L0 v1 a0.2.2.1.2.2.2.2.2.2.1 a0.2.2.1.2.2.2.2.2.2.2.1
def x_cw (K : Nat) (a0 : x_e) (a1 : Int) : Option (x_e × Unit) := x_cw.b K a0 a1 (x_cw.l0 K a0 a1 K)
def x_g3.j0 (K : Nat) (p8 : Bool) (v1 : Int × Int × Unit) (a1 : TRpc) (v3 : x_e × Unit) (v5 : TLog × Bool × Unit) (a0 : x_e) (v6 : Int × Int × Unit) : Option (x_e × Unit) :=
 bif p8 then (x_jx v1.1 (IntKind.i64.wrap (a1.2.2.2.2.1 - 1))).bind fun v9 =>
  (x_hl v9.1 0).bind fun v10 =>
  (x_eb K v3.1 a1.2.1 false v10.1).bind fun v11 =>
  some (v11.1, ())
 else (x_ah K v5.1.2.2 a0.2.2.1.2.1.2.2.1.2.2).bind fun v12 =>
 bif !v12.1 then (x_a0 K v3.1 v6.1).bind fun v13 =>
  (x_fh K v13.1 (2, a1.2.2.2.2.2.1, 0, a1.2.2.2.2.1, a1.2.2.2.2.2.2.2.1, ByteArray.empty)).bind fun v14 =>
  bif v14.1.2.2.2 then (x_jx a1.2.2.2.2.2.2.1 (IntKind.i64.wrap (a1.2.2.2.2.1 + ((a1.2.2.2.2.2.2.2.1.length : Nat) : Int)))).bind fun v15 =>
   (x_cw K v14.1 v15.1).bind fun v16 =>
   (x_eb K v16.1 a1.2.1 true (IntKind.i64.wrap (a1.2.2.2.2.1 + ((a1.2.2.2.2.2.2.2.1.length : Nat) : Int)))).bind fun v17 =>
   some (v17.1, ())
  else (x_eb K v14.1 a1.2.1 true (IntKind.i64.wrap (a1.2.2.2.2.1 + ((a1.2.2.2.2.2.2.2.1.length : Nat) : Int)))).bind fun v18 =>
  some (v18.1, ())
 else bif v3.1.2.2.2 then (x_jx a1.2.2.2.2.2.2.1 (IntKind.i64.wrap (a1.2.2.2.2.1 + ((a1.2.2.2.2.2.2.2.1.length : Nat) : Int)))).bind fun v19 =>
  (x_cw K v3.1 v19.1).bind fun v20 =>
  (x_eb K v20.1 a1.2.1 true (IntKind.i64.wrap (a1.2.2.2.2.1 + ((a1.2.2.2.2.2.2.2.1.length : Nat) : Int)))).bind fun v21 =>
  some (v21.1, ())
 else (x_eb K v3.1 a1.2.1 true (IntKind.i64.wrap (a1.2.2.2.2.1 + ((a1.2.2.2.2.2.2.2.1.length : Nat) : Int)))).bind fun v22 =>
 some (v22.1, ())
def x_g3 (K : Nat) (a0 : x_e) (a1 : TRpc) : Option (x_e × Unit) :=
 (x_cs a0.2.2.1.2.1.2.2.1).bind fun v1 =>
 bif decide (a1.2.2.2.1 < a0.2.2.1.2.1.1) then (x_eb K a0 a1.2.1 false v1.1).bind fun v2 =>
  some (v2.1, ())
 else (x_hd K a0 a1.2.2.2.1).bind fun v3 =>
 bif decide (a1.2.2.2.2.1 < a0.2.2.1.2.1.2.2.1.1) then (x_eb K v3.1 a1.2.1 true a0.2.2.1.2.1.2.2.1.1).bind fun v4 =>
  some (v4.1, ())
 else (x_cb K a0.2.2.1.2.1.2.2.1 a1.2.2.2.2.1 a1.2.2.2.2.2.1 a1.2.2.2.2.2.2.2.1).bind fun v5 =>
 (x_cs v5.1).bind fun v6 =>
 bif !v5.2.1 then x_g3.j0 K true v1 a1 v3 v5 a0 v6
 else bif decide (v6.2.1 > v3.1.2.2.1.2.1.1) then x_g3.j0 K true v1 a1 v3 v5 a0 v6
 else (x_bp K v3.1.2.2.1 v5.1).bind fun v7 =>
 x_g3.j0 K v7.1 v1 a1 v3 v5 a0 v6
def x_nd (K : Nat) (a0 : x_e) (a1 : TRpc) : Option (x_e × Unit) :=
 (x_cs a0.2.2.1.2.1.2.2.1).bind fun v1 =>
 bif decide (a1.2.2.2.1 < a0.2.2.1.2.1.1) then (x_eb K a0 a1.2.1 false v1.1).bind fun v2 =>
  some (v2.1, ())
 else (x_hd K a0 a1.2.2.2.1).bind fun v3 =>
 bif decide (a1.2.2.2.2.1 ≤ v3.1.2.2.1.2.2.2.2.2.2.1) then (x_eb K v3.1 a1.2.1 true v3.1.2.2.1.2.2.2.2.2.2.1).bind fun v4 =>
  some (v4.1, ())
 else (x_ho a0.2.2.1.2.1.2.2.1 a1.2.2.2.2.1).bind fun v5 =>
 bif decide (v5.1 = a1.2.2.2.2.2.1) then (x_cw K v3.1 a1.2.2.2.2.1).bind fun v6 =>
  (x_eb K v6.1 a1.2.1 true a1.2.2.2.2.1).bind fun v7 =>
  some (v7.1, ())
 else (x_vm K v3.1.1 (x_dm a1.2.2.2.2.2.2.2.2.2)).bind fun v8 =>
 bif !v8.2.1 then some (v3.1, ())
 else bif decide (a1.2.2.2.2.2.1 > v3.1.2.2.1.2.1.1) then some (v3.1, ())
 else (x_a0 K (v3.1.1, v3.1.2.1, (v3.1.2.2.1.1, v3.1.2.2.1.2.1, v3.1.2.2.1.2.2.1, v3.1.2.2.1.2.2.2.1, v3.1.2.2.1.2.2.2.2.1, v3.1.2.2.1.2.2.2.2.2.1, a1.2.2.2.2.1, v8.1, v3.1.2.2.1.2.2.2.2.2.2.2.2), v3.1.2.2.2) a1.2.2.2.2.1).bind fun v9 =>
 (x_fh K v9.1 (3, a1.2.2.2.2.2.1, 0, a1.2.2.2.2.1, [], a1.2.2.2.2.2.2.2.2.2)).bind fun v10 =>
 (x_eb K v10.1 a1.2.1 true a1.2.2.2.2.1).bind fun v11 =>
 some (v11.1, ())
def x_u.l0b (K : Nat) (a0 : x_e) (L1 : Int → Int → Int → Option (x_e × Unit)) (q2 : Int) : Option (x_e × Unit) :=
 bif decide (q2 > a0.2.2.1.2.2.2.2.2.2.1) then bif decide (a0.2.2.1.2.2.1 = 2) then L1 q2 0 0
  else some (a0, ())
 else some (a0, ())
def x_u.l1b (K : Nat) (a0 : x_e) (L0 : Int → Option (x_e × Unit)) (L1 : Int → Int → Int → Option (x_e × Unit)) (q2 : Int) (q3 : Int) (q4 : Int) : Option (x_e × Unit) :=
 bif decide (q4 < a0.2.1) then bif decide ((0 : Int) ≤ q4) then bif decide (q4 < ((a0.2.2.1.2.2.2.2.2.1.length : Nat) : Int)) then (x_3s (decide ((a0.2.2.1.2.2.2.2.2.1.getD (Int.toNat q4) 0) ≥ q2))).bind fun v2 =>
  L1 q2 (IntKind.i64.wrap (q3 + v2.1)) (IntKind.i64.wrap (q4 + 1))
  else none
  else none
 else (x_ho a0.2.2.1.2.1.2.2.1 q2).bind fun v3 =>
 bif decide (v3.1 = a0.2.2.1.2.1.1) then (x_6o a0.2.1).bind fun v4 =>
  bif decide (q3 ≥ v4.1) then (x_cw K a0 q2).bind fun v5 =>
   some (v5.1, ())
  else L0 (IntKind.i64.wrap (q2 - 1))
 else L0 (IntKind.i64.wrap (q2 - 1))
def x_u.l1 (K : Nat) (a0 : x_e) (L0 : Int → Option (x_e × Unit)) : Nat → Int → Int → Int → Option (x_e × Unit)
 | 0, _, _, _ => none
 | n + 1, q2, q3, q4 => x_u.l1b K a0 L0 (x_u.l1 K a0 L0 n) q2 q3 q4
def x_u.l0 (K : Nat) (a0 : x_e) : Nat → Int → Option (x_e × Unit)
 | 0, _ => none
 | n + 1, q2 => x_u.l0b K a0 (x_u.l1 K a0 (x_u.l0 K a0 n) K) q2
def x_u.b (K : Nat) (a0 : x_e) (L0 : Int → Option (x_e × Unit)) : Option (x_e × Unit) :=
 (x_cs a0.2.2.1.2.1.2.2.1).bind fun v1 =>
 L0 v1.1
def x_u (K : Nat) (a0 : x_e) : Option (x_e × Unit) := x_u.b K a0 (x_u.l0 K a0 K)
def x_dq.j0 (K : Nat) (a1 : TRpc) (a0 : x_e) : Option (x_e × Unit) :=
 bif decide ((0 : Int) ≤ a1.2.1) then bif decide (a1.2.1 < ((a0.2.2.1.2.2.2.2.1.length : Nat) : Int)) then bif decide ((0 : Int) ≤ a1.2.1) then bif decide (a1.2.1 < ((a0.2.2.1.2.2.2.2.2.1.length : Nat) : Int)) then (x_hl (a0.2.2.1.2.2.2.2.1.getD (Int.toNat a1.2.1) 0) (IntKind.i64.wrap ((a0.2.2.1.2.2.2.2.2.1.getD (Int.toNat a1.2.1) 0) + 1))).bind fun v6 =>
 bif decide ((0 : Int) ≤ a1.2.1) then bif decide (a1.2.1 < ((a0.2.2.1.2.2.2.2.1.length : Nat) : Int)) then (x_u K (a0.1, a0.2.1, (a0.2.2.1.1, a0.2.2.1.2.1, a0.2.2.1.2.2.1, a0.2.2.1.2.2.2.1, a0.2.2.1.2.2.2.2.1.set (Int.toNat a1.2.1) v6.1, a0.2.2.1.2.2.2.2.2), a0.2.2.2)).bind fun v7 =>
 some (v7.1, ())
 else none
 else none
 else none
 else none
 else none
 else none
def x_dq (K : Nat) (a0 : x_e) (a1 : TRpc) : Option (x_e × Unit) :=
 bif !(decide (a0.2.2.1.2.2.1 = 2)) then some (a0, ())
 else bif !(decide (a1.2.2.2.1 = a0.2.2.1.2.1.1)) then some (a0, ())
 else (x_cs a0.2.2.1.2.1.2.2.1).bind fun v1 =>
 bif !a1.2.2.2.2.2.2.2.2.1 then bif decide ((0 : Int) ≤ a1.2.1) then bif decide (a1.2.1 < ((a0.2.2.1.2.2.2.2.1.length : Nat) : Int)) then (x_jx (a0.2.2.1.2.2.2.2.1.getD (Int.toNat a1.2.1) 0) (IntKind.i64.wrap (a1.2.2.2.2.1 + 1))).bind fun v2 =>
  bif decide ((0 : Int) ≤ a1.2.1) then bif decide (a1.2.1 < ((a0.2.2.1.2.2.2.2.2.1.length : Nat) : Int)) then (x_hl v2.1 (IntKind.i64.wrap ((a0.2.2.1.2.2.2.2.2.1.getD (Int.toNat a1.2.1) 0) + 1))).bind fun v3 =>
  bif decide ((0 : Int) ≤ a1.2.1) then bif decide (a1.2.1 < ((a0.2.2.1.2.2.2.2.1.length : Nat) : Int)) then some ((a0.1, a0.2.1, (a0.2.2.1.1, a0.2.2.1.2.1, a0.2.2.1.2.2.1, a0.2.2.1.2.2.2.1, a0.2.2.1.2.2.2.2.1.set (Int.toNat a1.2.1) v3.1, a0.2.2.1.2.2.2.2.2), a0.2.2.2), ())
  else none
  else none
  else none
  else none
  else none
  else none
 else bif decide ((0 : Int) ≤ a1.2.1) then bif decide (a1.2.1 < ((a0.2.2.1.2.2.2.2.2.1.length : Nat) : Int)) then bif decide (a1.2.2.2.2.1 > (a0.2.2.1.2.2.2.2.2.1.getD (Int.toNat a1.2.1) 0)) then bif decide (a1.2.2.2.2.1 ≤ v1.1) then bif decide ((0 : Int) ≤ a1.2.1) then bif decide (a1.2.1 < ((a0.2.2.1.2.2.2.2.2.1.length : Nat) : Int)) then bif decide ((0 : Int) ≤ a1.2.1) then bif decide (a1.2.1 < ((a0.2.2.1.2.2.2.2.1.length : Nat) : Int)) then bif decide ((0 : Int) ≤ a1.2.1) then bif decide (a1.2.1 < (((a0.2.2.1.2.2.2.2.2.1.set (Int.toNat a1.2.1) a1.2.2.2.2.1).length : Nat) : Int)) then (x_hl (a0.2.2.1.2.2.2.2.1.getD (Int.toNat a1.2.1) 0) (IntKind.i64.wrap (((a0.2.2.1.2.2.2.2.2.1.set (Int.toNat a1.2.1) a1.2.2.2.2.1).getD (Int.toNat a1.2.1) 0) + 1))).bind fun v4 =>
   bif decide ((0 : Int) ≤ a1.2.1) then bif decide (a1.2.1 < ((a0.2.2.1.2.2.2.2.1.length : Nat) : Int)) then (x_u K (a0.1, a0.2.1, (a0.2.2.1.1, a0.2.2.1.2.1, a0.2.2.1.2.2.1, a0.2.2.1.2.2.2.1, a0.2.2.1.2.2.2.2.1.set (Int.toNat a1.2.1) v4.1, a0.2.2.1.2.2.2.2.2.1.set (Int.toNat a1.2.1) a1.2.2.2.2.1, a0.2.2.1.2.2.2.2.2.2), a0.2.2.2)).bind fun v5 =>
   some (v5.1, ())
   else none
   else none
   else none
   else none
   else none
   else none
   else none
   else none
  else x_dq.j0 K a1 a0
 else x_dq.j0 K a1 a0
 else none
 else none
def x_nt.j0 (K : Nat) (p13 : x_e × Unit) (a1 : x_bt) (a0 : x_n) (a2 : Int) : Option (x_bt × Bool × Unit) :=
 bif !p13.1.2.2.2 then (x_w K a1).bind fun v15 =>
  some (v15.1, false, ())
 else (x_3 K a0 p13.1.2.2.1 a2).bind fun v14 =>
 bif !v14.1 then (x_w K a1).bind fun v16 =>
  some (v16.1, false, ())
 else some (p13.1.2.2.1, true, ())
def x_nt.j1 (K : Nat) (p25 : x_e × Unit) (a1 : x_bt) (a0 : x_n) (a2 : Int) : Option (x_bt × Bool × Unit) :=
 bif !p25.1.2.2.2 then (x_w K a1).bind fun v27 =>
  some (v27.1, false, ())
 else (x_3 K a0 p25.1.2.2.1 a2).bind fun v26 =>
 bif !v26.1 then (x_w K a1).bind fun v28 =>
  some (v28.1, false, ())
 else some (p25.1.2.2.1, true, ())
def x_nt (K : Nat) (a0 : x_n) (a1 : x_bt) (a2 : Int) (a3 : TRpc) : Option (x_bt × Bool × Unit) :=
 (x_3 K a0 a1 a2).bind fun v1 =>
 bif !v1.1 then (x_w K a1).bind fun v3 =>
  some (v3.1, false, ())
 else (x_yg K a3 a2).bind fun v2 =>
 bif !v2.1 then (x_w K a1).bind fun v4 =>
  some (v4.1, false, ())
 else bif !(decide (a3.2.2.1 = a1.1)) then (x_w K a1).bind fun v5 =>
  some (v5.1, false, ())
 else (x_w K a1).bind fun v6 =>
 bif decide (a3.2.2.2.1 > a1.2.1.1) then (x_hd K (a0, a2, v6.1, true) a3.2.2.2.1).bind fun v7 =>
  bif decide (a3.1 = 1) then (x_fy K v7.1 a3).bind fun v8 =>
   x_nt.j0 K v8 a1 a0 a2
  else bif decide (a3.1 = 2) then (x_bi K v7.1 a3).bind fun v9 =>
   bif !v9.1.2.2.2 then (x_w K a1).bind fun v18 =>
    some (v18.1, false, ())
   else (x_3 K a0 v9.1.2.2.1 a2).bind fun v17 =>
   bif !v17.1 then (x_w K a1).bind fun v19 =>
    some (v19.1, false, ())
   else some (v9.1.2.2.1, true, ())
  else bif decide (a3.1 = 3) then (x_g3 K v7.1 a3).bind fun v10 =>
   x_nt.j0 K v10 a1 a0 a2
  else bif decide (a3.1 = 5) then (x_nd K v7.1 a3).bind fun v11 =>
   x_nt.j0 K v11 a1 a0 a2
  else (x_dq K v7.1 a3).bind fun v12 =>
  x_nt.j0 K v12 a1 a0 a2
 else bif decide (a3.1 = 1) then (x_fy K (a0, a2, v6.1, true) a3).bind fun v20 =>
  x_nt.j1 K v20 a1 a0 a2
 else bif decide (a3.1 = 2) then (x_bi K (a0, a2, v6.1, true) a3).bind fun v21 =>
  bif !v21.1.2.2.2 then (x_w K a1).bind fun v30 =>
   some (v30.1, false, ())
  else (x_3 K a0 v21.1.2.2.1 a2).bind fun v29 =>
  bif !v29.1 then (x_w K a1).bind fun v31 =>
   some (v31.1, false, ())
  else some (v21.1.2.2.1, true, ())
 else bif decide (a3.1 = 3) then (x_g3 K (a0, a2, v6.1, true) a3).bind fun v22 =>
  x_nt.j1 K v22 a1 a0 a2
 else bif decide (a3.1 = 5) then (x_nd K (a0, a2, v6.1, true) a3).bind fun v23 =>
  x_nt.j1 K v23 a1 a0 a2
 else (x_dq K (a0, a2, v6.1, true) a3).bind fun v24 =>
 x_nt.j1 K v24 a1 a0 a2
def x_0l (K : Nat) (a0 : x_r) (a1 : x_i9) : Option (x_r × Int × Unit) :=
 (x_a4 a1.2.1 0 (IntKind.i64.wrap (((a0.2.2.2.1.length : Nat) : Int) - 1))).bind fun v1 =>
 bif !v1.1 then some (a0, 2, ())
 else bif decide ((0 : Int) ≤ a1.2.1) then bif decide (a1.2.1 < ((a0.2.2.2.1.length : Nat) : Int)) then bif decide (a1.1 = 6) then bif decide (((a0.2.2.2.1.length : Nat) : Int) = 40) then some (a0, 4, ())
  else (x_ro (a0.2.2.2.1.getD (Int.toNat a1.2.1) zRpc)).bind fun v2 =>
  bif decide ((a0.2.2.2.1.length + [v2.1].length) * 105 ≤ x_g) then some ((a0.1, a0.2.1, a0.2.2.1, a0.2.2.2.1 ++ [v2.1], a0.2.2.2.2), 0, ())
  else none
 else bif decide (a1.2.1 = a1.2.1) then bif decide ((0 : Int) ≤ a1.2.1) then bif decide (a1.2.1 ≤ ((a0.2.2.2.1.length : Nat) : Int)) then bif decide ((([] : List TRpc).length + ((a0.2.2.2.1.take (Int.toNat a1.2.1)).drop 0).length) * 105 ≤ x_g) then bif decide (((a0.2.2.2.1.length : Nat) : Int) = ((a0.2.2.2.1.length : Nat) : Int)) then bif decide ((0 : Int) ≤ (IntKind.i64.wrap (a1.2.1 + 1))) then bif decide ((IntKind.i64.wrap (a1.2.1 + 1)) ≤ ((a0.2.2.2.1.length : Nat) : Int)) then bif decide (((a0.2.2.2.1.length : Nat) : Int) ≤ ((a0.2.2.2.1.length : Nat) : Int)) then bif decide ((([] ++ ((a0.2.2.2.1.take (Int.toNat a1.2.1)).drop 0)).length + ((a0.2.2.2.1.take (Int.toNat ((a0.2.2.2.1.length : Nat) : Int))).drop (Int.toNat (IntKind.i64.wrap (a1.2.1 + 1)))).length) * 105 ≤ x_g) then bif decide (a1.1 = 4) then bif decide ((0 : Int) ≤ (a0.2.2.2.1.getD (Int.toNat a1.2.1) zRpc).2.2.1) then bif decide ((a0.2.2.2.1.getD (Int.toNat a1.2.1) zRpc).2.2.1 < ((a0.2.2.1.length : Nat) : Int)) then (x_nt K a0.1 (a0.2.2.1.getD (Int.toNat (a0.2.2.2.1.getD (Int.toNat a1.2.1) zRpc).2.2.1) x_ci) a0.2.1 (a0.2.2.2.1.getD (Int.toNat a1.2.1) zRpc)).bind fun v3 =>
  bif v3.2.1 then bif decide ((0 : Int) ≤ (a0.2.2.2.1.getD (Int.toNat a1.2.1) zRpc).2.2.1) then bif decide ((a0.2.2.2.1.getD (Int.toNat a1.2.1) zRpc).2.2.1 < ((a0.2.2.1.length : Nat) : Int)) then some ((a0.1, a0.2.1, a0.2.2.1.set (Int.toNat (a0.2.2.2.1.getD (Int.toNat a1.2.1) zRpc).2.2.1) v3.1, ([] ++ ((a0.2.2.2.1.take (Int.toNat a1.2.1)).drop 0)) ++ ((a0.2.2.2.1.take (Int.toNat ((a0.2.2.2.1.length : Nat) : Int))).drop (Int.toNat (IntKind.i64.wrap (a1.2.1 + 1)))), a0.2.2.2.2), 0, ())
   else none
   else none
  else some ((a0.1, a0.2.1, a0.2.2.1, ([] ++ ((a0.2.2.2.1.take (Int.toNat a1.2.1)).drop 0)) ++ ((a0.2.2.2.1.take (Int.toNat ((a0.2.2.2.1.length : Nat) : Int))).drop (Int.toNat (IntKind.i64.wrap (a1.2.1 + 1)))), a0.2.2.2.2), 0, ())
  else none
  else none
 else some ((a0.1, a0.2.1, a0.2.2.1, ([] ++ ((a0.2.2.2.1.take (Int.toNat a1.2.1)).drop 0)) ++ ((a0.2.2.2.1.take (Int.toNat ((a0.2.2.2.1.length : Nat) : Int))).drop (Int.toNat (IntKind.i64.wrap (a1.2.1 + 1)))), a0.2.2.2.2), 0, ())
 else none
 else none
 else none
 else none
 else none
 else none
 else none
 else none
 else none
 else none
 else none
def x_g0.l0b (K : Nat) (a0 : x_r) (a1 : Int) (a2 : Int) (L0 : Int → Option (Bool × Unit)) (q0 : Int) : Option (Bool × Unit) :=
 bif decide (q0 < ((a0.2.2.2.2.2.2.1.length : Nat) : Int)) then bif decide ((0 : Int) ≤ q0) then bif decide (q0 < ((a0.2.2.2.2.2.2.1.length : Nat) : Int)) then bif decide ((a0.2.2.2.2.2.2.1.getD (Int.toNat q0) zHeard).1 = a1) then bif decide ((0 : Int) ≤ q0) then bif decide (q0 < ((a0.2.2.2.2.2.2.1.length : Nat) : Int)) then bif decide ((a0.2.2.2.2.2.2.1.getD (Int.toNat q0) zHeard).2.1 = a2) then some (true, ())
   else L0 (IntKind.i64.wrap (q0 + 1))
   else none
   else none
  else L0 (IntKind.i64.wrap (q0 + 1))
  else none
  else none
 else some (false, ())
def x_g0.l0 (K : Nat) (a0 : x_r) (a1 : Int) (a2 : Int) : Nat → Int → Option (Bool × Unit)
 | 0, _ => none
 | n + 1, q0 => x_g0.l0b K a0 a1 a2 (x_g0.l0 K a0 a1 a2 n) q0
def x_g0.b (K : Nat) (a0 : x_r) (a1 : Int) (a2 : Int) (L0 : Int → Option (Bool × Unit)) : Option (Bool × Unit) :=
 L0 0
def x_g0 (K : Nat) (a0 : x_r) (a1 : Int) (a2 : Int) : Option (Bool × Unit) := x_g0.b K a0 a1 a2 (x_g0.l0 K a0 a1 a2 K)
def x_ta (K : Nat) (a0 : x_r) (a1 : x_i9) : Option (x_r × Int × Unit) :=
 bif decide ((0 : Int) ≤ a1.2.2.1) then bif decide (a1.2.2.1 < ((a0.2.2.2.2.1.length : Nat) : Int)) then bif decide ((0 : Int) ≤ a1.2.1) then bif decide (a1.2.1 < ((a0.2.2.1.length : Nat) : Int)) then bif decide ((a0.2.2.2.2.1.getD (Int.toNat a1.2.2.1) zCmd).2.1 = 0) then some (a0, 3, ())
 else (x_g0 K a0 a1.2.2.1 (a0.2.2.2.2.1.getD (Int.toNat a1.2.2.1) zCmd).2.1).bind fun v1 =>
 bif v1.1 then some (a0, 3, ())
 else bif decide ((0 : Int) ≤ a1.2.2.1) then bif decide (a1.2.2.1 < (((a0.2.2.1.getD (Int.toNat a1.2.1) x_ci).2.2.2.2.2.2.2.1.2.2.2.2.1.length : Nat) : Int)) then bif decide (((a0.2.2.1.getD (Int.toNat a1.2.1) x_ci).2.2.2.2.2.2.2.1.2.2.2.2.1.getD (Int.toNat a1.2.2.1) 0) < (a0.2.2.2.2.1.getD (Int.toNat a1.2.2.1) zCmd).2.1) then some (a0, 3, ())
 else bif decide (((a0.2.2.2.2.2.2.1.length : Nat) : Int) ≥ 300) then some (a0, 4, ())
 else bif decide ((0 : Int) ≤ a1.2.2.1) then bif decide (a1.2.2.1 < (((a0.2.2.1.getD (Int.toNat a1.2.1) x_ci).2.2.2.2.2.2.2.1.2.2.2.2.2.length : Nat) : Int)) then bif decide ((0 : Int) ≤ a1.2.2.1) then bif decide (a1.2.2.1 < ((a0.2.2.2.2.2.1.length : Nat) : Int)) then bif decide ((a0.2.2.2.2.2.2.1.length + [(a1.2.2.1, (a0.2.2.2.2.1.getD (Int.toNat a1.2.2.1) zCmd).2.1, (a0.2.2.1.getD (Int.toNat a1.2.1) x_ci).2.2.2.2.2.2.2.1.2.2.2.2.2.getD (Int.toNat a1.2.2.1) x_e6, a0.2.2.2.2.2.1.getD (Int.toNat a1.2.2.1) 0, ((a0.2.2.2.2.2.2.2.length : Nat) : Int))].length) * 81 ≤ x_g) then some ((a0.1, a0.2.1, a0.2.2.1, a0.2.2.2.1, a0.2.2.2.2.1, a0.2.2.2.2.2.1, a0.2.2.2.2.2.2.1 ++ [(a1.2.2.1, (a0.2.2.2.2.1.getD (Int.toNat a1.2.2.1) zCmd).2.1, (a0.2.2.1.getD (Int.toNat a1.2.1) x_ci).2.2.2.2.2.2.2.1.2.2.2.2.2.getD (Int.toNat a1.2.2.1) x_e6, a0.2.2.2.2.2.1.getD (Int.toNat a1.2.2.1) 0, ((a0.2.2.2.2.2.2.2.length : Nat) : Int))], a0.2.2.2.2.2.2.2), 0, ())
 else none
 else none
 else none
 else none
 else none
 else none
 else none
 else none
 else none
 else none
 else none
def x_m1 (K : Nat) (a0 : x_n) (a1 : x_bt) (a2 : Int) (a3 : TCmd) : Option (x_bt × Bool × Unit) :=
 (x_3 K a0 a1 a2).bind fun v1 =>
 bif !v1.1 then (x_w K a1).bind fun v3 =>
  some (v3.1, false, ())
 else bif !(decide (a1.2.2.1 = 2)) then (x_w K a1).bind fun v4 =>
  some (v4.1, false, ())
 else (x_sa K a3).bind fun v2 =>
 bif !v2.1 then (x_w K a1).bind fun v5 =>
  some (v5.1, false, ())
 else (x_cs a1.2.1.2.2.1).bind fun v6 =>
 (x_jh K a0 a1 (2, v6.2.1, 0, v6.1, [(a1.2.1.1, a3)], ByteArray.empty)).bind fun v7 =>
 bif !v7.2.1 then (x_w K a1).bind fun v8 =>
  some (v8.1, false, ())
 else bif decide (((v7.1.2.1.2.2.1.2.2.length : Nat) : Int) = ((a1.2.1.2.2.1.2.2.length : Nat) : Int)) then (x_w K a1).bind fun v9 =>
  some (v9.1, false, ())
 else some (v7.1, true, ())
def x_kh.j0 (K : Nat) (a1 : x_i9) (a0 : x_r) : Option (x_r × Int × Unit) :=
 bif decide ((0 : Int) ≤ a1.2.1) then bif decide (a1.2.1 < ((a0.2.2.1.length : Nat) : Int)) then (x_m1 K a0.1 (a0.2.2.1.getD (Int.toNat a1.2.1) x_ci) a0.2.1 (a1.2.2.1, IntKind.i64.wrap ((a0.2.2.2.2.1.getD (Int.toNat a1.2.2.1) zCmd).2.1 + 1), a1.2.2.2.2.2)).bind fun v2 =>
 bif !v2.2.1 then some (a0, 3, ())
 else bif decide ((IntKind.i64.wrap ((a0.2.2.2.2.1.getD (Int.toNat a1.2.2.1) zCmd).2.1 + 1)) = 0) then some (a0, 3, ())
 else bif decide ((0 : Int) ≤ a1.2.1) then bif decide (a1.2.1 < ((a0.2.2.1.length : Nat) : Int)) then bif decide (a1.1 = 7) then bif decide ((0 : Int) ≤ a1.2.2.1) then bif decide (a1.2.2.1 < ((a0.2.2.2.2.1.length : Nat) : Int)) then bif decide ((0 : Int) ≤ a1.2.2.1) then bif decide (a1.2.2.1 < ((a0.2.2.2.2.2.1.length : Nat) : Int)) then some ((a0.1, a0.2.1, a0.2.2.1.set (Int.toNat a1.2.1) v2.1, a0.2.2.2.1, a0.2.2.2.2.1.set (Int.toNat a1.2.2.1) (a1.2.2.1, IntKind.i64.wrap ((a0.2.2.2.2.1.getD (Int.toNat a1.2.2.1) zCmd).2.1 + 1), a1.2.2.2.2.2), a0.2.2.2.2.2.1.set (Int.toNat a1.2.2.1) ((a0.2.2.2.2.2.2.2.length : Nat) : Int), a0.2.2.2.2.2.2), 0, ())
  else none
  else none
  else none
  else none
 else some ((a0.1, a0.2.1, a0.2.2.1.set (Int.toNat a1.2.1) v2.1, a0.2.2.2), 0, ())
 else none
 else none
 else none
 else none
def x_kh (K : Nat) (a0 : x_r) (a1 : x_i9) : Option (x_r × Int × Unit) :=
 bif decide ((0 : Int) ≤ a1.2.2.1) then bif decide (a1.2.2.1 < ((a0.2.2.2.2.1.length : Nat) : Int)) then bif decide (a1.1 = 7) then bif decide ((a0.2.2.2.2.1.getD (Int.toNat a1.2.2.1) zCmd).2.1 > 0) then (x_g0 K a0 a1.2.2.1 (a0.2.2.2.2.1.getD (Int.toNat a1.2.2.1) zCmd).2.1).bind fun v1 =>
   bif !v1.1 then some (a0, 3, ())
   else x_kh.j0 K a1 a0
  else x_kh.j0 K a1 a0
 else bif decide ((0 : Int) ≤ a1.2.1) then bif decide (a1.2.1 < ((a0.2.2.1.length : Nat) : Int)) then (x_m1 K a0.1 (a0.2.2.1.getD (Int.toNat a1.2.1) x_ci) a0.2.1 (a0.2.2.2.2.1.getD (Int.toNat a1.2.2.1) zCmd)).bind fun v3 =>
 bif !v3.2.1 then some (a0, 3, ())
 else bif decide ((a0.2.2.2.2.1.getD (Int.toNat a1.2.2.1) zCmd).2.1 = 0) then some (a0, 3, ())
 else bif decide ((0 : Int) ≤ a1.2.1) then bif decide (a1.2.1 < ((a0.2.2.1.length : Nat) : Int)) then bif decide (a1.1 = 7) then bif decide ((0 : Int) ≤ a1.2.2.1) then bif decide (a1.2.2.1 < ((a0.2.2.2.2.1.length : Nat) : Int)) then bif decide ((0 : Int) ≤ a1.2.2.1) then bif decide (a1.2.2.1 < ((a0.2.2.2.2.2.1.length : Nat) : Int)) then some ((a0.1, a0.2.1, a0.2.2.1.set (Int.toNat a1.2.1) v3.1, a0.2.2.2.1, a0.2.2.2.2.1.set (Int.toNat a1.2.2.1) (a0.2.2.2.2.1.getD (Int.toNat a1.2.2.1) zCmd), a0.2.2.2.2.2.1.set (Int.toNat a1.2.2.1) ((a0.2.2.2.2.2.2.2.length : Nat) : Int), a0.2.2.2.2.2.2), 0, ())
  else none
  else none
  else none
  else none
 else some ((a0.1, a0.2.1, a0.2.2.1.set (Int.toNat a1.2.1) v3.1, a0.2.2.2), 0, ())
 else none
 else none
 else none
 else none
 else none
 else none
def x_ss.l0b (K : Nat) (a0 : x_n) (a1 : x_bt) (a2 : Int) (L0 : (Int × Int × Unit) → Int → (x_e × Unit) → Int → (List Bool) → Option (x_bt × Bool × Unit)) (v7 : Int × Int × Unit) (q0 : Int) (q1 : x_e × Unit) (q2 : Int) (q3 : List Bool) : Option (x_bt × Bool × Unit) :=
 bif decide (q0 < a2) then bif !(decide (q0 = a1.1)) then (x_ek K (q1.1.1, q1.1.2.1, (q1.1.2.2.1.1, q1.1.2.2.1.2.1, q2, q3, q1.1.2.2.1.2.2.2.2), q1.1.2.2.2) (1, 0, q0, 0, v7.1, v7.2.1, 0, [], false, ByteArray.empty)).bind fun v8 =>
   L0 v7 (IntKind.i64.wrap (q0 + 1)) v8 v8.1.2.2.1.2.2.1 v8.1.2.2.1.2.2.2.1
  else L0 v7 (IntKind.i64.wrap (q0 + 1)) q1 q2 q3
 else bif !q1.1.2.2.2 then (x_w K a1).bind fun v9 =>
  some (v9.1, false, ())
 else (x_6o a2).bind fun v10 =>
 bif decide (v10.1 = 1) then (x_pf K (q1.1.1, q1.1.2.1, (q1.1.2.2.1.1, q1.1.2.2.1.2.1, q2, q3, q1.1.2.2.1.2.2.2.2), q1.1.2.2.2)).bind fun v11 =>
  some (v11.1.2.2.1, true, ())
 else some ((q1.1.2.2.1.1, q1.1.2.2.1.2.1, q2, q3, q1.1.2.2.1.2.2.2.2), true, ())
def x_ss.l0 (K : Nat) (a0 : x_n) (a1 : x_bt) (a2 : Int) : Nat → (Int × Int × Unit) → Int → (x_e × Unit) → Int → (List Bool) → Option (x_bt × Bool × Unit)
 | 0, _, _, _, _, _ => none
 | n + 1, v7, q0, q1, q2, q3 => x_ss.l0b K a0 a1 a2 (x_ss.l0 K a0 a1 a2 n) v7 q0 q1 q2 q3
def x_ss.b (K : Nat) (a0 : x_n) (a1 : x_bt) (a2 : Int) (L0 : (Int × Int × Unit) → Int → (x_e × Unit) → Int → (List Bool) → Option (x_bt × Bool × Unit)) : Option (x_bt × Bool × Unit) :=
 (x_3 K a0 a1 a2).bind fun v1 =>
 bif !v1.1 then (x_w K a1).bind fun v2 =>
  some (v2.1, false, ())
 else bif decide (a1.2.2.1 = 2) then (x_w K a1).bind fun v3 =>
  some (v3.1, false, ())
 else bif decide (a1.2.1.1 = 300) then (x_w K a1).bind fun v4 =>
  some (v4.1, false, ())
 else (x_w K a1).bind fun v5 =>
 (x_fh K (a0, a2, v5.1, true) (1, IntKind.i64.wrap (a1.2.1.1 + 1), a1.1, 0, [], ByteArray.empty)).bind fun v6 =>
 bif decide (a2 = a2) then bif decide ((0 : Int) ≤ a2) then bif decide ((Int.toNat a2) * 2 ≤ x_g) then bif decide ((0 : Int) ≤ a1.1) then bif decide (a1.1 < (((List.replicate (Int.toNat a2) false).length : Nat) : Int)) then (x_cs a1.2.1.2.2.1).bind fun v7 =>
 L0 v7 0 v6 1 ((List.replicate (Int.toNat a2) false).set (Int.toNat a1.1) true)
 else none
 else none
 else none
 else none
 else none
def x_ss (K : Nat) (a0 : x_n) (a1 : x_bt) (a2 : Int) : Option (x_bt × Bool × Unit) := x_ss.b K a0 a1 a2 (x_ss.l0 K a0 a1 a2 K)
def x_v8 (a0 : x_r) (a1 : x_bt) (a2 : Bool) : Option (x_r × Int × Unit) :=
 bif !a2 then some (a0, 3, ())
 else bif decide ((0 : Int) ≤ a1.1) then bif decide (a1.1 < ((a0.2.2.1.length : Nat) : Int)) then some ((a0.1, a0.2.1, a0.2.2.1.set (Int.toNat a1.1) a1, a0.2.2.2), 0, ())
 else none
 else none
def x_b.l0b (K : Nat) (a0 : x_ao) (L1 : (List Int) → Int → Int → Option ((List Int) × Unit)) (L2 : (List Int) → Int → Option ((List Int) × Unit)) (q2 : List Int) (q3 : Int) : Option ((List Int) × Unit) :=
 bif decide (q3 < ((a0.1.length : Nat) : Int)) then bif decide ((0 : Int) ≤ q3) then bif decide (q3 < ((a0.1.length : Nat) : Int)) then (x_be K [(a0.1.getD (Int.toNat q3) zRow).1, (a0.1.getD (Int.toNat q3) zRow).2.1, (((a0.1.getD (Int.toNat q3) zRow).2.2.length : Nat) : Int)]).bind fun v2 =>
  bif decide ((q2.length + v2.1.length) * 2 ≤ x_g) then L1 (q2 ++ v2.1) q3 0
  else none
  else none
  else none
 else (x_az K ((a0.2.1.length : Nat) : Int)).bind fun v7 =>
 bif decide ((q2.length + v7.1.length) * 2 ≤ x_g) then L2 (q2 ++ v7.1) 0
 else none
def x_b.l1b (K : Nat) (a0 : x_ao) (L0 : (List Int) → Int → Option ((List Int) × Unit)) (L1 : (List Int) → Int → Int → Option ((List Int) × Unit)) (q4 : List Int) (q3 : Int) (q5 : Int) : Option ((List Int) × Unit) :=
 bif decide (q5 < (((a0.1.getD (Int.toNat q3) zRow).2.2.length : Nat) : Int)) then bif decide ((0 : Int) ≤ q5) then bif decide (q5 < (((a0.1.getD (Int.toNat q3) zRow).2.2.length : Nat) : Int)) then (x_az K ((a0.1.getD (Int.toNat q3) zRow).2.2.getD (Int.toNat q5) x_cm).1).bind fun v3 =>
  bif decide ((q4.length + v3.1.length) * 2 ≤ x_g) then (x_fl K ((a0.1.getD (Int.toNat q3) zRow).2.2.getD (Int.toNat q5) x_cm).2.1).bind fun v4 =>
  bif decide (((q4 ++ v3.1).length + v4.1.length) * 2 ≤ x_g) then (x_fl K ((a0.1.getD (Int.toNat q3) zRow).2.2.getD (Int.toNat q5) x_cm).2.2.1).bind fun v5 =>
  bif decide ((((q4 ++ v3.1) ++ v4.1).length + v5.1.length) * 2 ≤ x_g) then (x_be K [((a0.1.getD (Int.toNat q3) zRow).2.2.getD (Int.toNat q5) x_cm).2.2.2.1, ((a0.1.getD (Int.toNat q3) zRow).2.2.getD (Int.toNat q5) x_cm).2.2.2.2]).bind fun v6 =>
  bif decide (((((q4 ++ v3.1) ++ v4.1) ++ v5.1).length + v6.1.length) * 2 ≤ x_g) then L1 ((((q4 ++ v3.1) ++ v4.1) ++ v5.1) ++ v6.1) q3 (IntKind.i64.wrap (q5 + 1))
  else none
  else none
  else none
  else none
  else none
  else none
 else L0 q4 (IntKind.i64.wrap (q3 + 1))
def x_b.l2b (K : Nat) (a0 : x_ao) (L3 : (List Int) → Int → Int → Option ((List Int) × Unit)) (L4 : (List Int) → Int → Option ((List Int) × Unit)) (q8 : List Int) (q9 : Int) : Option ((List Int) × Unit) :=
 bif decide (q9 < ((a0.2.1.length : Nat) : Int)) then bif decide ((0 : Int) ≤ q9) then bif decide (q9 < ((a0.2.1.length : Nat) : Int)) then (x_be K [(a0.2.1.getD (Int.toNat q9) x_b5).1, (a0.2.1.getD (Int.toNat q9) x_b5).2.1, (a0.2.1.getD (Int.toNat q9) x_b5).2.2.1, IntKind.i64.wrap ((a0.2.1.getD (Int.toNat q9) x_b5).2.2.2.1 + 1), (((a0.2.1.getD (Int.toNat q9) x_b5).2.2.2.2.length : Nat) : Int)]).bind fun v8 =>
  bif decide ((q8.length + v8.1.length) * 2 ≤ x_g) then L3 (q8 ++ v8.1) q9 0
  else none
  else none
  else none
 else (x_az K ((a0.2.2.1.length : Nat) : Int)).bind fun v10 =>
 bif decide ((q8.length + v10.1.length) * 2 ≤ x_g) then L4 (q8 ++ v10.1) 0
 else none
def x_b.l3b (K : Nat) (a0 : x_ao) (L2 : (List Int) → Int → Option ((List Int) × Unit)) (L3 : (List Int) → Int → Int → Option ((List Int) × Unit)) (q10 : List Int) (q9 : Int) (q11 : Int) : Option ((List Int) × Unit) :=
 bif decide (q11 < (((a0.2.1.getD (Int.toNat q9) x_b5).2.2.2.2.length : Nat) : Int)) then bif decide ((0 : Int) ≤ q11) then bif decide (q11 < (((a0.2.1.getD (Int.toNat q9) x_b5).2.2.2.2.length : Nat) : Int)) then bif decide ((0 : Int) ≤ q11) then bif decide (q11 < (((a0.2.1.getD (Int.toNat q9) x_b5).2.2.2.2.length : Nat) : Int)) then (x_be K [((a0.2.1.getD (Int.toNat q9) x_b5).2.2.2.2.getD (Int.toNat q11) x_wg).1, ((a0.2.1.getD (Int.toNat q9) x_b5).2.2.2.2.getD (Int.toNat q11) x_wg).2]).bind fun v9 =>
  bif decide ((q10.length + v9.1.length) * 2 ≤ x_g) then L3 (q10 ++ v9.1) q9 (IntKind.i64.wrap (q11 + 1))
  else none
  else none
  else none
  else none
  else none
 else L2 q10 (IntKind.i64.wrap (q9 + 1))
def x_b.l4b (K : Nat) (a0 : x_ao) (L5 : (List Int) → Int → Int → Option ((List Int) × Unit)) (L6 : (List Int) → Int → Option ((List Int) × Unit)) (q14 : List Int) (q15 : Int) : Option ((List Int) × Unit) :=
 bif decide (q15 < ((a0.2.2.1.length : Nat) : Int)) then bif decide ((0 : Int) ≤ q15) then bif decide (q15 < ((a0.2.2.1.length : Nat) : Int)) then (x_be K [(a0.2.2.1.getD (Int.toNat q15) x_d9).1, (((a0.2.2.1.getD (Int.toNat q15) x_d9).2.1.length : Nat) : Int)]).bind fun v11 =>
  bif decide ((q14.length + v11.1.length) * 2 ≤ x_g) then L5 (q14 ++ v11.1) q15 0
  else none
  else none
  else none
 else (x_az K a0.2.2.2.1).bind fun v14 =>
 bif decide ((q14.length + v14.1.length) * 2 ≤ x_g) then L6 (q14 ++ v14.1) 0
 else none
def x_b.l5b (K : Nat) (a0 : x_ao) (L4 : (List Int) → Int → Option ((List Int) × Unit)) (L5 : (List Int) → Int → Int → Option ((List Int) × Unit)) (q16 : List Int) (q15 : Int) (q17 : Int) : Option ((List Int) × Unit) :=
 bif decide (q17 < (((a0.2.2.1.getD (Int.toNat q15) x_d9).2.1.length : Nat) : Int)) then bif decide ((0 : Int) ≤ q17) then bif decide (q17 < (((a0.2.2.1.getD (Int.toNat q15) x_d9).2.1.length : Nat) : Int)) then bif decide ((0 : Int) ≤ q17) then bif decide (q17 < (((a0.2.2.1.getD (Int.toNat q15) x_d9).2.2.1.length : Nat) : Int)) then (x_be K [(a0.2.2.1.getD (Int.toNat q15) x_d9).2.1.getD (Int.toNat q17) 0, (a0.2.2.1.getD (Int.toNat q15) x_d9).2.2.1.getD (Int.toNat q17) 0]).bind fun v12 =>
  bif decide ((q16.length + v12.1.length) * 2 ≤ x_g) then L5 (q16 ++ v12.1) q15 (IntKind.i64.wrap (q17 + 1))
  else none
  else none
  else none
  else none
  else none
 else (x_be K (a0.2.2.1.getD (Int.toNat q15) x_d9).2.2.2).bind fun v13 =>
 bif decide ((q16.length + v13.1.length) * 2 ≤ x_g) then L4 (q16 ++ v13.1) (IntKind.i64.wrap (q15 + 1))
 else none
def x_b.l6b (K : Nat) (a0 : x_ao) (L6 : (List Int) → Int → Option ((List Int) × Unit)) (q18 : List Int) (q19 : Int) : Option ((List Int) × Unit) :=
 bif decide (q19 < ((a0.2.2.2.2.1.length : Nat) : Int)) then bif decide ((0 : Int) ≤ q19) then bif decide (q19 < ((a0.2.2.2.2.2.length : Nat) : Int)) then bif decide ((0 : Int) ≤ q19) then bif decide (q19 < ((a0.2.2.2.2.1.length : Nat) : Int)) then (x_be K [a0.2.2.2.2.1.getD (Int.toNat q19) 0, (a0.2.2.2.2.2.getD (Int.toNat q19) x_e6).1, IntKind.i64.wrap ((a0.2.2.2.2.2.getD (Int.toNat q19) x_e6).2.1 + 1)]).bind fun v15 =>
  bif decide ((q18.length + v15.1.length) * 2 ≤ x_g) then (x_fl K (a0.2.2.2.2.2.getD (Int.toNat q19) x_e6).2.2.1).bind fun v16 =>
  bif decide (((q18 ++ v15.1).length + v16.1.length) * 2 ≤ x_g) then (x_fl K (a0.2.2.2.2.2.getD (Int.toNat q19) x_e6).2.2.2).bind fun v17 =>
  bif decide ((((q18 ++ v15.1) ++ v16.1).length + v17.1.length) * 2 ≤ x_g) then L6 (((q18 ++ v15.1) ++ v16.1) ++ v17.1) (IntKind.i64.wrap (q19 + 1))
  else none
  else none
  else none
  else none
  else none
  else none
  else none
 else some (q18, ())
def x_b.l1 (K : Nat) (a0 : x_ao) (L0 : (List Int) → Int → Option ((List Int) × Unit)) : Nat → (List Int) → Int → Int → Option ((List Int) × Unit)
 | 0, _, _, _ => none
 | n + 1, q4, q3, q5 => x_b.l1b K a0 L0 (x_b.l1 K a0 L0 n) q4 q3 q5
def x_b.l3 (K : Nat) (a0 : x_ao) (L2 : (List Int) → Int → Option ((List Int) × Unit)) : Nat → (List Int) → Int → Int → Option ((List Int) × Unit)
 | 0, _, _, _ => none
 | n + 1, q10, q9, q11 => x_b.l3b K a0 L2 (x_b.l3 K a0 L2 n) q10 q9 q11
def x_b.l5 (K : Nat) (a0 : x_ao) (L4 : (List Int) → Int → Option ((List Int) × Unit)) : Nat → (List Int) → Int → Int → Option ((List Int) × Unit)
 | 0, _, _, _ => none
 | n + 1, q16, q15, q17 => x_b.l5b K a0 L4 (x_b.l5 K a0 L4 n) q16 q15 q17
def x_b.l6 (K : Nat) (a0 : x_ao) : Nat → (List Int) → Int → Option ((List Int) × Unit)
 | 0, _, _ => none
 | n + 1, q18, q19 => x_b.l6b K a0 (x_b.l6 K a0 n) q18 q19
def x_b.l4 (K : Nat) (a0 : x_ao) : Nat → (List Int) → Int → Option ((List Int) × Unit)
 | 0, _, _ => none
 | n + 1, q14, q15 => x_b.l4b K a0 (x_b.l5 K a0 (x_b.l4 K a0 n) K) (x_b.l6 K a0 K) q14 q15
def x_b.l2 (K : Nat) (a0 : x_ao) : Nat → (List Int) → Int → Option ((List Int) × Unit)
 | 0, _, _ => none
 | n + 1, q8, q9 => x_b.l2b K a0 (x_b.l3 K a0 (x_b.l2 K a0 n) K) (x_b.l4 K a0 K) q8 q9
def x_b.l0 (K : Nat) (a0 : x_ao) : Nat → (List Int) → Int → Option ((List Int) × Unit)
 | 0, _, _ => none
 | n + 1, q2, q3 => x_b.l0b K a0 (x_b.l1 K a0 (x_b.l0 K a0 n) K) (x_b.l2 K a0 K) q2 q3
def x_b.b (K : Nat) (a0 : x_ao) (L0 : (List Int) → Int → Option ((List Int) × Unit)) : Option ((List Int) × Unit) :=
 (x_az K ((a0.1.length : Nat) : Int)).bind fun v1 =>
 L0 v1.1 0
def x_b (K : Nat) (a0 : x_ao) : Option ((List Int) × Unit) := x_b.b K a0 (x_b.l0 K a0 K)
def s_From (a0 : TLog) (a1 : Int) : Option ((List x_au) × Unit) :=
 (x_9y a0 a1).bind fun v1 =>
 bif decide (v1.1 < 0) then some ([], ())
 else bif decide (((a0.2.2.length : Nat) : Int) = ((a0.2.2.length : Nat) : Int)) then bif decide ((0 : Int) ≤ v1.1) then bif decide (v1.1 ≤ ((a0.2.2.length : Nat) : Int)) then bif decide (((a0.2.2.length : Nat) : Int) ≤ ((a0.2.2.length : Nat) : Int)) then bif decide ((([] : List x_au).length + ((a0.2.2.take (Int.toNat ((a0.2.2.length : Nat) : Int))).drop (Int.toNat v1.1)).length) * 89 ≤ x_g) then some ([] ++ ((a0.2.2.take (Int.toNat ((a0.2.2.length : Nat) : Int))).drop (Int.toNat v1.1)), ())
 else none
 else none
 else none
 else none
 else none
def s_Feed (K : Nat) (a0 : x_n) (a1 : x_bt) (a2 : Int) (a3 : Int) : Option (x_bt × Bool × Unit) :=
 (x_3 K a0 a1 a2).bind fun v1 =>
 bif !v1.1 then (x_w K a1).bind fun v3 =>
  some (v3.1, false, ())
 else bif !(decide (a1.2.2.1 = 2)) then (x_w K a1).bind fun v4 =>
  some (v4.1, false, ())
 else bif decide (a3 = a1.1) then (x_w K a1).bind fun v5 =>
  some (v5.1, false, ())
 else (x_a4 a3 0 (IntKind.i64.wrap (a2 - 1))).bind fun v2 =>
 bif !v2.1 then (x_w K a1).bind fun v6 =>
  some (v6.1, false, ())
 else (x_w K a1).bind fun v7 =>
 bif decide ((0 : Int) ≤ a3) then bif decide (a3 < ((a1.2.2.2.2.1.length : Nat) : Int)) then bif decide ((a1.2.2.2.2.1.getD (Int.toNat a3) 0) ≤ a1.2.1.2.2.1.1) then (x_b K a1.2.1.2.2.2).bind fun v8 =>
  (x_ek K (a0, a2, v7.1, true) (5, 0, a3, 0, a1.2.1.2.2.1.1, a1.2.1.2.2.1.2.1, 0, [], false, x_wv v8.1)).bind fun v9 =>
  bif !v9.1.2.2.2 then (x_w K a1).bind fun v15 =>
   some (v15.1, false, ())
  else some (v9.1.2.2.1, true, ())
 else (s_From a1.2.1.2.2.1 (a1.2.2.2.2.1.getD (Int.toNat a3) 0)).bind fun v10 =>
 bif decide (((v10.1.length : Nat) : Int) > 40) then bif decide ((40 : Int) ≤ ((v10.1.length : Nat) : Int)) then (x_ho a1.2.1.2.2.1 (IntKind.i64.wrap ((a1.2.2.2.2.1.getD (Int.toNat a3) 0) - 1))).bind fun v11 =>
  (x_ek K (a0, a2, v7.1, true) (3, 0, a3, 0, IntKind.i64.wrap ((a1.2.2.2.2.1.getD (Int.toNat a3) 0) - 1), v11.1, a1.2.2.2.2.2.2.1, (v10.1.take 40).drop 0, false, ByteArray.empty)).bind fun v12 =>
  bif !v12.1.2.2.2 then (x_w K a1).bind fun v16 =>
   some (v16.1, false, ())
  else some (v12.1.2.2.1, true, ())
  else none
 else (x_ho a1.2.1.2.2.1 (IntKind.i64.wrap ((a1.2.2.2.2.1.getD (Int.toNat a3) 0) - 1))).bind fun v13 =>
 (x_ek K (a0, a2, v7.1, true) (3, 0, a3, 0, IntKind.i64.wrap ((a1.2.2.2.2.1.getD (Int.toNat a3) 0) - 1), v13.1, a1.2.2.2.2.2.2.1, v10.1, false, ByteArray.empty)).bind fun v14 =>
 bif !v14.1.2.2.2 then (x_w K a1).bind fun v17 =>
  some (v17.1, false, ())
 else some (v14.1.2.2.1, true, ())
 else none
 else none
def s_Sync (a0 : x_1h) : Option (x_1h × Unit) :=
 (x_ks a0).bind fun v1 =>
 (x_oe a0).bind fun v2 =>
 bif v2.1 then some ((v1.1.1, ((a0.1.length : Nat) : Int)), ())
 else some (v1.1, ())
def x_su (K : Nat) (a0 : x_n) (a1 : x_bt) (a2 : Int) : Option (x_bt × (List TRpc) × Unit) :=
 (x_w K a1).bind fun v1 =>
 (x_3 K a0 a1 a2).bind fun v2 =>
 bif !v2.1 then some (v1.1, [], ())
 else (s_Sync a1.2.2.2.2.2.2.2.2.1).bind fun v3 =>
 bif decide (a1.2.2.1 = 2) then (x_cs a1.2.1.2.2.1).bind fun v4 =>
  bif decide ((0 : Int) ≤ a1.1) then bif decide (a1.1 < ((v1.1.2.2.2.2.2.1.length : Nat) : Int)) then (x_u K (a0, a2, (v1.1.1, v1.1.2.1, v1.1.2.2.1, v1.1.2.2.2.1, v1.1.2.2.2.2.1, v1.1.2.2.2.2.2.1.set (Int.toNat a1.1) v4.1, v1.1.2.2.2.2.2.2.1, v1.1.2.2.2.2.2.2.2.1, v3.1, []), true)).bind fun v5 =>
  some (v5.1.2.2.1, v1.1.2.2.2.2.2.2.2.2.2, ())
  else none
  else none
 else some ((v1.1.1, v1.1.2.1, v1.1.2.2.1, v1.1.2.2.2.1, v1.1.2.2.2.2.1, v1.1.2.2.2.2.2.1, v1.1.2.2.2.2.2.2.1, v1.1.2.2.2.2.2.2.2.1, v3.1, []), v1.1.2.2.2.2.2.2.2.2.2, ())
def x_s4 (K : Nat) (a0 : x_r) (a1 : Int) : Option (x_r × Int × Unit) :=
 bif decide ((0 : Int) ≤ a1) then bif decide (a1 < ((a0.2.2.1.length : Nat) : Int)) then (x_su K a0.1 (a0.2.2.1.getD (Int.toNat a1) x_ci) a0.2.1).bind fun v1 =>
 bif decide (((v1.2.1.length : Nat) : Int) > (IntKind.i64.wrap (40 - ((a0.2.2.2.1.length : Nat) : Int)))) then some (a0, 4, ())
 else bif decide ((0 : Int) ≤ a1) then bif decide (a1 < ((a0.2.2.1.length : Nat) : Int)) then bif decide ((a0.2.2.2.1.length + v1.2.1.length) * 105 ≤ x_g) then some ((a0.1, a0.2.1, a0.2.2.1.set (Int.toNat a1) v1.1, a0.2.2.2.1 ++ v1.2.1, a0.2.2.2.2), 0, ())
 else none
 else none
 else none
 else none
 else none
def s_Fall (a0 : x_1h) (a1 : Int) : Option (x_1h × Unit) :=
 (x_oe a0).bind fun v1 =>
 bif !v1.1 then (x_ks a0).bind fun v2 =>
  some (v2.1, ())
 else (x_jx a1 (IntKind.i64.wrap (((a0.1.length : Nat) : Int) - a0.2))).bind fun v3 =>
 (x_hl 0 v3.1).bind fun v4 =>
 bif decide ((IntKind.i64.wrap (a0.2 + v4.1)) = (IntKind.i64.wrap (a0.2 + v4.1))) then bif decide ((0 : Int) ≤ (IntKind.i64.wrap (a0.2 + v4.1))) then bif decide ((IntKind.i64.wrap (a0.2 + v4.1)) ≤ ((a0.1.length : Nat) : Int)) then bif decide ((([] : List Int).length + ((a0.1.take (Int.toNat (IntKind.i64.wrap (a0.2 + v4.1)))).drop 0).length) * 2 ≤ x_g) then some (([] ++ ((a0.1.take (Int.toNat (IntKind.i64.wrap (a0.2 + v4.1)))).drop 0), IntKind.i64.wrap (a0.2 + v4.1)), ())
 else none
 else none
 else none
 else none
def x_7s (K : Nat) (a0 : x_d) : Option (TCmd × x_d × Unit) :=
 (x_bs K a0).bind fun v1 =>
 (x_bs K v1.2.1).bind fun v2 =>
 (x_bs K v2.2.1).bind fun v3 =>
 (x_bs K v3.2.1).bind fun v4 =>
 (x_bs K v4.2.1).bind fun v5 =>
 (x_bs K v5.2.1).bind fun v6 =>
 (x_g5 K v6.2.1).bind fun v7 =>
 (x_g5 K v7.2.1).bind fun v8 =>
 some ((IntKind.i64.wrap (v1.1 - 1), v2.1, v3.1, v4.1, v5.1, v6.1, v7.1, v8.1), v8.2.1, ())
def x_b9.l0b (K : Nat) (a0 : x_d) (L0 : (Int × x_d × Unit) → Int → (x_d × Unit) → (Int × x_d × Unit) → (Int × x_d × Unit) → (Int × x_d × Unit) → (Int × x_d × Unit) → (List x_au) → Option (x_gs × x_d × Unit)) (v5 : Int × x_d × Unit) (q0 : Int) (q1 : x_d × Unit) (v1 : Int × x_d × Unit) (v2 : Int × x_d × Unit) (v3 : Int × x_d × Unit) (v4 : Int × x_d × Unit) (q2 : List x_au) : Option (x_gs × x_d × Unit) :=
 bif decide (q0 < v5.1) then bif q1.1.2.2 then (x_bs K q1.1).bind fun v6 =>
   (x_7s K v6.2.1).bind fun v7 =>
   bif decide ((q2.length + [(v6.1, v7.1)].length) * 89 ≤ x_g) then L0 v5 (IntKind.i64.wrap (q0 + 1)) v7.2 v1 v2 v3 v4 (q2 ++ [(v6.1, v7.1)])
   else none
  else (x_g5 K q1.1).bind fun v8 =>
  some ((v1.1, v2.1, IntKind.i64.wrap (v3.1 - 1), v4.1, q2, v8.1), v8.2.1, ())
 else (x_g5 K q1.1).bind fun v9 =>
 some ((v1.1, v2.1, IntKind.i64.wrap (v3.1 - 1), v4.1, q2, v9.1), v9.2.1, ())
def x_b9.l0 (K : Nat) (a0 : x_d) : Nat → (Int × x_d × Unit) → Int → (x_d × Unit) → (Int × x_d × Unit) → (Int × x_d × Unit) → (Int × x_d × Unit) → (Int × x_d × Unit) → (List x_au) → Option (x_gs × x_d × Unit)
 | 0, _, _, _, _, _, _, _, _ => none
 | n + 1, v5, q0, q1, v1, v2, v3, v4, q2 => x_b9.l0b K a0 (x_b9.l0 K a0 n) v5 q0 q1 v1 v2 v3 v4 q2
def x_b9.b (K : Nat) (a0 : x_d) (L0 : (Int × x_d × Unit) → Int → (x_d × Unit) → (Int × x_d × Unit) → (Int × x_d × Unit) → (Int × x_d × Unit) → (Int × x_d × Unit) → (List x_au) → Option (x_gs × x_d × Unit)) : Option (x_gs × x_d × Unit) :=
 (x_bs K a0).bind fun v1 =>
 (x_bs K v1.2.1).bind fun v2 =>
 (x_bs K v2.2.1).bind fun v3 =>
 (x_bs K v3.2.1).bind fun v4 =>
 (x_bs K v4.2.1).bind fun v5 =>
 L0 v5 0 v5.2 v1 v2 v3 v4 []
def x_b9 (K : Nat) (a0 : x_d) : Option (x_gs × x_d × Unit) := x_b9.b K a0 (x_b9.l0 K a0 K)
def x_yz (K : Nat) (a0 : List Int) (a1 : Int) : Option (x_gs × Int × Bool × Unit) :=
 (x_b3 K a0 a1).bind fun v1 =>
 bif !v1.2.2.1 then some ((0, 0, 0, 0, [], ByteArray.empty), 0, false, ())
 else bif decide (v1.1 > (IntKind.i64.wrap ((IntKind.i64.wrap (((a0.length : Nat) : Int) - v1.2.1)) - 4))) then some ((0, 0, 0, 0, [], ByteArray.empty), 0, false, ())
 else bif decide ((IntKind.i64.wrap (v1.2.1 + v1.1)) = (IntKind.i64.wrap (v1.2.1 + v1.1))) then bif decide ((0 : Int) ≤ v1.2.1) then bif decide (v1.2.1 ≤ (IntKind.i64.wrap (v1.2.1 + v1.1))) then bif decide ((IntKind.i64.wrap (v1.2.1 + v1.1)) ≤ ((a0.length : Nat) : Int)) then (x_2d K ((a0.take (Int.toNat (IntKind.i64.wrap (v1.2.1 + v1.1)))).drop (Int.toNat v1.2.1))).bind fun v2 =>
 bif decide ((IntKind.i64.wrap ((IntKind.i64.wrap (v1.2.1 + v1.1)) + 4)) = (IntKind.i64.wrap ((IntKind.i64.wrap (v1.2.1 + v1.1)) + 4))) then bif decide ((0 : Int) ≤ (IntKind.i64.wrap (v1.2.1 + v1.1))) then bif decide ((IntKind.i64.wrap (v1.2.1 + v1.1)) ≤ (IntKind.i64.wrap ((IntKind.i64.wrap (v1.2.1 + v1.1)) + 4))) then bif decide ((IntKind.i64.wrap ((IntKind.i64.wrap (v1.2.1 + v1.1)) + 4)) ≤ ((a0.length : Nat) : Int)) then bif !(decide ((x_wv v2.1).data.toList = (x_wv ((a0.take (Int.toNat (IntKind.i64.wrap ((IntKind.i64.wrap (v1.2.1 + v1.1)) + 4)))).drop (Int.toNat (IntKind.i64.wrap (v1.2.1 + v1.1))))).data.toList)) then some ((0, 0, 0, 0, [], ByteArray.empty), 0, false, ())
 else (x_b9 K ((a0.take (Int.toNat (IntKind.i64.wrap (v1.2.1 + v1.1)))).drop (Int.toNat v1.2.1), 0, true)).bind fun v3 =>
 bif !v3.2.1.2.2 then some ((0, 0, 0, 0, [], ByteArray.empty), 0, false, ())
 else bif !(decide (v3.2.1.2.1 = ((((a0.take (Int.toNat (IntKind.i64.wrap (v1.2.1 + v1.1)))).drop (Int.toNat v1.2.1)).length : Nat) : Int))) then some ((0, 0, 0, 0, [], ByteArray.empty), 0, false, ())
 else (x_ov K v3.1).bind fun v4 =>
 bif !v4.1 then some ((0, 0, 0, 0, [], ByteArray.empty), 0, false, ())
 else some (v3.1, IntKind.i64.wrap ((IntKind.i64.wrap (v1.2.1 + v1.1)) + 4), true, ())
 else none
 else none
 else none
 else none
 else none
 else none
 else none
 else none
def x_c9.l0b (K : Nat) (a0 : List Int) (L0 : (List x_gs) → Int → Option ((List x_gs) × Int × Unit)) (q0 : List x_gs) (q1 : Int) : Option ((List x_gs) × Int × Unit) :=
 bif decide (q1 < ((a0.length : Nat) : Int)) then (x_yz K a0 q1).bind fun v1 =>
  bif !v1.2.2.1 then some (q0, q1, ())
  else bif decide ((q0.length + [v1.1].length) * 73 ≤ x_g) then L0 (q0 ++ [v1.1]) v1.2.1
  else none
 else some (q0, q1, ())
def x_c9.l0 (K : Nat) (a0 : List Int) : Nat → (List x_gs) → Int → Option ((List x_gs) × Int × Unit)
 | 0, _, _ => none
 | n + 1, q0, q1 => x_c9.l0b K a0 (x_c9.l0 K a0 n) q0 q1
def x_c9.b (K : Nat) (a0 : List Int) (L0 : (List x_gs) → Int → Option ((List x_gs) × Int × Unit)) : Option ((List x_gs) × Int × Unit) :=
 L0 [] 0
def x_c9 (K : Nat) (a0 : List Int) : Option ((List x_gs) × Int × Unit) := x_c9.b K a0 (x_c9.l0 K a0 K)
def x_ce.l0b (K : Nat) (a0 : x_n) (a1 : List Int) (L0 : ((List x_gs) × Int × Unit) → Int → (x_ff × Unit) → Option (x_ff × Unit)) (v2 : (List x_gs) × Int × Unit) (q0 : Int) (q1 : x_ff × Unit) : Option (x_ff × Unit) :=
 bif decide (q0 < ((v2.1.length : Nat) : Int)) then bif decide ((0 : Int) ≤ q0) then bif decide (q0 < ((v2.1.length : Nat) : Int)) then (x_iw K a0 q1.1 (v2.1.getD (Int.toNat q0) zNote)).bind fun v3 =>
  L0 v2 (IntKind.i64.wrap (q0 + 1)) v3
  else none
  else none
 else some (q1.1, ())
def x_ce.l0 (K : Nat) (a0 : x_n) (a1 : List Int) : Nat → ((List x_gs) × Int × Unit) → Int → (x_ff × Unit) → Option (x_ff × Unit)
 | 0, _, _, _ => none
 | n + 1, v2, q0, q1 => x_ce.l0b K a0 a1 (x_ce.l0 K a0 a1 n) v2 q0 q1
def x_ce.b (K : Nat) (a0 : x_n) (a1 : List Int) (L0 : ((List x_gs) × Int × Unit) → Int → (x_ff × Unit) → Option (x_ff × Unit)) : Option (x_ff × Unit) :=
 (x_mx K a0).bind fun v1 =>
 (x_c9 K a1).bind fun v2 =>
 L0 v2 0 v1
def x_ce (K : Nat) (a0 : x_n) (a1 : List Int) : Option (x_ff × Unit) := x_ce.b K a0 a1 (x_ce.l0 K a0 a1 K)
def s_Rise (K : Nat) (a0 : x_n) (a1 : x_bt) (a2 : Int) : Option (x_bt × Unit) :=
 (x_3 K a0 a1 a2).bind fun v1 =>
 bif !v1.1 then (x_w K a1).bind fun v2 =>
  some (v2.1, ())
 else (x_c9 K a1.2.2.2.2.2.2.2.2.1.1).bind fun v3 =>
 (x_ce K a0 a1.2.2.2.2.2.2.2.2.1.1).bind fun v4 =>
 bif decide (a2 = a2) then bif decide ((0 : Int) ≤ a2) then bif decide ((Int.toNat a2) * 2 ≤ x_g) then (x_bh K a2 1).bind fun v5 =>
 bif decide (a2 = a2) then bif decide ((0 : Int) ≤ a2) then bif decide ((Int.toNat a2) * 9 ≤ x_g) then (x_x K v4.1.2.2.2).bind fun v6 =>
 bif decide (v3.2.1 = v3.2.1) then bif decide ((0 : Int) ≤ v3.2.1) then bif decide (v3.2.1 ≤ ((a1.2.2.2.2.2.2.2.2.1.1.length : Nat) : Int)) then bif decide ((([] : List Int).length + ((a1.2.2.2.2.2.2.2.2.1.1.take (Int.toNat v3.2.1)).drop 0).length) * 2 ≤ x_g) then (x_3 K a0 (a1.1, v4.1, 0, List.replicate (Int.toNat a2) false, v5.1, List.replicate (Int.toNat a2) 0, v4.1.2.2.1.1, v6.1, ([] ++ ((a1.2.2.2.2.2.2.2.2.1.1.take (Int.toNat v3.2.1)).drop 0), v3.2.1), []) a2).bind fun v7 =>
 bif !v7.1 then (x_w K a1).bind fun v8 =>
  some (v8.1, ())
 else some ((a1.1, v4.1, 0, List.replicate (Int.toNat a2) false, v5.1, List.replicate (Int.toNat a2) 0, v4.1.2.2.1.1, v6.1, ([] ++ ((a1.2.2.2.2.2.2.2.2.1.1.take (Int.toNat v3.2.1)).drop 0), v3.2.1), []), ())
 else none
 else none
 else none
 else none
 else none
 else none
 else none
 else none
 else none
 else none
def x_an.j0 (K : Nat) (L0 : (List Int) → Int → Int → Option ((List Int) × Unit)) (p4 : List Int) (a0 : x_ff) : Option ((List Int) × Unit) :=
 L0 p4 a0.2.2.1.2.1 0
def x_an.l0b (K : Nat) (a0 : x_ff) (L0 : (List Int) → Int → Int → Option ((List Int) × Unit)) (q3 : List Int) (q4 : Int) (q5 : Int) : Option ((List Int) × Unit) :=
 bif decide (q5 < ((a0.2.2.1.2.2.length : Nat) : Int)) then (x_jx (IntKind.i64.wrap (q5 + 40)) ((a0.2.2.1.2.2.length : Nat) : Int)).bind fun v5 =>
  bif decide (v5.1 = v5.1) then bif decide ((0 : Int) ≤ q5) then bif decide (q5 ≤ v5.1) then bif decide (v5.1 ≤ ((a0.2.2.1.2.2.length : Nat) : Int)) then (x_e3 K (2, q4, 0, IntKind.i64.wrap (a0.2.2.1.1 + q5), (a0.2.2.1.2.2.take (Int.toNat v5.1)).drop (Int.toNat q5), ByteArray.empty)).bind fun v6 =>
  bif decide ((q3.length + v6.1.length) * 2 ≤ x_g) then bif decide ((0 : Int) ≤ (IntKind.i64.wrap (v5.1 - 1))) then bif decide ((IntKind.i64.wrap (v5.1 - 1)) < ((a0.2.2.1.2.2.length : Nat) : Int)) then L0 (q3 ++ v6.1) (a0.2.2.1.2.2.getD (Int.toNat (IntKind.i64.wrap (v5.1 - 1))) x_ck).1 (IntKind.i64.wrap (q5 + 40))
  else none
  else none
  else none
  else none
  else none
  else none
  else none
 else some (q3, ())
def x_an.l0 (K : Nat) (a0 : x_ff) : Nat → (List Int) → Int → Int → Option ((List Int) × Unit)
 | 0, _, _, _ => none
 | n + 1, q3, q4, q5 => x_an.l0b K a0 (x_an.l0 K a0 n) q3 q4 q5
def x_an.b (K : Nat) (a0 : x_ff) (L0 : (List Int) → Int → Int → Option ((List Int) × Unit)) : Option ((List Int) × Unit) :=
 (x_e3 K (1, a0.1, a0.2.1, 0, [], ByteArray.empty)).bind fun v1 =>
 bif decide (a0.2.2.1.1 > 0) then (x_b K a0.2.2.2).bind fun v2 =>
  (x_e3 K (3, a0.2.2.1.2.1, 0, a0.2.2.1.1, [], x_wv v2.1)).bind fun v3 =>
  bif decide ((v1.1.length + v3.1.length) * 2 ≤ x_g) then x_an.j0 K L0 (v1.1 ++ v3.1) a0
  else none
 else x_an.j0 K L0 v1.1 a0
def x_an (K : Nat) (a0 : x_ff) : Option ((List Int) × Unit) := x_an.b K a0 (x_an.l0 K a0 K)
def x_0r (K : Nat) (a0 : x_r) (a1 : Int) : Option (x_r × Int × Unit) :=
 bif decide ((0 : Int) ≤ a1) then bif decide (a1 < ((a0.2.2.1.length : Nat) : Int)) then bif !(decide ((a0.2.2.1.getD (Int.toNat a1) x_ci).2.2.2.2.2.2.2.2.1.2 = (((a0.2.2.1.getD (Int.toNat a1) x_ci).2.2.2.2.2.2.2.2.1.1.length : Nat) : Int))) then some (a0, 3, ())
 else bif decide ((a0.2.2.1.getD (Int.toNat a1) x_ci).2.2.2.2.2.2.1 = (a0.2.2.1.getD (Int.toNat a1) x_ci).2.1.2.2.1.1) then some (a0, 3, ())
 else (x_vd (a0.2.2.1.getD (Int.toNat a1) x_ci).2.1.2.2.1 (a0.2.2.1.getD (Int.toNat a1) x_ci).2.2.2.2.2.2.1).bind fun v1 =>
 (x_x K (a0.2.2.1.getD (Int.toNat a1) x_ci).2.2.2.2.2.2.2.1).bind fun v2 =>
 (x_an K ((a0.2.2.1.getD (Int.toNat a1) x_ci).2.1.1, (a0.2.2.1.getD (Int.toNat a1) x_ci).2.1.2.1, v1.1, v2.1)).bind fun v3 =>
 bif decide (((v3.1.length : Nat) : Int) > 80000) then some (a0, 4, ())
 else bif decide ((0 : Int) ≤ a1) then bif decide (a1 < ((a0.2.2.1.length : Nat) : Int)) then some ((a0.1, a0.2.1, a0.2.2.1.set (Int.toNat a1) ((a0.2.2.1.getD (Int.toNat a1) x_ci).1, ((a0.2.2.1.getD (Int.toNat a1) x_ci).2.1.1, (a0.2.2.1.getD (Int.toNat a1) x_ci).2.1.2.1, v1.1, v2.1), (a0.2.2.1.getD (Int.toNat a1) x_ci).2.2.1, (a0.2.2.1.getD (Int.toNat a1) x_ci).2.2.2.1, (a0.2.2.1.getD (Int.toNat a1) x_ci).2.2.2.2.1, (a0.2.2.1.getD (Int.toNat a1) x_ci).2.2.2.2.2.1, (a0.2.2.1.getD (Int.toNat a1) x_ci).2.2.2.2.2.2.1, (a0.2.2.1.getD (Int.toNat a1) x_ci).2.2.2.2.2.2.2.1, (v3.1, ((v3.1.length : Nat) : Int)), (a0.2.2.1.getD (Int.toNat a1) x_ci).2.2.2.2.2.2.2.2.2), a0.2.2.2), 0, ())
 else none
 else none
 else none
 else none
def x_02 (K : Nat) (a0 : x_r) (a1 : x_i9) : Option (x_r × Int × Unit) :=
 bif decide ((0 : Int) ≤ a1.2.1) then bif decide (a1.2.1 < ((a0.2.2.1.length : Nat) : Int)) then bif decide (a1.1 = 1) then (x_ss K a0.1 (a0.2.2.1.getD (Int.toNat a1.2.1) x_ci) a0.2.1).bind fun v1 =>
  (x_v8 a0 v1.1 v1.2.1).bind fun v2 =>
  some (v2.1, v2.2.1, ())
 else bif decide (a1.1 = 2) then (x_a4 a1.2.2.1 0 (IntKind.i64.wrap (a0.2.1 - 1))).bind fun v3 =>
  bif !v3.1 then some (a0, 2, ())
  else (s_Feed K a0.1 (a0.2.2.1.getD (Int.toNat a1.2.1) x_ci) a0.2.1 a1.2.2.1).bind fun v4 =>
  (x_v8 a0 v4.1 v4.2.1).bind fun v5 =>
  some (v5.1, v5.2.1, ())
 else bif decide (a1.1 = 3) then (x_s4 K a0 a1.2.1).bind fun v6 =>
  some (v6.1, v6.2.1, ())
 else bif decide (a1.1 = 9) then (s_Fall (a0.2.2.1.getD (Int.toNat a1.2.1) x_ci).2.2.2.2.2.2.2.2.1 a1.2.2.1).bind fun v7 =>
  (s_Rise K a0.1 ((a0.2.2.1.getD (Int.toNat a1.2.1) x_ci).1, (a0.2.2.1.getD (Int.toNat a1.2.1) x_ci).2.1, (a0.2.2.1.getD (Int.toNat a1.2.1) x_ci).2.2.1, (a0.2.2.1.getD (Int.toNat a1.2.1) x_ci).2.2.2.1, (a0.2.2.1.getD (Int.toNat a1.2.1) x_ci).2.2.2.2.1, (a0.2.2.1.getD (Int.toNat a1.2.1) x_ci).2.2.2.2.2.1, (a0.2.2.1.getD (Int.toNat a1.2.1) x_ci).2.2.2.2.2.2.1, (a0.2.2.1.getD (Int.toNat a1.2.1) x_ci).2.2.2.2.2.2.2.1, v7.1, (a0.2.2.1.getD (Int.toNat a1.2.1) x_ci).2.2.2.2.2.2.2.2.2) a0.2.1).bind fun v8 =>
  bif decide ((0 : Int) ≤ a1.2.1) then bif decide (a1.2.1 < ((a0.2.2.1.length : Nat) : Int)) then some ((a0.1, a0.2.1, a0.2.2.1.set (Int.toNat a1.2.1) v8.1, a0.2.2.2), 0, ())
  else none
  else none
 else (x_0r K a0 a1.2.1).bind fun v9 =>
 some (v9.1, v9.2.1, ())
 else none
 else none
def x_hp.j0 (K : Nat) (a1 : x_i9) (a0 : x_r) (p3 : Bool) : Option (x_r × Int × Unit) :=
 bif decide (a1.1 = 11) then (x_ta K a0 a1).bind fun v6 =>
  some (v6.1, v6.2.1, ())
 else bif p3 then (x_kh K a0 a1).bind fun v7 =>
  some (v7.1, v7.2.1, ())
 else (x_02 K a0 a1).bind fun v8 =>
 some (v8.1, v8.2.1, ())
def x_hp.j1 (K : Nat) (a1 : x_i9) (a0 : x_r) (p3 : Bool) : Option (x_r × Int × Unit) :=
 (x_a4 a1.2.1 0 (IntKind.i64.wrap (a0.2.1 - 1))).bind fun v4 =>
 bif !v4.1 then some (a0, 2, ())
 else bif p3 then (x_a4 a1.2.2.1 0 3).bind fun v5 =>
  bif !v5.1 then some (a0, 2, ())
  else x_hp.j0 K a1 a0 p3
 else x_hp.j0 K a1 a0 p3
def x_hp (K : Nat) (a0 : x_r) (a1 : x_i9) : Option (x_r × Int × Unit) :=
 (x_a4 a1.1 4 6).bind fun v1 =>
 bif v1.1 then (x_0l K a0 a1).bind fun v2 =>
  some (v2.1, v2.2.1, ())
 else bif decide (a1.1 = 7) then x_hp.j1 K a1 a0 true
 else bif decide (a1.1 = 8) then x_hp.j1 K a1 a0 true
 else x_hp.j1 K a1 a0 (decide (a1.1 = 11))
def x_aa.l0b (K : Nat) (a0 : x_r) (L1 : Int → (List TCmd) → Option (x_r × Unit)) (q1 : Int) (q2 : List TCmd) : Option (x_r × Unit) :=
 bif decide (q1 < a0.2.1) then bif decide ((0 : Int) ≤ q1) then bif decide (q1 < ((a0.2.2.1.length : Nat) : Int)) then L1 q1 q2
  else none
  else none
 else some ((a0.1, a0.2.1, a0.2.2.1, a0.2.2.2.1, a0.2.2.2.2.1, a0.2.2.2.2.2.1, a0.2.2.2.2.2.2.1, q2), ())
def x_aa.l1b (K : Nat) (a0 : x_r) (L0 : Int → (List TCmd) → Option (x_r × Unit)) (L1 : Int → (List TCmd) → Option (x_r × Unit)) (q1 : Int) (q3 : List TCmd) : Option (x_r × Unit) :=
 bif decide (((q3.length : Nat) : Int) < (a0.2.2.1.getD (Int.toNat q1) x_ci).2.2.2.2.2.2.1) then bif decide ((IntKind.i64.wrap (((q3.length : Nat) : Int) - (a0.2.2.1.getD (Int.toNat q1) x_ci).2.1.2.2.1.1)) < 0) then L0 (IntKind.i64.wrap (q1 + 1)) q3
  else bif decide ((IntKind.i64.wrap (((q3.length : Nat) : Int) - (a0.2.2.1.getD (Int.toNat q1) x_ci).2.1.2.2.1.1)) ≥ (((a0.2.2.1.getD (Int.toNat q1) x_ci).2.1.2.2.1.2.2.length : Nat) : Int)) then L0 (IntKind.i64.wrap (q1 + 1)) q3
  else bif decide ((0 : Int) ≤ (IntKind.i64.wrap (((q3.length : Nat) : Int) - (a0.2.2.1.getD (Int.toNat q1) x_ci).2.1.2.2.1.1))) then bif decide ((IntKind.i64.wrap (((q3.length : Nat) : Int) - (a0.2.2.1.getD (Int.toNat q1) x_ci).2.1.2.2.1.1)) < (((a0.2.2.1.getD (Int.toNat q1) x_ci).2.1.2.2.1.2.2.length : Nat) : Int)) then bif decide ((q3.length + [((a0.2.2.1.getD (Int.toNat q1) x_ci).2.1.2.2.1.2.2.getD (Int.toNat (IntKind.i64.wrap (((q3.length : Nat) : Int) - (a0.2.2.1.getD (Int.toNat q1) x_ci).2.1.2.2.1.1))) x_ck).2].length) * 81 ≤ x_g) then L1 q1 (q3 ++ [((a0.2.2.1.getD (Int.toNat q1) x_ci).2.1.2.2.1.2.2.getD (Int.toNat (IntKind.i64.wrap (((q3.length : Nat) : Int) - (a0.2.2.1.getD (Int.toNat q1) x_ci).2.1.2.2.1.1))) x_ck).2])
  else none
  else none
  else none
 else L0 (IntKind.i64.wrap (q1 + 1)) q3
def x_aa.l1 (K : Nat) (a0 : x_r) (L0 : Int → (List TCmd) → Option (x_r × Unit)) : Nat → Int → (List TCmd) → Option (x_r × Unit)
 | 0, _, _ => none
 | n + 1, q1, q3 => x_aa.l1b K a0 L0 (x_aa.l1 K a0 L0 n) q1 q3
def x_aa.l0 (K : Nat) (a0 : x_r) : Nat → Int → (List TCmd) → Option (x_r × Unit)
 | 0, _, _ => none
 | n + 1, q1, q2 => x_aa.l0b K a0 (x_aa.l1 K a0 (x_aa.l0 K a0 n) K) q1 q2
def x_aa.b (K : Nat) (a0 : x_r) (L0 : Int → (List TCmd) → Option (x_r × Unit)) : Option (x_r × Unit) :=
 L0 0 a0.2.2.2.2.2.2.2
def x_aa (K : Nat) (a0 : x_r) : Option (x_r × Unit) := x_aa.b K a0 (x_aa.l0 K a0 K)
def x_st (K : Nat) (a0 : x_r) (a1 : x_i9) : Option (x_r × Int × Unit) :=
 (x_hp K a0 a1).bind fun v1 =>
 bif decide (v1.2.1 = 0) then (x_aa K v1.1).bind fun v2 =>
  some (v2.1, v1.2.1, ())
 else some (v1.1, v1.2.1, ())
def x_af.l0b (K : Nat) (a0 : x_c) (a1 : Int) (L0 : (x_r × Bool × Unit) → (List x_i9) → (Int × x_c × Unit) → Int → (x_c × Unit) → x_r → Option (x_r × (List x_i9) × x_r × x_c × Unit)) (v3 : x_r × Bool × Unit) (q0 : List x_i9) (v4 : Int × x_c × Unit) (q1 : Int) (q2 : x_c × Unit) (q3 : x_r) : Option (x_r × (List x_i9) × x_r × x_c × Unit) :=
 bif decide (q1 < v4.1) then bif v3.2.1 then (x_h K q2.1 q3).bind fun v5 =>
   bif decide ((q0.length + [v5.1].length) * 105 ≤ x_g) then (x_bq K q3).bind fun v6 =>
   (x_st K v6.1 v5.1).bind fun v7 =>
   bif decide (v7.2.1 = 0) then L0 v3 (q0 ++ [v5.1]) v4 (IntKind.i64.wrap (q1 + 1)) v5.2 v7.1
   else L0 v3 (q0 ++ [v5.1]) v4 (IntKind.i64.wrap (q1 + 1)) v5.2 q3
   else none
  else some (((0, 0, 0, 0), 0, [], [], [], [], [], []), q0, q3, q2.1, ())
 else some (((0, 0, 0, 0), 0, [], [], [], [], [], []), q0, q3, q2.1, ())
def x_af.l0 (K : Nat) (a0 : x_c) (a1 : Int) : Nat → (x_r × Bool × Unit) → (List x_i9) → (Int × x_c × Unit) → Int → (x_c × Unit) → x_r → Option (x_r × (List x_i9) × x_r × x_c × Unit)
 | 0, _, _, _, _, _, _ => none
 | n + 1, v3, q0, v4, q1, q2, q3 => x_af.l0b K a0 a1 (x_af.l0 K a0 a1 n) v3 q0 v4 q1 q2 q3
def x_af.b (K : Nat) (a0 : x_c) (a1 : Int) (L0 : (x_r × Bool × Unit) → (List x_i9) → (Int × x_c × Unit) → Int → (x_c × Unit) → x_r → Option (x_r × (List x_i9) × x_r × x_c × Unit)) : Option (x_r × (List x_i9) × x_r × x_c × Unit) :=
 (x_d0 a0).bind fun v1 =>
 (x_p v1.2.1 [1, 2, 3, 3, 3, 4]).bind fun v2 =>
 (x_a6 K v1.1 v2.1).bind fun v3 =>
 (x_f v2.2.1 (IntKind.i64.wrap (a1 + 1))).bind fun v4 =>
 L0 v3 [] v4 0 v4.2 v3.1
def x_af (K : Nat) (a0 : x_c) (a1 : Int) : Option (x_r × (List x_i9) × x_r × x_c × Unit) := x_af.b K a0 a1 (x_af.l0 K a0 a1 K)
def x_fv (K : Nat) (a0 : x_c) : Option (x_r × x_c × Unit) :=
 (x_af K a0 45).bind fun v1 =>
 some (v1.2.2.1, v1.2.2.2.1, ())
def x_cp (a0 : x_c) : Option (TCmd × x_c × Unit) :=
 (x_mr a0 10).bind fun v1 =>
 bif v1.1 then some (((-1), 0, 0, 0, 0, 0, ByteArray.empty, ByteArray.empty), v1.2.1, ())
 else (x_ey v1.2.1).bind fun v2 =>
 (x_f v2.2.1 4).bind fun v3 =>
 (x_f v3.2.1 6).bind fun v4 =>
 some ((v3.1, IntKind.i64.wrap (1 + v4.1), v2.1.2.2), v4.2.1, ())
def x_ae.l0b (K : Nat) (a0 : x_c) (a1 : Int) (L0 : (List TCmd) → (Int × x_c × Unit) → Int → (x_c × Unit) → Option ((List TCmd) × x_c × Unit)) (q0 : List TCmd) (v1 : Int × x_c × Unit) (q1 : Int) (q2 : x_c × Unit) : Option ((List TCmd) × x_c × Unit) :=
 bif decide (q1 < v1.1) then (x_cp q2.1).bind fun v2 =>
  bif decide (v2.1.1 ≥ 0) then (x_mr v2.2.1 4).bind fun v3 =>
   bif !v3.1 then bif decide ((q0.length + [(v2.1.1, IntKind.i64.wrap (q1 + 1), v2.1.2.2)].length) * 81 ≤ x_g) then L0 (q0 ++ [(v2.1.1, IntKind.i64.wrap (q1 + 1), v2.1.2.2)]) v1 (IntKind.i64.wrap (q1 + 1)) v3.2
    else none
   else bif decide ((q0.length + [v2.1].length) * 81 ≤ x_g) then L0 (q0 ++ [v2.1]) v1 (IntKind.i64.wrap (q1 + 1)) v3.2
   else none
  else bif decide ((q0.length + [v2.1].length) * 81 ≤ x_g) then L0 (q0 ++ [v2.1]) v1 (IntKind.i64.wrap (q1 + 1)) v2.2
  else none
 else some (q0, q2.1, ())
def x_ae.l0 (K : Nat) (a0 : x_c) (a1 : Int) : Nat → (List TCmd) → (Int × x_c × Unit) → Int → (x_c × Unit) → Option ((List TCmd) × x_c × Unit)
 | 0, _, _, _, _ => none
 | n + 1, q0, v1, q1, q2 => x_ae.l0b K a0 a1 (x_ae.l0 K a0 a1 n) q0 v1 q1 q2
def x_ae.b (K : Nat) (a0 : x_c) (a1 : Int) (L0 : (List TCmd) → (Int × x_c × Unit) → Int → (x_c × Unit) → Option ((List TCmd) × x_c × Unit)) : Option ((List TCmd) × x_c × Unit) :=
 (x_f a0 (IntKind.i64.wrap (a1 + 1))).bind fun v1 =>
 L0 [] v1 0 v1.2
def x_ae (K : Nat) (a0 : x_c) (a1 : Int) : Option ((List TCmd) × x_c × Unit) := x_ae.b K a0 a1 (x_ae.l0 K a0 a1 K)
def x_bl.l0b (K : Nat) (a0 : x_n) (a1 : List TCmd) (L0 : (List x_a2) → Int → x_ao → Option (x_ao × (List x_a2) × Unit)) (q0 : List x_a2) (q1 : Int) (q2 : x_ao) : Option (x_ao × (List x_a2) × Unit) :=
 bif decide (q1 < ((a1.length : Nat) : Int)) then (x_gl a0).bind fun v2 =>
  bif v2.1 then bif decide ((0 : Int) ≤ q1) then bif decide (q1 < ((a1.length : Nat) : Int)) then (x_sa K (a1.getD (Int.toNat q1) zCmd)).bind fun v3 =>
   bif v3.1 then bif decide ((0 : Int) ≤ q1) then bif decide (q1 < ((a1.length : Nat) : Int)) then (x_ada K a0 q2 (a1.getD (Int.toNat q1) zCmd)).bind fun v4 =>
    bif decide ((q0.length + [v4.2.1].length) * 49 ≤ x_g) then L0 (q0 ++ [v4.2.1]) (IntKind.i64.wrap (q1 + 1)) v4.1
    else none
    else none
    else none
   else bif decide ((q0.length + [(0, 0, ByteArray.empty, ByteArray.empty)].length) * 49 ≤ x_g) then L0 (q0 ++ [(0, 0, ByteArray.empty, ByteArray.empty)]) (IntKind.i64.wrap (q1 + 1)) q2
   else none
   else none
   else none
  else bif decide ((q0.length + [(0, 0, ByteArray.empty, ByteArray.empty)].length) * 49 ≤ x_g) then L0 (q0 ++ [(0, 0, ByteArray.empty, ByteArray.empty)]) (IntKind.i64.wrap (q1 + 1)) q2
  else none
 else some (q2, q0, ())
def x_bl.l0 (K : Nat) (a0 : x_n) (a1 : List TCmd) : Nat → (List x_a2) → Int → x_ao → Option (x_ao × (List x_a2) × Unit)
 | 0, _, _, _ => none
 | n + 1, q0, q1, q2 => x_bl.l0b K a0 a1 (x_bl.l0 K a0 a1 n) q0 q1 q2
def x_bl.b (K : Nat) (a0 : x_n) (a1 : List TCmd) (L0 : (List x_a2) → Int → x_ao → Option (x_ao × (List x_a2) × Unit)) : Option (x_ao × (List x_a2) × Unit) :=
 (x_bg K a0).bind fun v1 =>
 L0 [] 0 v1.1
def x_bl (K : Nat) (a0 : x_n) (a1 : List TCmd) : Option (x_ao × (List x_a2) × Unit) := x_bl.b K a0 a1 (x_bl.l0 K a0 a1 K)
def x_7v (K : Nat) (a0 : x_n) (a1 : List TCmd) : Option (x_ao × Unit) :=
 (x_bl K a0 a1).bind fun v1 =>
 some (v1.1, ())
def x_s.j0 (K : Nat) (L0 : Int → (x_c × Unit) → (x_n × x_c × Unit) → (x_ff × Unit) → Option (x_n × x_ff × x_c × Unit)) (p10 : Bool) (v9 : Bool × x_c × Unit) (v1 : x_n × x_c × Unit) (q2 : x_ff × Unit) (v4 : Int × Int × Unit) (q0 : Int) (v5 : Int × x_c × Unit) (v6 : Int × x_c × Unit) : Option (x_n × x_ff × x_c × Unit) :=
 bif p10 then (x_ae K v9.2.1 3).bind fun v11 =>
  (x_7v K v1.1 v11.1).bind fun v12 =>
  (x_b K v12.1).bind fun v13 =>
  (x_iw K v1.1 q2.1 (3, v4.2.1, 0, v4.1, [], x_wv v13.1)).bind fun v17 =>
  L0 (IntKind.i64.wrap (q0 + 1)) v11.2 v1 v17
 else (x_iw K v1.1 q2.1 (1, IntKind.i64.wrap (q2.1.1 + v5.1), IntKind.i64.wrap (v6.1 - 1), 0, [], ByteArray.empty)).bind fun v18 =>
 L0 (IntKind.i64.wrap (q0 + 1)) v9.2 v1 v18
def x_s.l0b (K : Nat) (a0 : x_c) (L0 : Int → (x_c × Unit) → (x_n × x_c × Unit) → (x_ff × Unit) → Option (x_n × x_ff × x_c × Unit)) (q0 : Int) (q1 : x_c × Unit) (v1 : x_n × x_c × Unit) (q2 : x_ff × Unit) : Option (x_n × x_ff × x_c × Unit) :=
 (x_f q1.1 7).bind fun v3 =>
 bif decide (q0 < v3.1) then (x_cs q2.1.2.2.1).bind fun v4 =>
  (x_f v3.2.1 2).bind fun v5 =>
  (x_f v5.2.1 4).bind fun v6 =>
  (x_f v6.2.1 3).bind fun v7 =>
  bif decide (v7.1 = 0) then (x_cp v7.2.1).bind fun v8 =>
   (x_iw K v1.1 q2.1 (2, v4.2.1, 0, v4.1, [(q2.1.1, v8.1)], ByteArray.empty)).bind fun v14 =>
   L0 (IntKind.i64.wrap (q0 + 1)) v8.2 v1 v14
  else bif decide (v7.1 = 1) then (x_mr v7.2.1 3).bind fun v9 =>
   bif v9.1 then x_s.j0 K L0 (decide (v4.1 > 0)) v9 v1 q2 v4 q0 v5 v6
   else x_s.j0 K L0 false v9 v1 q2 v4 q0 v5 v6
  else (x_iw K v1.1 q2.1 (1, IntKind.i64.wrap (q2.1.1 + v5.1), IntKind.i64.wrap (v6.1 - 1), 0, [], ByteArray.empty)).bind fun v19 =>
  L0 (IntKind.i64.wrap (q0 + 1)) v7.2 v1 v19
 else some (v1.1, q2.1, v3.2.1, ())
def x_s.l0 (K : Nat) (a0 : x_c) : Nat → Int → (x_c × Unit) → (x_n × x_c × Unit) → (x_ff × Unit) → Option (x_n × x_ff × x_c × Unit)
 | 0, _, _, _, _ => none
 | n + 1, q0, q1, v1, q2 => x_s.l0b K a0 (x_s.l0 K a0 n) q0 q1 v1 q2
def x_s.b (K : Nat) (a0 : x_c) (L0 : Int → (x_c × Unit) → (x_n × x_c × Unit) → (x_ff × Unit) → Option (x_n × x_ff × x_c × Unit)) : Option (x_n × x_ff × x_c × Unit) :=
 (x_d0 a0).bind fun v1 =>
 (x_mx K v1.1).bind fun v2 =>
 L0 0 v1.2 v1 v2
def x_s (K : Nat) (a0 : x_c) : Option (x_n × x_ff × x_c × Unit) := x_s.b K a0 (x_s.l0 K a0 K)
def x_t.l0b (K : Nat) (a0 : x_c) (a1 : Int) (a2 : Int) (L0 : Int → (List x_au) → (Int × x_c × Unit) → Int → (x_c × Unit) → Option ((List x_au) × x_c × Unit)) (q0 : Int) (q1 : List x_au) (v1 : Int × x_c × Unit) (q2 : Int) (q3 : x_c × Unit) : Option ((List x_au) × x_c × Unit) :=
 bif decide (q2 < v1.1) then (x_f q3.1 2).bind fun v2 =>
  (x_cp v2.2.1).bind fun v3 =>
  bif decide ((q1.length + [(IntKind.i64.wrap (q0 + v2.1), v3.1)].length) * 89 ≤ x_g) then L0 (IntKind.i64.wrap (q0 + v2.1)) (q1 ++ [(IntKind.i64.wrap (q0 + v2.1), v3.1)]) v1 (IntKind.i64.wrap (q2 + 1)) v3.2
  else none
 else some (q1, q3.1, ())
def x_t.l0 (K : Nat) (a0 : x_c) (a1 : Int) (a2 : Int) : Nat → Int → (List x_au) → (Int × x_c × Unit) → Int → (x_c × Unit) → Option ((List x_au) × x_c × Unit)
 | 0, _, _, _, _, _ => none
 | n + 1, q0, q1, v1, q2, q3 => x_t.l0b K a0 a1 a2 (x_t.l0 K a0 a1 a2 n) q0 q1 v1 q2 q3
def x_t.b (K : Nat) (a0 : x_c) (a1 : Int) (a2 : Int) (L0 : Int → (List x_au) → (Int × x_c × Unit) → Int → (x_c × Unit) → Option ((List x_au) × x_c × Unit)) : Option ((List x_au) × x_c × Unit) :=
 (x_f a0 (IntKind.i64.wrap (a2 + 1))).bind fun v1 =>
 L0 a1 [] v1 0 v1.2
def x_t (K : Nat) (a0 : x_c) (a1 : Int) (a2 : Int) : Option ((List x_au) × x_c × Unit) := x_t.b K a0 a1 a2 (x_t.l0 K a0 a1 a2 K)
def x_iq (K : Nat) (a0 : x_c) : Option (TLog × x_c × Unit) :=
 (x_f a0 3).bind fun v1 =>
 (x_f v1.2.1 2).bind fun v2 =>
 (x_t K v2.2.1 v2.1 6).bind fun v3 =>
 some ((v1.1, v2.1, v3.1), v3.2.1, ())
def x_mz (a0 : x_c) (a1 : TCmd) : Option (TCmd × x_c × Unit) :=
 (x_f a0 14).bind fun v1 =>
 bif decide (v1.1 = 0) then (x_p v1.2.1 [(-2), (-1), 3, 4]).bind fun v2 =>
  some ((v2.1, a1.2), v2.2.1, ())
 else bif decide (v1.1 = 1) then (x_p v1.2.1 [0, (-1), 100000, 100001]).bind fun v3 =>
  some ((a1.1, v3.1, a1.2.2), v3.2.1, ())
 else bif decide (v1.1 = 2) then (x_p v1.2.1 [(-1), 0, 10, 11]).bind fun v4 =>
  some ((a1.1, a1.2.1, v4.1, a1.2.2.2), v4.2.1, ())
 else bif decide (v1.1 = 3) then (x_p v1.2.1 [(-1), 100000, 100001, (-9223372036854775808)]).bind fun v5 =>
  some ((a1.1, a1.2.1, a1.2.2.1, v5.1, a1.2.2.2.2), v5.2.1, ())
 else bif decide (v1.1 = 4) then (x_on v1.2.1 [(bs [65]), (bs [48, 49, 50, 51, 52, 53, 54, 55, 56, 57, 48, 49, 50, 51, 52, 53, 54, 55, 56, 57, 48, 49, 50, 51, 52, 53, 54, 55, 56, 57, 48])]).bind fun v6 =>
  some ((a1.1, a1.2.1, a1.2.2.1, a1.2.2.2.1, a1.2.2.2.2.1, a1.2.2.2.2.2.1, v6.1, a1.2.2.2.2.2.2.2), v6.2.1, ())
 else some (a1, v1.2.1, ())
def x_za (K : Nat) (a0 : x_c) : Option (TLog × x_c × Unit) :=
 (x_iq K a0).bind fun v1 =>
 (x_f v1.2.1 14).bind fun v2 =>
 bif decide (v2.1 = 0) then (x_p v2.2.1 [(-1), 299, 300, 301, (-9223372036854775808)]).bind fun v3 =>
  some ((v3.1, v1.1.2), v3.2.1, ())
 else bif decide (v2.1 = 1) then (x_p v2.2.1 [(-1), 2, 300, 301]).bind fun v4 =>
  some ((v1.1.1, v4.1, v1.1.2.2), v4.2.1, ())
 else bif decide (v2.1 = 2) then (x_f v2.2.1 5).bind fun v5 =>
  (x_cp v5.2.1).bind fun v6 =>
  (x_mz v6.2.1 v6.1).bind fun v7 =>
  bif decide ((v1.1.2.2.length + [(v5.1, v7.1)].length) * 89 ≤ x_g) then some ((v1.1.1, v1.1.2.1, v1.1.2.2 ++ [(v5.1, v7.1)]), v7.2.1, ())
  else none
 else some (v1.1, v2.2.1, ())
def x_fe (K : Nat) (a0 : x_c) : Option (x_n × x_ao × x_c × Unit) :=
 (x_d0 a0).bind fun v1 =>
 (x_ae K v1.2.1 14).bind fun v2 =>
 (x_bl K v1.1 v2.1).bind fun v3 =>
 some (v1.1, v3.1, v2.2.1, ())
def x_yv (a0 : x_c) : Option (x_n × x_c × Unit) :=
 (x_d0 a0).bind fun v1 =>
 (x_f v1.2.1 12).bind fun v2 =>
 bif decide (v2.1 = 0) then (x_p v2.2.1 [(-1), 0, 4, 5]).bind fun v3 =>
  some ((v3.1, v1.1.2), v3.2.1, ())
 else bif decide (v2.1 = 1) then (x_p v2.2.1 [0, 6]).bind fun v4 =>
  some ((v1.1.1, v4.1, v1.1.2.2), v4.2.1, ())
 else bif decide (v2.1 = 2) then (x_p v2.2.1 [0, 9]).bind fun v5 =>
  some ((v1.1.1, v1.1.2.1, v5.1, v1.1.2.2.2), v5.2.1, ())
 else bif decide (v2.1 = 3) then (x_p v2.2.1 [(-1), 60, 61]).bind fun v6 =>
  some ((v1.1.1, v1.1.2.1, v1.1.2.2.1, v6.1), v6.2.1, ())
 else some (v1.1, v2.2.1, ())
def x_5.l0b (K : Nat) (a0 : x_c) (L0 : Int → (Int × x_c × Unit) → Int → Int → Int → Int → (List x_wf) → Option (x_v × x_c × Unit)) (q0 : Int) (q1 : Int × x_c × Unit) (q2 : Int) (q3 : Int) (q4 : Int) (q5 : Int) (q6 : List x_wf) : Option (x_v × x_c × Unit) :=
 (x_f q1.2.1 8).bind fun v3 =>
 bif decide (q0 < v3.1) then (x_f v3.2.1 9).bind fun v4 =>
  bif decide ((IntKind.i64.wrap (q4 + (IntKind.i64.wrap (Int.tdiv v4.1 8)))) > q4) then (x_f v4.2.1 3).bind fun v5 =>
   (x_ds K (q2, q3, q4, q5, q6) (IntKind.i64.wrap (1 + v5.1)) (IntKind.i64.wrap (q4 + (IntKind.i64.wrap (Int.tdiv v4.1 8)))) 0 (IntKind.i64.wrap (2 * q0))).bind fun v6 =>
   L0 (IntKind.i64.wrap (q0 + 1)) v5 v6.1.1 v6.1.2.1 v6.1.2.2.1 v6.1.2.2.2.1 v6.1.2.2.2.2
  else (x_f v4.2.1 3).bind fun v7 =>
  (x_ds K (q2, q3, q4, q5, q6) (IntKind.i64.wrap (1 + v7.1)) (IntKind.i64.wrap (q4 + (IntKind.i64.wrap (Int.tdiv v4.1 8)))) (IntKind.i64.wrap (q5 + 1)) (IntKind.i64.wrap (2 * q0))).bind fun v8 =>
  L0 (IntKind.i64.wrap (q0 + 1)) v7 v8.1.1 v8.1.2.1 v8.1.2.2.1 v8.1.2.2.2.1 v8.1.2.2.2.2
 else some ((q2, q3, q4, q5, q6), v3.2.1, ())
def x_5.l0 (K : Nat) (a0 : x_c) : Nat → Int → (Int × x_c × Unit) → Int → Int → Int → Int → (List x_wf) → Option (x_v × x_c × Unit)
 | 0, _, _, _, _, _, _, _ => none
 | n + 1, q0, q1, q2, q3, q4, q5, q6 => x_5.l0b K a0 (x_5.l0 K a0 n) q0 q1 q2 q3 q4 q5 q6
def x_5.b (K : Nat) (a0 : x_c) (L0 : Int → (Int × x_c × Unit) → Int → Int → Int → Int → (List x_wf) → Option (x_v × x_c × Unit)) : Option (x_v × x_c × Unit) :=
 (x_f a0 3).bind fun v1 =>
 (x_f v1.2.1 4).bind fun v2 =>
 L0 0 v2 v1.1 v2.1 0 (-1) []
def x_5 (K : Nat) (a0 : x_c) : Option (x_v × x_c × Unit) := x_5.b K a0 (x_5.l0 K a0 K)
def x_yx (K : Nat) (a0 : x_c) : Option (x_v × x_c × Unit) :=
 (x_5 K a0).bind fun v1 =>
 (x_f v1.2.1 12).bind fun v2 =>
 bif decide (v2.1 = 0) then (x_p v2.2.1 [(-2), (-1), 5, 100000, 9223372036854775807, (-9223372036854775808)]).bind fun v3 =>
  some ((v1.1.1, v1.1.2.1, v1.1.2.2.1, v3.1, v1.1.2.2.2.2), v3.2.1, ())
 else bif decide (v2.1 = 1) then (x_p v2.2.1 [(-1), 0, 2]).bind fun v4 =>
  some ((v1.1.1, v1.1.2.1, v4.1, v1.1.2.2.2), v4.2.1, ())
 else bif decide (v2.1 = 2) then (x_f v2.2.1 9).bind fun v5 =>
  (x_f v5.2.1 9).bind fun v6 =>
  bif decide ((v1.1.2.2.2.2.length + [(v5.1, v6.1)].length) * 17 ≤ x_g) then some ((v1.1.1, v1.1.2.1, v1.1.2.2.1, v1.1.2.2.2.1, v1.1.2.2.2.2 ++ [(v5.1, v6.1)]), v6.2.1, ())
  else none
 else bif decide (v2.1 = 3) then (x_p v2.2.1 [(-1), 3, 4]).bind fun v7 =>
  some ((v7.1, v1.1.2), v7.2.1, ())
 else some (v1.1, v2.2.1, ())
def x_zg (K : Nat) (a0 : x_c) : Option (x_n × x_ao × x_c × Unit) :=
 (x_fe K a0).bind fun v1 =>
 (x_f v1.2.2.1 16).bind fun v2 =>
 bif decide (v2.1 = 0) then (x_yv v2.2.1).bind fun v3 =>
  some (v3.1, v1.2.1, v3.2.1, ())
 else bif decide (v2.1 = 1) then (x_b7 K v2.2.1).bind fun v4 =>
  bif decide ((0 : Int) < ((v1.2.1.1.length : Nat) : Int)) then some (v1.1, (v1.2.1.1.set 0 v4.1, v1.2.1.2), v4.2.1, ())
  else none
 else bif decide (v2.1 = 2) then (x_yx K v2.2.1).bind fun v5 =>
  bif decide ((v1.2.1.2.1.length + [v5.1].length) * 57 ≤ x_g) then some (v1.1, (v1.2.1.1, v1.2.1.2.1 ++ [v5.1], v1.2.1.2.2), v5.2.1, ())
  else none
 else bif decide (v2.1 = 3) then (x_tn K v2.2.1).bind fun v6 =>
  bif decide ((0 : Int) < ((v1.2.1.2.2.1.length : Nat) : Int)) then some (v1.1, (v1.2.1.1, v1.2.1.2.1, v1.2.1.2.2.1.set 0 v6.1, v1.2.1.2.2.2), v6.2.2.1, ())
  else none
 else bif decide (v2.1 = 4) then (x_p v2.2.1 [(-1), 100000, 100001]).bind fun v7 =>
  bif decide ((0 : Int) < ((v1.2.1.2.2.2.2.1.length : Nat) : Int)) then some (v1.1, (v1.2.1.1, v1.2.1.2.1, v1.2.1.2.2.1, v1.2.1.2.2.2.1, v1.2.1.2.2.2.2.1.set 0 v7.1, v1.2.1.2.2.2.2.2), v7.2.1, ())
  else none
 else bif decide (v2.1 = 5) then (x_f v2.2.1 12).bind fun v8 =>
  (x_p v8.2.1 [(-2), 0, 100001]).bind fun v9 =>
  bif decide ((1 : Int) < ((v1.2.1.2.2.2.2.2.length : Nat) : Int)) then some (v1.1, (v1.2.1.1, v1.2.1.2.1, v1.2.1.2.2.1, v1.2.1.2.2.2.1, v1.2.1.2.2.2.2.1, v1.2.1.2.2.2.2.2.set 1 (IntKind.i64.wrap (v8.1 - 1), v9.1, ByteArray.empty, ByteArray.empty)), v9.2.1, ())
  else none
 else bif decide (v2.1 = 6) then (x_p v2.2.1 [(-1), 100000, 100001]).bind fun v10 =>
  some (v1.1, (v1.2.1.1, v1.2.1.2.1, v1.2.1.2.2.1, v10.1, v1.2.1.2.2.2.2), v10.2.1, ())
 else some (v1.1, v1.2.1, v2.2.1, ())
def x_s3 (K : Nat) (a0 : x_c) : Option (x_n × x_ff × x_c × Unit) :=
 (x_s K a0).bind fun v1 =>
 (x_f v1.2.2.1 14).bind fun v2 =>
 bif decide (v2.1 = 0) then (x_p v2.2.1 [(-1), 0, 300, 301]).bind fun v3 =>
  some (v1.1, (v3.1, v1.2.1.2), v3.2.1, ())
 else bif decide (v2.1 = 1) then (x_p v2.2.1 [(-2), 4, 5]).bind fun v4 =>
  some (v1.1, (v1.2.1.1, v4.1, v1.2.1.2.2), v4.2.1, ())
 else bif decide (v2.1 = 2) then (x_za K v2.2.1).bind fun v5 =>
  some (v1.1, (v1.2.1.1, v1.2.1.2.1, v5.1, v1.2.1.2.2.2), v5.2.1, ())
 else bif decide (v2.1 = 3) then (x_zg K v2.2.1).bind fun v6 =>
  some (v1.1, (v1.2.1.1, v1.2.1.2.1, v1.2.1.2.2.1, v6.2.1), v6.2.2.1, ())
 else some (v1.1, v1.2.1, v2.2.1, ())
def x_ij (K : Nat) (a0 : x_c) : Option (x_gs × x_c × Unit) :=
 (x_f a0 4).bind fun v1 =>
 bif decide (v1.1 = 0) then (x_f v1.2.1 6).bind fun v2 =>
  (x_f v2.2.1 4).bind fun v3 =>
  some ((1, v2.1, IntKind.i64.wrap (v3.1 - 1), 0, [], ByteArray.empty), v3.2.1, ())
 else bif decide (v1.1 = 1) then (x_fe K v1.2.1).bind fun v4 =>
  (x_f v4.2.2.1 3).bind fun v5 =>
  (x_f v5.2.1 5).bind fun v6 =>
  (x_b K v4.2.1).bind fun v7 =>
  some ((3, v5.1, 0, v6.1, [], x_wv v7.1), v6.2.1, ())
 else (x_f v1.2.1 2).bind fun v8 =>
 (x_f v8.2.1 3).bind fun v9 =>
 (x_t K v9.2.1 1 4).bind fun v10 =>
 some ((2, v8.1, 0, v9.1, v10.1, ByteArray.empty), v10.2.1, ())
def x_9.l0b (K : Nat) (a0 : x_c) (L0 : (List Int) → Int → x_c → Option ((List Int) × x_c × Unit)) (q0 : List Int) (q1 : Int) (q2 : x_c) : Option ((List Int) × x_c × Unit) :=
 (x_f q2 4).bind fun v1 =>
 bif decide (q1 < v1.1) then (x_ij K v1.2.1).bind fun v2 =>
  (x_e3 K v2.1).bind fun v3 =>
  bif decide ((q0.length + v3.1.length) * 2 ≤ x_g) then L0 (q0 ++ v3.1) (IntKind.i64.wrap (q1 + 1)) v2.2.1
  else none
 else some (q0, v1.2.1, ())
def x_9.l0 (K : Nat) (a0 : x_c) : Nat → (List Int) → Int → x_c → Option ((List Int) × x_c × Unit)
 | 0, _, _, _ => none
 | n + 1, q0, q1, q2 => x_9.l0b K a0 (x_9.l0 K a0 n) q0 q1 q2
def x_9.b (K : Nat) (a0 : x_c) (L0 : (List Int) → Int → x_c → Option ((List Int) × x_c × Unit)) : Option ((List Int) × x_c × Unit) :=
 L0 [] 0 a0
def x_9 (K : Nat) (a0 : x_c) : Option ((List Int) × x_c × Unit) := x_9.b K a0 (x_9.l0 K a0 K)
def x_sr (K : Nat) (a0 : x_c) : Option (x_1h × x_c × Unit) :=
 (x_9 K a0).bind fun v1 =>
 (x_f v1.2.1 (IntKind.i64.wrap (((v1.1.length : Nat) : Int) + 1))).bind fun v2 =>
 (x_f v2.2.1 14).bind fun v3 =>
 bif decide (v3.1 = 0) then (x_p v3.2.1 [(-1), IntKind.i64.wrap (((v1.1.length : Nat) : Int) + 1)]).bind fun v4 =>
  some ((v1.1, v4.1), v4.2.1, ())
 else bif decide (v3.1 = 1) then (x_f v3.2.1 2).bind fun v5 =>
  bif decide ((IntKind.i64.wrap (80000 + v5.1)) = (IntKind.i64.wrap (80000 + v5.1))) then bif decide ((0 : Int) ≤ (IntKind.i64.wrap (80000 + v5.1))) then bif decide ((Int.toNat (IntKind.i64.wrap (80000 + v5.1))) * 2 ≤ x_g) then some ((List.replicate (Int.toNat (IntKind.i64.wrap (80000 + v5.1))) 0, v2.1), v5.2.1, ())
  else none
  else none
  else none
 else some ((v1.1, v2.1), v3.2.1, ())
def x_cr.j0 (K : Nat) (v1 : Int × x_c × Unit) (p10 : x_c × Unit) (v2 : Int × x_c × Unit) (v3 : Int × x_c × Unit) (v4 : Int × x_c × Unit) (v5 : Int × x_c × Unit) (v6 : Int × x_c × Unit) (v7 : Int × x_c × Unit) (p11 : List x_au) (v8 : Bool × x_c × Unit) : Option (TRpc × x_c × Unit) :=
 bif decide ((IntKind.i64.wrap (1 + v1.1)) = 5) then (x_fe K p10.1).bind fun v12 =>
  (x_b K v12.2.1).bind fun v13 =>
  some ((IntKind.i64.wrap (1 + v1.1), v2.1, v3.1, v4.1, v5.1, v6.1, v7.1, p11, v8.1, x_wv v13.1), v12.2.2.1, ())
 else some ((IntKind.i64.wrap (1 + v1.1), v2.1, v3.1, v4.1, v5.1, v6.1, v7.1, p11, v8.1, ByteArray.empty), p10.1, ())
def x_cr (K : Nat) (a0 : x_c) : Option (TRpc × x_c × Unit) :=
 (x_f a0 5).bind fun v1 =>
 (x_f v1.2.1 3).bind fun v2 =>
 (x_f v2.2.1 3).bind fun v3 =>
 (x_f v3.2.1 4).bind fun v4 =>
 (x_f v4.2.1 5).bind fun v5 =>
 (x_f v5.2.1 3).bind fun v6 =>
 (x_f v6.2.1 4).bind fun v7 =>
 (x_mr v7.2.1 2).bind fun v8 =>
 bif decide ((IntKind.i64.wrap (1 + v1.1)) = 3) then (x_t K v8.2.1 0 3).bind fun v9 =>
  x_cr.j0 K v1 v9.2 v2 v3 v4 v5 v6 v7 v9.1 v8
 else x_cr.j0 K v1 v8.2 v2 v3 v4 v5 v6 v7 [] v8
def x_p2 (K : Nat) (a0 : x_c) : Option (x_n × x_bt × Int × x_c × Unit) :=
 (x_fv K a0).bind fun v1 =>
 bif decide (((v1.1.2.2.1.length : Nat) : Int) = 0) then some (v1.1.1, (0, (0, 0, (0, 0, []), [], [], [], 0, [], []), 0, [], [], [], 0, ([], [], [], 0, [], []), ([], 0), []), 1, v1.2.1, ())
 else (x_f v1.2.1 ((v1.1.2.2.1.length : Nat) : Int)).bind fun v2 =>
 bif decide ((0 : Int) ≤ v2.1) then bif decide (v2.1 < ((v1.1.2.2.1.length : Nat) : Int)) then (x_w K (v1.1.2.2.1.getD (Int.toNat v2.1) x_ci)).bind fun v3 =>
 (x_f v2.2.1 18).bind fun v4 =>
 bif decide (v4.1 = 0) then (x_p v4.2.1 [(-1), 0, 1, 5]).bind fun v5 =>
  some (v1.1.1, (v5.1, v3.1.2), v1.1.2.1, v5.2.1, ())
 else bif decide (v4.1 = 1) then (x_s3 K v4.2.1).bind fun v6 =>
  some (v1.1.1, (v3.1.1, v6.2.1, v3.1.2.2), v1.1.2.1, v6.2.2.1, ())
 else bif decide (v4.1 = 2) then (x_p v4.2.1 [(-1), 0, 1, 300]).bind fun v7 =>
  some (v1.1.1, (v3.1.1, v3.1.2.1, v3.1.2.2.1, v3.1.2.2.2.1, v3.1.2.2.2.2.1, v3.1.2.2.2.2.2.1, v7.1, v3.1.2.2.2.2.2.2.2), v1.1.2.1, v7.2.1, ())
 else bif decide (v4.1 = 3) then (x_p v4.2.1 [0, 1, 2, 300]).bind fun v8 =>
  bif decide ((0 : Int) < ((v3.1.2.2.2.2.1.length : Nat) : Int)) then some (v1.1.1, (v3.1.1, v3.1.2.1, v3.1.2.2.1, v3.1.2.2.2.1, v3.1.2.2.2.2.1.set 0 v8.1, v3.1.2.2.2.2.2), v1.1.2.1, v8.2.1, ())
  else none
 else bif decide (v4.1 = 4) then (x_sr K v4.2.1).bind fun v9 =>
  some (v1.1.1, (v3.1.1, v3.1.2.1, v3.1.2.2.1, v3.1.2.2.2.1, v3.1.2.2.2.2.1, v3.1.2.2.2.2.2.1, v3.1.2.2.2.2.2.2.1, v3.1.2.2.2.2.2.2.2.1, v9.1, v3.1.2.2.2.2.2.2.2.2.2), v1.1.2.1, v9.2.1, ())
 else bif decide (v4.1 = 5) then (x_f v4.2.1 5).bind fun v10 =>
  some (v1.1.1, (v3.1.1, v3.1.2.1, IntKind.i64.wrap (v10.1 - 1), v3.1.2.2.2), v1.1.2.1, v10.2.1, ())
 else bif decide (v4.1 = 6) then (x_cr K v4.2.1).bind fun v11 =>
  bif decide ((v3.1.2.2.2.2.2.2.2.2.2.length + [v11.1].length) * 105 ≤ x_g) then some (v1.1.1, (v3.1.1, v3.1.2.1, v3.1.2.2.1, v3.1.2.2.2.1, v3.1.2.2.2.2.1, v3.1.2.2.2.2.2.1, v3.1.2.2.2.2.2.2.1, v3.1.2.2.2.2.2.2.2.1, v3.1.2.2.2.2.2.2.2.2.1, v3.1.2.2.2.2.2.2.2.2.2 ++ [v11.1]), v1.1.2.1, v11.2.1, ())
  else none
 else some (v1.1.1, v3.1, v1.1.2.1, v4.2.1, ())
 else none
 else none
def x_g9 (K : Nat) (a0 : List Int) : Option (x_bt × Unit) :=
 (x_cx K a0).bind fun v1 =>
 (x_p2 K v1.1).bind fun v2 =>
 some (v2.2.1, ())
def x_tb (K : Nat) (a0 : x_c) : Option (x_r × x_c × Unit) :=
 (x_fv K a0).bind fun v1 =>
 (x_f v1.2.1 18).bind fun v2 =>
 bif decide (v2.1 = 0) then (x_f v2.2.1 7).bind fun v3 =>
  some ((v1.1.1, v3.1, v1.1.2.2), v3.2.1, ())
 else bif decide (v2.1 = 1) then (x_cr K v2.2.1).bind fun v4 =>
  bif decide ((v1.1.2.2.2.1.length + [v4.1].length) * 105 ≤ x_g) then some ((v1.1.1, v1.1.2.1, v1.1.2.2.1, v1.1.2.2.2.1 ++ [v4.1], v1.1.2.2.2.2), v4.2.1, ())
  else none
 else bif decide (v2.1 = 2) then (x_f v2.2.1 5).bind fun v5 =>
  (x_f v5.2.1 4).bind fun v6 =>
  (x_f v6.2.1 9).bind fun v7 =>
  bif decide ((v1.1.2.2.2.2.2.2.1.length + [(v5.1, v6.1, (0, 0, ByteArray.empty, ByteArray.empty), 0, v7.1)].length) * 81 ≤ x_g) then some ((v1.1.1, v1.1.2.1, v1.1.2.2.1, v1.1.2.2.2.1, v1.1.2.2.2.2.1, v1.1.2.2.2.2.2.1, v1.1.2.2.2.2.2.2.1 ++ [(v5.1, v6.1, (0, 0, ByteArray.empty, ByteArray.empty), 0, v7.1)], v1.1.2.2.2.2.2.2.2), v7.2.1, ())
  else none
 else bif decide (v2.1 = 3) then (x_cp v2.2.1).bind fun v8 =>
  (x_mz v8.2.1 v8.1).bind fun v9 =>
  bif decide ((0 : Int) < ((v1.1.2.2.2.2.1.length : Nat) : Int)) then some ((v1.1.1, v1.1.2.1, v1.1.2.2.1, v1.1.2.2.2.1, v1.1.2.2.2.2.1.set 0 v9.1, v1.1.2.2.2.2.2), v9.2.1, ())
  else none
 else bif decide (v2.1 = 4) then (x_cp v2.2.1).bind fun v10 =>
  (x_mz v10.2.1 v10.1).bind fun v11 =>
  bif decide ((v1.1.2.2.2.2.2.2.2.length + [v11.1].length) * 81 ≤ x_g) then some ((v1.1.1, v1.1.2.1, v1.1.2.2.1, v1.1.2.2.2.1, v1.1.2.2.2.2.1, v1.1.2.2.2.2.2.1, v1.1.2.2.2.2.2.2.1, v1.1.2.2.2.2.2.2.2 ++ [v11.1]), v11.2.1, ())
  else none
 else bif decide (v2.1 = 5) then (x_p2 K v2.2.1).bind fun v12 =>
  bif decide ((0 : Int) < ((v1.1.2.2.1.length : Nat) : Int)) then some ((v1.1.1, v1.1.2.1, v1.1.2.2.1.set 0 v12.2.1, v1.1.2.2.2), v12.2.2.2.1, ())
  else none
 else bif decide (v2.1 = 6) then (x_p v2.2.1 [(-1), 0, 300, 301]).bind fun v13 =>
  bif decide ((1 : Int) < ((v1.1.2.2.2.2.2.1.length : Nat) : Int)) then some ((v1.1.1, v1.1.2.1, v1.1.2.2.1, v1.1.2.2.2.1, v1.1.2.2.2.2.1, v1.1.2.2.2.2.2.1.set 1 v13.1, v1.1.2.2.2.2.2.2), v13.2.1, ())
  else none
 else some (v1.1, v2.2.1, ())
def x_gp (K : Nat) (a0 : List Int) : Option (x_r × Unit) :=
 (x_cx K a0).bind fun v1 =>
 (x_tb K v1.1).bind fun v2 =>
 some (v2.1, ())
def x_ch (a0 : Int) : Option (ByteArray × Unit) :=
 (lItoa a0).bind fun v1 =>
 some (v1.1, ())
def x_ku (a0 : Int) (a1 : Int) (a2 : Int) : Option (Bool × Unit) :=
 bif decide (a0 ≥ a1) then some (decide (a0 ≤ a2), ())
 else some (false, ())
def x_afi (a0 : TLog) : Option (Int × Unit) :=
 some (IntKind.i64.wrap (a0.1 + ((a0.2.2.length : Nat) : Int)), ())
def x_q.l0b (K : Nat) (a0 : x_bt) (L0 : ByteArray → (Int × Unit) → Int → Option (ByteArray × Unit)) (q2 : ByteArray) (v2 : Int × Unit) (q3 : Int) : Option (ByteArray × Unit) :=
 bif decide (q3 < 5) then bif decide ((0 : Int) ≤ q3) then bif decide (q3 < 5) then (x_ch ([a0.2.1.1, v2.1, a0.2.2.2.2.2.2.1, a0.2.1.2.2.1.1, ((a0.2.2.2.2.2.2.2.2.2.length : Nat) : Int)].getD (Int.toNat q3) 0)).bind fun v3 =>
  bif sfit (bs [32]) v3.1 then bif sfit q2 (sapp (bs [32]) v3.1) then L0 (sapp q2 (sapp (bs [32]) v3.1)) v2 (IntKind.i64.wrap (q3 + 1))
  else none
  else none
  else none
  else none
 else some (q2, ())
def x_q.l1b (K : Nat) (a0 : x_bt) (L1 : ByteArray → (Int × Unit) → Int → Option (ByteArray × Unit)) (q4 : ByteArray) (v4 : Int × Unit) (q5 : Int) : Option (ByteArray × Unit) :=
 bif decide (q5 < 5) then bif decide ((0 : Int) ≤ q5) then bif decide (q5 < 5) then (x_ch ([a0.2.1.1, v4.1, a0.2.2.2.2.2.2.1, a0.2.1.2.2.1.1, ((a0.2.2.2.2.2.2.2.2.2.length : Nat) : Int)].getD (Int.toNat q5) 0)).bind fun v5 =>
  bif sfit (bs [32]) v5.1 then bif sfit q4 (sapp (bs [32]) v5.1) then L1 (sapp q4 (sapp (bs [32]) v5.1)) v4 (IntKind.i64.wrap (q5 + 1))
  else none
  else none
  else none
  else none
 else some (q4, ())
def x_q.l0 (K : Nat) (a0 : x_bt) : Nat → ByteArray → (Int × Unit) → Int → Option (ByteArray × Unit)
 | 0, _, _, _ => none
 | n + 1, q2, v2, q3 => x_q.l0b K a0 (x_q.l0 K a0 n) q2 v2 q3
def x_q.l1 (K : Nat) (a0 : x_bt) : Nat → ByteArray → (Int × Unit) → Int → Option (ByteArray × Unit)
 | 0, _, _, _ => none
 | n + 1, q4, v4, q5 => x_q.l1b K a0 (x_q.l1 K a0 n) q4 v4 q5
def x_q.b (K : Nat) (a0 : x_bt) (L0 : ByteArray → (Int × Unit) → Int → Option (ByteArray × Unit)) (L1 : ByteArray → (Int × Unit) → Int → Option (ByteArray × Unit)) : Option (ByteArray × Unit) :=
 (x_ku a0.2.2.1 0 2).bind fun v1 =>
 bif v1.1 then bif decide ((0 : Int) ≤ a0.2.2.1) then bif decide (a0.2.2.1 < 3) then (x_afi a0.2.1.2.2.1).bind fun v2 =>
  L0 ([(bs [102, 111, 108, 108, 111, 119, 115]), (bs [115, 116, 97, 110, 100, 115]), (bs [108, 101, 97, 100, 115])].getD (Int.toNat a0.2.2.1) ByteArray.empty) v2 0
  else none
  else none
 else (x_afi a0.2.1.2.2.1).bind fun v4 =>
 L1 ([(bs [102, 111, 108, 108, 111, 119, 115]), (bs [115, 116, 97, 110, 100, 115]), (bs [108, 101, 97, 100, 115])].getD 0 ByteArray.empty) v4 0
def x_q (K : Nat) (a0 : x_bt) : Option (ByteArray × Unit) := x_q.b K a0 (x_q.l0 K a0 K) (x_q.l1 K a0 K)
def x_ak.l0b (K : Nat) (a0 : x_r) (L0 : ByteArray → Int → Option (ByteArray × Unit)) (q0 : ByteArray) (q1 : Int) : Option (ByteArray × Unit) :=
 bif decide (q1 < ((a0.2.2.1.length : Nat) : Int)) then bif decide ((0 : Int) ≤ q1) then bif decide (q1 < ((a0.2.2.1.length : Nat) : Int)) then (x_ch q1).bind fun v1 =>
  bif sfit v1.1 (bs [32]) then (x_q K (a0.2.2.1.getD (Int.toNat q1) x_ci)).bind fun v2 =>
  bif sfit (sapp v1.1 (bs [32])) v2.1 then bif sfit (sapp (sapp v1.1 (bs [32])) v2.1) (bs [10]) then bif sfit q0 (sapp (sapp (sapp v1.1 (bs [32])) v2.1) (bs [10])) then L0 (sapp q0 (sapp (sapp (sapp v1.1 (bs [32])) v2.1) (bs [10]))) (IntKind.i64.wrap (q1 + 1))
  else none
  else none
  else none
  else none
  else none
  else none
 else bif sfit q0 (bs [110, 101, 116, 32]) then (x_ch ((a0.2.2.2.1.length : Nat) : Int)).bind fun v3 =>
 bif sfit (sapp q0 (bs [110, 101, 116, 32])) v3.1 then bif sfit (sapp (sapp q0 (bs [110, 101, 116, 32])) v3.1) (bs [32, 100, 111, 110, 101, 32]) then (x_ch ((a0.2.2.2.2.2.2.2.length : Nat) : Int)).bind fun v4 =>
 bif sfit (sapp (sapp (sapp q0 (bs [110, 101, 116, 32])) v3.1) (bs [32, 100, 111, 110, 101, 32])) v4.1 then bif sfit (sapp (sapp (sapp (sapp q0 (bs [110, 101, 116, 32])) v3.1) (bs [32, 100, 111, 110, 101, 32])) v4.1) (bs [32, 104, 101, 97, 114, 100, 32]) then (x_ch ((a0.2.2.2.2.2.2.1.length : Nat) : Int)).bind fun v5 =>
 bif sfit (sapp (sapp (sapp (sapp (sapp q0 (bs [110, 101, 116, 32])) v3.1) (bs [32, 100, 111, 110, 101, 32])) v4.1) (bs [32, 104, 101, 97, 114, 100, 32])) v5.1 then bif sfit (sapp (sapp (sapp (sapp (sapp (sapp q0 (bs [110, 101, 116, 32])) v3.1) (bs [32, 100, 111, 110, 101, 32])) v4.1) (bs [32, 104, 101, 97, 114, 100, 32])) v5.1) (bs [10]) then some (sapp (sapp (sapp (sapp (sapp (sapp (sapp q0 (bs [110, 101, 116, 32])) v3.1) (bs [32, 100, 111, 110, 101, 32])) v4.1) (bs [32, 104, 101, 97, 114, 100, 32])) v5.1) (bs [10]), ())
 else none
 else none
 else none
 else none
 else none
 else none
 else none
def x_ak.l0 (K : Nat) (a0 : x_r) : Nat → ByteArray → Int → Option (ByteArray × Unit)
 | 0, _, _ => none
 | n + 1, q0, q1 => x_ak.l0b K a0 (x_ak.l0 K a0 n) q0 q1
def x_ak.b (K : Nat) (a0 : x_r) (L0 : ByteArray → Int → Option (ByteArray × Unit)) : Option (ByteArray × Unit) :=
 L0 ByteArray.empty 0
def x_ak (K : Nat) (a0 : x_r) : Option (ByteArray × Unit) := x_ak.b K a0 (x_ak.l0 K a0 K)
def x_a7.l0b (K : Nat) (a0 : TRow) (L0 : ByteArray → Int → Option (ByteArray × Unit)) (q0 : ByteArray) (q1 : Int) : Option (ByteArray × Unit) :=
 bif decide (q1 < ((a0.2.2.length : Nat) : Int)) then bif decide ((0 : Int) ≤ q1) then bif decide (q1 < ((a0.2.2.length : Nat) : Int)) then (x_ch (a0.2.2.getD (Int.toNat q1) x_cm).1).bind fun v4 =>
  bif sfit (bs [32]) v4.1 then bif sfit (sapp (bs [32]) v4.1) (bs [58, 60]) then bif sfit (sapp (sapp (bs [32]) v4.1) (bs [58, 60])) (a0.2.2.getD (Int.toNat q1) x_cm).2.1 then bif sfit (sapp (sapp (sapp (bs [32]) v4.1) (bs [58, 60])) (a0.2.2.getD (Int.toNat q1) x_cm).2.1) (bs [62]) then bif sfit q0 (sapp (sapp (sapp (sapp (bs [32]) v4.1) (bs [58, 60])) (a0.2.2.getD (Int.toNat q1) x_cm).2.1) (bs [62])) then L0 (sapp q0 (sapp (sapp (sapp (sapp (bs [32]) v4.1) (bs [58, 60])) (a0.2.2.getD (Int.toNat q1) x_cm).2.1) (bs [62]))) (IntKind.i64.wrap (q1 + 1))
  else none
  else none
  else none
  else none
  else none
  else none
  else none
 else some (q0, ())
def x_a7.l0 (K : Nat) (a0 : TRow) : Nat → ByteArray → Int → Option (ByteArray × Unit)
 | 0, _, _ => none
 | n + 1, q0, q1 => x_a7.l0b K a0 (x_a7.l0 K a0 n) q0 q1
def x_a7.b (K : Nat) (a0 : TRow) (L0 : ByteArray → Int → Option (ByteArray × Unit)) : Option (ByteArray × Unit) :=
 (x_ch a0.1).bind fun v1 =>
 bif sfit v1.1 (bs [32]) then (x_ch a0.2.1).bind fun v2 =>
 bif sfit (sapp v1.1 (bs [32])) v2.1 then bif sfit (sapp (sapp v1.1 (bs [32])) v2.1) (bs [32]) then (x_ch ((a0.2.2.length : Nat) : Int)).bind fun v3 =>
 bif sfit (sapp (sapp (sapp v1.1 (bs [32])) v2.1) (bs [32])) v3.1 then L0 (sapp (sapp (sapp (sapp v1.1 (bs [32])) v2.1) (bs [32])) v3.1) 0
 else none
 else none
 else none
 else none
def x_a7 (K : Nat) (a0 : TRow) : Option (ByteArray × Unit) := x_a7.b K a0 (x_a7.l0 K a0 K)
def x_al.l0b (K : Nat) (a0 : Int) (L0 : Int → ByteArray → Option (ByteArray × Unit)) (q0 : Int) (q1 : ByteArray) : Option (ByteArray × Unit) :=
 bif !(decide (q0 = 0)) then bif decide ((Int.tmod q0 10) < 0) then bif sfit (x_wv [IntKind.u8.wrap (IntKind.i64.wrap (48 + (IntKind.i64.wrap (0 - (Int.tmod q0 10)))))]) q1 then L0 (IntKind.i64.wrap (Int.tdiv q0 10)) (sapp (x_wv [IntKind.u8.wrap (IntKind.i64.wrap (48 + (IntKind.i64.wrap (0 - (Int.tmod q0 10)))))]) q1)
   else none
  else bif sfit (x_wv [IntKind.u8.wrap (IntKind.i64.wrap (48 + (Int.tmod q0 10)))]) q1 then L0 (IntKind.i64.wrap (Int.tdiv q0 10)) (sapp (x_wv [IntKind.u8.wrap (IntKind.i64.wrap (48 + (Int.tmod q0 10)))]) q1)
  else none
 else bif decide (a0 < 0) then bif sfit (bs [45]) q1 then some (sapp (bs [45]) q1, ())
  else none
 else some (q1, ())
def x_al.l0 (K : Nat) (a0 : Int) : Nat → Int → ByteArray → Option (ByteArray × Unit)
 | 0, _, _ => none
 | n + 1, q0, q1 => x_al.l0b K a0 (x_al.l0 K a0 n) q0 q1
def x_al.b (K : Nat) (a0 : Int) (L0 : Int → ByteArray → Option (ByteArray × Unit)) : Option (ByteArray × Unit) :=
 bif decide (a0 = 0) then some ((bs [48]), ())
 else L0 a0 ByteArray.empty
def x_al (K : Nat) (a0 : Int) : Option (ByteArray × Unit) := x_al.b K a0 (x_al.l0 K a0 K)
def x_a5.l0b (K : Nat) (a0 : TRow) (L0 : ByteArray → Int → Option (ByteArray × Unit)) (q0 : ByteArray) (q1 : Int) : Option (ByteArray × Unit) :=
 bif decide (q1 < ((a0.2.2.length : Nat) : Int)) then bif sfit q0 (bs [32]) then bif decide ((0 : Int) ≤ q1) then bif decide (q1 < ((a0.2.2.length : Nat) : Int)) then (x_al K (a0.2.2.getD (Int.toNat q1) x_cm).1).bind fun v4 =>
  bif sfit (sapp q0 (bs [32])) v4.1 then bif sfit (sapp (sapp q0 (bs [32])) v4.1) (bs [58, 60]) then bif decide ((0 : Int) ≤ q1) then bif decide (q1 < ((a0.2.2.length : Nat) : Int)) then bif sfit (sapp (sapp (sapp q0 (bs [32])) v4.1) (bs [58, 60])) (a0.2.2.getD (Int.toNat q1) x_cm).2.1 then bif sfit (sapp (sapp (sapp (sapp q0 (bs [32])) v4.1) (bs [58, 60])) (a0.2.2.getD (Int.toNat q1) x_cm).2.1) (bs [62]) then L0 (sapp (sapp (sapp (sapp (sapp q0 (bs [32])) v4.1) (bs [58, 60])) (a0.2.2.getD (Int.toNat q1) x_cm).2.1) (bs [62])) (IntKind.i64.wrap (q1 + 1))
  else none
  else none
  else none
  else none
  else none
  else none
  else none
  else none
  else none
 else some (q0, ())
def x_a5.l0 (K : Nat) (a0 : TRow) : Nat → ByteArray → Int → Option (ByteArray × Unit)
 | 0, _, _ => none
 | n + 1, q0, q1 => x_a5.l0b K a0 (x_a5.l0 K a0 n) q0 q1
def x_a5.b (K : Nat) (a0 : TRow) (L0 : ByteArray → Int → Option (ByteArray × Unit)) : Option (ByteArray × Unit) :=
 (x_al K a0.1).bind fun v1 =>
 bif sfit v1.1 (bs [32]) then (x_al K a0.2.1).bind fun v2 =>
 bif sfit (sapp v1.1 (bs [32])) v2.1 then bif sfit (sapp (sapp v1.1 (bs [32])) v2.1) (bs [32]) then (x_al K ((a0.2.2.length : Nat) : Int)).bind fun v3 =>
 bif sfit (sapp (sapp (sapp v1.1 (bs [32])) v2.1) (bs [32])) v3.1 then L0 (sapp (sapp (sapp (sapp v1.1 (bs [32])) v2.1) (bs [32])) v3.1) 0
 else none
 else none
 else none
 else none
def x_a5 (K : Nat) (a0 : TRow) : Option (ByteArray × Unit) := x_a5.b K a0 (x_a5.l0 K a0 K)
def x_l.l0b (K : Nat) (a0 : x_o) (L0 : (List ByteArray) → Int → Option (ByteArray × Unit)) (L1 : (List ByteArray) → Int → Option (ByteArray × Unit)) (q0 : List ByteArray) (q1 : Int) : Option (ByteArray × Unit) :=
 bif decide (q1 < ((a0.2.1.length : Nat) : Int)) then bif decide ((0 : Int) ≤ q1) then bif decide (q1 < ((a0.2.1.length : Nat) : Int)) then (x_ch (a0.2.1.getD (Int.toNat q1) 0)).bind fun v2 =>
  bif decide (q1 < ((a0.2.2.1.length : Nat) : Int)) then bif decide ((0 : Int) ≤ q1) then bif decide (q1 < ((a0.2.2.1.length : Nat) : Int)) then (x_ch (a0.2.2.1.getD (Int.toNat q1) 0)).bind fun v3 =>
   bif sfit (bs [58]) v3.1 then bif sfit v2.1 (sapp (bs [58]) v3.1) then bif decide ((q0.length + [sapp v2.1 (sapp (bs [58]) v3.1)].length) * 17 ≤ x_g) then L0 (q0 ++ [sapp v2.1 (sapp (bs [58]) v3.1)]) (IntKind.i64.wrap (q1 + 1))
   else none
   else none
   else none
   else none
   else none
  else bif decide ((q0.length + [v2.1].length) * 17 ≤ x_g) then L0 (q0 ++ [v2.1]) (IntKind.i64.wrap (q1 + 1))
  else none
  else none
  else none
 else bif decide ((q0.length + [(bs [47])].length) * 17 ≤ x_g) then L1 (q0 ++ [(bs [47])]) 0
 else none
def x_l.l1b (K : Nat) (a0 : x_o) (L1 : (List ByteArray) → Int → Option (ByteArray × Unit)) (q2 : List ByteArray) (q3 : Int) : Option (ByteArray × Unit) :=
 bif decide (q3 < ((a0.2.2.2.length : Nat) : Int)) then bif decide ((0 : Int) ≤ q3) then bif decide (q3 < ((a0.2.2.2.length : Nat) : Int)) then (x_ch (a0.2.2.2.getD (Int.toNat q3) 0)).bind fun v4 =>
  bif decide ((q2.length + [v4.1].length) * 17 ≤ x_g) then L1 (q2 ++ [v4.1]) (IntKind.i64.wrap (q3 + 1))
  else none
  else none
  else none
 else (lJoin q2 (bs [32])).bind fun v5 =>
 some (v5.1, ())
def x_l.l1 (K : Nat) (a0 : x_o) : Nat → (List ByteArray) → Int → Option (ByteArray × Unit)
 | 0, _, _ => none
 | n + 1, q2, q3 => x_l.l1b K a0 (x_l.l1 K a0 n) q2 q3
def x_l.l0 (K : Nat) (a0 : x_o) : Nat → (List ByteArray) → Int → Option (ByteArray × Unit)
 | 0, _, _ => none
 | n + 1, q0, q1 => x_l.l0b K a0 (x_l.l0 K a0 n) (x_l.l1 K a0 K) q0 q1
def x_l.b (K : Nat) (a0 : x_o) (L0 : (List ByteArray) → Int → Option (ByteArray × Unit)) : Option (ByteArray × Unit) :=
 (x_ch a0.1).bind fun v1 =>
 L0 [v1.1] 0
def x_l (K : Nat) (a0 : x_o) : Option (ByteArray × Unit) := x_l.b K a0 (x_l.l0 K a0 K)
def x_m.l0b (K : Nat) (a0 : x_o) (L0 : ByteArray → Int → Option (ByteArray × Unit)) (L1 : ByteArray → Int → Option (ByteArray × Unit)) (q0 : ByteArray) (q1 : Int) : Option (ByteArray × Unit) :=
 bif decide (q1 < ((a0.2.1.length : Nat) : Int)) then bif sfit q0 (bs [32]) then bif decide ((0 : Int) ≤ q1) then bif decide (q1 < ((a0.2.1.length : Nat) : Int)) then (x_al K (a0.2.1.getD (Int.toNat q1) 0)).bind fun v2 =>
  bif sfit (sapp q0 (bs [32])) v2.1 then bif decide (q1 < ((a0.2.2.1.length : Nat) : Int)) then bif sfit (sapp (sapp q0 (bs [32])) v2.1) (bs [58]) then bif decide ((0 : Int) ≤ q1) then bif decide (q1 < ((a0.2.2.1.length : Nat) : Int)) then (x_al K (a0.2.2.1.getD (Int.toNat q1) 0)).bind fun v3 =>
   bif sfit (sapp (sapp (sapp q0 (bs [32])) v2.1) (bs [58])) v3.1 then L0 (sapp (sapp (sapp (sapp q0 (bs [32])) v2.1) (bs [58])) v3.1) (IntKind.i64.wrap (q1 + 1))
   else none
   else none
   else none
   else none
  else L0 (sapp (sapp q0 (bs [32])) v2.1) (IntKind.i64.wrap (q1 + 1))
  else none
  else none
  else none
  else none
 else bif sfit q0 (bs [32, 47]) then L1 (sapp q0 (bs [32, 47])) 0
 else none
def x_m.l1b (K : Nat) (a0 : x_o) (L1 : ByteArray → Int → Option (ByteArray × Unit)) (q2 : ByteArray) (q3 : Int) : Option (ByteArray × Unit) :=
 bif decide (q3 < ((a0.2.2.2.length : Nat) : Int)) then bif sfit q2 (bs [32]) then bif decide ((0 : Int) ≤ q3) then bif decide (q3 < ((a0.2.2.2.length : Nat) : Int)) then (x_al K (a0.2.2.2.getD (Int.toNat q3) 0)).bind fun v4 =>
  bif sfit (sapp q2 (bs [32])) v4.1 then L1 (sapp (sapp q2 (bs [32])) v4.1) (IntKind.i64.wrap (q3 + 1))
  else none
  else none
  else none
  else none
 else some (q2, ())
def x_m.l1 (K : Nat) (a0 : x_o) : Nat → ByteArray → Int → Option (ByteArray × Unit)
 | 0, _, _ => none
 | n + 1, q2, q3 => x_m.l1b K a0 (x_m.l1 K a0 n) q2 q3
def x_m.l0 (K : Nat) (a0 : x_o) : Nat → ByteArray → Int → Option (ByteArray × Unit)
 | 0, _, _ => none
 | n + 1, q0, q1 => x_m.l0b K a0 (x_m.l0 K a0 n) (x_m.l1 K a0 K) q0 q1
def x_m.b (K : Nat) (a0 : x_o) (L0 : ByteArray → Int → Option (ByteArray × Unit)) : Option (ByteArray × Unit) :=
 (x_al K a0.1).bind fun v1 =>
 L0 v1.1 0
def x_m (K : Nat) (a0 : x_o) : Option (ByteArray × Unit) := x_m.b K a0 (x_m.l0 K a0 K)
def x_kx (a0 : x_a2) : Option (ByteArray × Unit) :=
 (x_ku a0.1 0 9).bind fun v1 =>
 bif v1.1 then bif decide ((0 : Int) ≤ a0.1) then bif decide (a0.1 < 10) then bif sfit ([(bs [100, 111, 110, 101]), (bs [97, 103, 97, 105, 110]), (bs [111, 108, 100]), (bs [103, 97, 112]), (bs [102, 101, 110, 99, 101, 100]), (bs [114, 111, 119]), (bs [108, 111, 119]), (bs [101, 110, 100]), (bs [102, 117, 108, 108]), (bs [103, 114, 111, 117, 112])].getD (Int.toNat a0.1) ByteArray.empty) (bs [32]) then (x_ch a0.2.1).bind fun v2 =>
  bif sfit (sapp ([(bs [100, 111, 110, 101]), (bs [97, 103, 97, 105, 110]), (bs [111, 108, 100]), (bs [103, 97, 112]), (bs [102, 101, 110, 99, 101, 100]), (bs [114, 111, 119]), (bs [108, 111, 119]), (bs [101, 110, 100]), (bs [102, 117, 108, 108]), (bs [103, 114, 111, 117, 112])].getD (Int.toNat a0.1) ByteArray.empty) (bs [32])) v2.1 then bif sfit (sapp (sapp ([(bs [100, 111, 110, 101]), (bs [97, 103, 97, 105, 110]), (bs [111, 108, 100]), (bs [103, 97, 112]), (bs [102, 101, 110, 99, 101, 100]), (bs [114, 111, 119]), (bs [108, 111, 119]), (bs [101, 110, 100]), (bs [102, 117, 108, 108]), (bs [103, 114, 111, 117, 112])].getD (Int.toNat a0.1) ByteArray.empty) (bs [32])) v2.1) (bs [32, 60]) then bif sfit (sapp (sapp (sapp ([(bs [100, 111, 110, 101]), (bs [97, 103, 97, 105, 110]), (bs [111, 108, 100]), (bs [103, 97, 112]), (bs [102, 101, 110, 99, 101, 100]), (bs [114, 111, 119]), (bs [108, 111, 119]), (bs [101, 110, 100]), (bs [102, 117, 108, 108]), (bs [103, 114, 111, 117, 112])].getD (Int.toNat a0.1) ByteArray.empty) (bs [32])) v2.1) (bs [32, 60])) a0.2.2.1 then bif sfit (sapp (sapp (sapp (sapp ([(bs [100, 111, 110, 101]), (bs [97, 103, 97, 105, 110]), (bs [111, 108, 100]), (bs [103, 97, 112]), (bs [102, 101, 110, 99, 101, 100]), (bs [114, 111, 119]), (bs [108, 111, 119]), (bs [101, 110, 100]), (bs [102, 117, 108, 108]), (bs [103, 114, 111, 117, 112])].getD (Int.toNat a0.1) ByteArray.empty) (bs [32])) v2.1) (bs [32, 60])) a0.2.2.1) (bs [62, 32, 60]) then bif sfit (sapp (sapp (sapp (sapp (sapp ([(bs [100, 111, 110, 101]), (bs [97, 103, 97, 105, 110]), (bs [111, 108, 100]), (bs [103, 97, 112]), (bs [102, 101, 110, 99, 101, 100]), (bs [114, 111, 119]), (bs [108, 111, 119]), (bs [101, 110, 100]), (bs [102, 117, 108, 108]), (bs [103, 114, 111, 117, 112])].getD (Int.toNat a0.1) ByteArray.empty) (bs [32])) v2.1) (bs [32, 60])) a0.2.2.1) (bs [62, 32, 60])) a0.2.2.2 then bif sfit (sapp (sapp (sapp (sapp (sapp (sapp ([(bs [100, 111, 110, 101]), (bs [97, 103, 97, 105, 110]), (bs [111, 108, 100]), (bs [103, 97, 112]), (bs [102, 101, 110, 99, 101, 100]), (bs [114, 111, 119]), (bs [108, 111, 119]), (bs [101, 110, 100]), (bs [102, 117, 108, 108]), (bs [103, 114, 111, 117, 112])].getD (Int.toNat a0.1) ByteArray.empty) (bs [32])) v2.1) (bs [32, 60])) a0.2.2.1) (bs [62, 32, 60])) a0.2.2.2) (bs [62]) then some (sapp (sapp (sapp (sapp (sapp (sapp (sapp ([(bs [100, 111, 110, 101]), (bs [97, 103, 97, 105, 110]), (bs [111, 108, 100]), (bs [103, 97, 112]), (bs [102, 101, 110, 99, 101, 100]), (bs [114, 111, 119]), (bs [108, 111, 119]), (bs [101, 110, 100]), (bs [102, 117, 108, 108]), (bs [103, 114, 111, 117, 112])].getD (Int.toNat a0.1) ByteArray.empty) (bs [32])) v2.1) (bs [32, 60])) a0.2.2.1) (bs [62, 32, 60])) a0.2.2.2) (bs [62]), ())
  else none
  else none
  else none
  else none
  else none
  else none
  else none
  else none
  else none
 else bif sfit (bs [110, 111, 110, 101]) (bs [32]) then (x_ch a0.2.1).bind fun v3 =>
 bif sfit (sapp (bs [110, 111, 110, 101]) (bs [32])) v3.1 then bif sfit (sapp (sapp (bs [110, 111, 110, 101]) (bs [32])) v3.1) (bs [32, 60]) then bif sfit (sapp (sapp (sapp (bs [110, 111, 110, 101]) (bs [32])) v3.1) (bs [32, 60])) a0.2.2.1 then bif sfit (sapp (sapp (sapp (sapp (bs [110, 111, 110, 101]) (bs [32])) v3.1) (bs [32, 60])) a0.2.2.1) (bs [62, 32, 60]) then bif sfit (sapp (sapp (sapp (sapp (sapp (bs [110, 111, 110, 101]) (bs [32])) v3.1) (bs [32, 60])) a0.2.2.1) (bs [62, 32, 60])) a0.2.2.2 then bif sfit (sapp (sapp (sapp (sapp (sapp (sapp (bs [110, 111, 110, 101]) (bs [32])) v3.1) (bs [32, 60])) a0.2.2.1) (bs [62, 32, 60])) a0.2.2.2) (bs [62]) then some (sapp (sapp (sapp (sapp (sapp (sapp (sapp (bs [110, 111, 110, 101]) (bs [32])) v3.1) (bs [32, 60])) a0.2.2.1) (bs [62, 32, 60])) a0.2.2.2) (bs [62]), ())
 else none
 else none
 else none
 else none
 else none
 else none
 else none
def x_kn (K : Nat) (a0 : x_a2) : Option (ByteArray × Unit) :=
 (x_a4 a0.1 0 9).bind fun v1 =>
 bif v1.1 then bif decide ((0 : Int) ≤ a0.1) then bif decide (a0.1 < 10) then bif sfit ([(bs [100, 111, 110, 101]), (bs [97, 103, 97, 105, 110]), (bs [111, 108, 100]), (bs [103, 97, 112]), (bs [102, 101, 110, 99, 101, 100]), (bs [114, 111, 119]), (bs [108, 111, 119]), (bs [101, 110, 100]), (bs [102, 117, 108, 108]), (bs [103, 114, 111, 117, 112])].getD (Int.toNat a0.1) ByteArray.empty) (bs [32]) then (x_al K a0.2.1).bind fun v2 =>
  bif sfit (sapp ([(bs [100, 111, 110, 101]), (bs [97, 103, 97, 105, 110]), (bs [111, 108, 100]), (bs [103, 97, 112]), (bs [102, 101, 110, 99, 101, 100]), (bs [114, 111, 119]), (bs [108, 111, 119]), (bs [101, 110, 100]), (bs [102, 117, 108, 108]), (bs [103, 114, 111, 117, 112])].getD (Int.toNat a0.1) ByteArray.empty) (bs [32])) v2.1 then bif sfit (sapp (sapp ([(bs [100, 111, 110, 101]), (bs [97, 103, 97, 105, 110]), (bs [111, 108, 100]), (bs [103, 97, 112]), (bs [102, 101, 110, 99, 101, 100]), (bs [114, 111, 119]), (bs [108, 111, 119]), (bs [101, 110, 100]), (bs [102, 117, 108, 108]), (bs [103, 114, 111, 117, 112])].getD (Int.toNat a0.1) ByteArray.empty) (bs [32])) v2.1) (bs [32, 60]) then bif sfit (sapp (sapp (sapp ([(bs [100, 111, 110, 101]), (bs [97, 103, 97, 105, 110]), (bs [111, 108, 100]), (bs [103, 97, 112]), (bs [102, 101, 110, 99, 101, 100]), (bs [114, 111, 119]), (bs [108, 111, 119]), (bs [101, 110, 100]), (bs [102, 117, 108, 108]), (bs [103, 114, 111, 117, 112])].getD (Int.toNat a0.1) ByteArray.empty) (bs [32])) v2.1) (bs [32, 60])) a0.2.2.1 then bif sfit (sapp (sapp (sapp (sapp ([(bs [100, 111, 110, 101]), (bs [97, 103, 97, 105, 110]), (bs [111, 108, 100]), (bs [103, 97, 112]), (bs [102, 101, 110, 99, 101, 100]), (bs [114, 111, 119]), (bs [108, 111, 119]), (bs [101, 110, 100]), (bs [102, 117, 108, 108]), (bs [103, 114, 111, 117, 112])].getD (Int.toNat a0.1) ByteArray.empty) (bs [32])) v2.1) (bs [32, 60])) a0.2.2.1) (bs [62, 32, 60]) then bif sfit (sapp (sapp (sapp (sapp (sapp ([(bs [100, 111, 110, 101]), (bs [97, 103, 97, 105, 110]), (bs [111, 108, 100]), (bs [103, 97, 112]), (bs [102, 101, 110, 99, 101, 100]), (bs [114, 111, 119]), (bs [108, 111, 119]), (bs [101, 110, 100]), (bs [102, 117, 108, 108]), (bs [103, 114, 111, 117, 112])].getD (Int.toNat a0.1) ByteArray.empty) (bs [32])) v2.1) (bs [32, 60])) a0.2.2.1) (bs [62, 32, 60])) a0.2.2.2 then bif sfit (sapp (sapp (sapp (sapp (sapp (sapp ([(bs [100, 111, 110, 101]), (bs [97, 103, 97, 105, 110]), (bs [111, 108, 100]), (bs [103, 97, 112]), (bs [102, 101, 110, 99, 101, 100]), (bs [114, 111, 119]), (bs [108, 111, 119]), (bs [101, 110, 100]), (bs [102, 117, 108, 108]), (bs [103, 114, 111, 117, 112])].getD (Int.toNat a0.1) ByteArray.empty) (bs [32])) v2.1) (bs [32, 60])) a0.2.2.1) (bs [62, 32, 60])) a0.2.2.2) (bs [62]) then some (sapp (sapp (sapp (sapp (sapp (sapp (sapp ([(bs [100, 111, 110, 101]), (bs [97, 103, 97, 105, 110]), (bs [111, 108, 100]), (bs [103, 97, 112]), (bs [102, 101, 110, 99, 101, 100]), (bs [114, 111, 119]), (bs [108, 111, 119]), (bs [101, 110, 100]), (bs [102, 117, 108, 108]), (bs [103, 114, 111, 117, 112])].getD (Int.toNat a0.1) ByteArray.empty) (bs [32])) v2.1) (bs [32, 60])) a0.2.2.1) (bs [62, 32, 60])) a0.2.2.2) (bs [62]), ())
  else none
  else none
  else none
  else none
  else none
  else none
  else none
  else none
  else none
 else bif sfit (bs [110, 111, 110, 101]) (bs [32]) then (x_al K a0.2.1).bind fun v3 =>
 bif sfit (sapp (bs [110, 111, 110, 101]) (bs [32])) v3.1 then bif sfit (sapp (sapp (bs [110, 111, 110, 101]) (bs [32])) v3.1) (bs [32, 60]) then bif sfit (sapp (sapp (sapp (bs [110, 111, 110, 101]) (bs [32])) v3.1) (bs [32, 60])) a0.2.2.1 then bif sfit (sapp (sapp (sapp (sapp (bs [110, 111, 110, 101]) (bs [32])) v3.1) (bs [32, 60])) a0.2.2.1) (bs [62, 32, 60]) then bif sfit (sapp (sapp (sapp (sapp (sapp (bs [110, 111, 110, 101]) (bs [32])) v3.1) (bs [32, 60])) a0.2.2.1) (bs [62, 32, 60])) a0.2.2.2 then bif sfit (sapp (sapp (sapp (sapp (sapp (sapp (bs [110, 111, 110, 101]) (bs [32])) v3.1) (bs [32, 60])) a0.2.2.1) (bs [62, 32, 60])) a0.2.2.2) (bs [62]) then some (sapp (sapp (sapp (sapp (sapp (sapp (sapp (bs [110, 111, 110, 101]) (bs [32])) v3.1) (bs [32, 60])) a0.2.2.1) (bs [62, 32, 60])) a0.2.2.2) (bs [62]), ())
 else none
 else none
 else none
 else none
 else none
 else none
 else none
def x_7.j0 (K : Nat) (L0 : ByteArray → (Int × Int × Unit) → Int → Option (ByteArray × Unit)) (a0 : x_bt) (p1 : ByteArray) : Option (ByteArray × Unit) :=
 (x_cs a0.2.1.2.2.1).bind fun v2 =>
 L0 p1 v2 0
def x_7.l0b (K : Nat) (a0 : x_bt) (L0 : ByteArray → (Int × Int × Unit) → Int → Option (ByteArray × Unit)) (q2 : ByteArray) (v2 : Int × Int × Unit) (q3 : Int) : Option (ByteArray × Unit) :=
 bif decide (q3 < 5) then bif sfit q2 (bs [32]) then bif decide ((0 : Int) ≤ q3) then bif decide (q3 < 5) then (x_al K ([a0.2.1.1, v2.1, a0.2.2.2.2.2.2.1, a0.2.1.2.2.1.1, ((a0.2.2.2.2.2.2.2.2.2.length : Nat) : Int)].getD (Int.toNat q3) 0)).bind fun v3 =>
  bif sfit (sapp q2 (bs [32])) v3.1 then L0 (sapp (sapp q2 (bs [32])) v3.1) v2 (IntKind.i64.wrap (q3 + 1))
  else none
  else none
  else none
  else none
 else some (q2, ())
def x_7.l0 (K : Nat) (a0 : x_bt) : Nat → ByteArray → (Int × Int × Unit) → Int → Option (ByteArray × Unit)
 | 0, _, _, _ => none
 | n + 1, q2, v2, q3 => x_7.l0b K a0 (x_7.l0 K a0 n) q2 v2 q3
def x_7.b (K : Nat) (a0 : x_bt) (L0 : ByteArray → (Int × Int × Unit) → Int → Option (ByteArray × Unit)) : Option (ByteArray × Unit) :=
 bif decide (a0.2.2.1 = 1) then x_7.j0 K L0 a0 (bs [115, 116, 97, 110, 100, 115])
 else bif decide (a0.2.2.1 = 2) then x_7.j0 K L0 a0 (bs [108, 101, 97, 100, 115])
 else x_7.j0 K L0 a0 (bs [102, 111, 108, 108, 111, 119, 115])
def x_7 (K : Nat) (a0 : x_bt) : Option (ByteArray × Unit) := x_7.b K a0 (x_7.l0 K a0 K)
def x_aj.l0b (K : Nat) (a0 : x_r) (L0 : ByteArray → Int → Option (ByteArray × Unit)) (q0 : ByteArray) (q1 : Int) : Option (ByteArray × Unit) :=
 bif decide (q1 < ((a0.2.2.1.length : Nat) : Int)) then (x_al K q1).bind fun v1 =>
  bif sfit q0 v1.1 then bif sfit (sapp q0 v1.1) (bs [32]) then bif decide ((0 : Int) ≤ q1) then bif decide (q1 < ((a0.2.2.1.length : Nat) : Int)) then (x_7 K (a0.2.2.1.getD (Int.toNat q1) x_ci)).bind fun v2 =>
  bif sfit (sapp (sapp q0 v1.1) (bs [32])) v2.1 then bif sfit (sapp (sapp (sapp q0 v1.1) (bs [32])) v2.1) (bs [10]) then L0 (sapp (sapp (sapp (sapp q0 v1.1) (bs [32])) v2.1) (bs [10])) (IntKind.i64.wrap (q1 + 1))
  else none
  else none
  else none
  else none
  else none
  else none
 else bif sfit q0 (bs [110, 101, 116, 32]) then (x_al K ((a0.2.2.2.1.length : Nat) : Int)).bind fun v3 =>
 bif sfit (sapp q0 (bs [110, 101, 116, 32])) v3.1 then bif sfit (sapp (sapp q0 (bs [110, 101, 116, 32])) v3.1) (bs [32, 100, 111, 110, 101, 32]) then (x_al K ((a0.2.2.2.2.2.2.2.length : Nat) : Int)).bind fun v4 =>
 bif sfit (sapp (sapp (sapp q0 (bs [110, 101, 116, 32])) v3.1) (bs [32, 100, 111, 110, 101, 32])) v4.1 then bif sfit (sapp (sapp (sapp (sapp q0 (bs [110, 101, 116, 32])) v3.1) (bs [32, 100, 111, 110, 101, 32])) v4.1) (bs [32, 104, 101, 97, 114, 100, 32]) then (x_al K ((a0.2.2.2.2.2.2.1.length : Nat) : Int)).bind fun v5 =>
 bif sfit (sapp (sapp (sapp (sapp (sapp q0 (bs [110, 101, 116, 32])) v3.1) (bs [32, 100, 111, 110, 101, 32])) v4.1) (bs [32, 104, 101, 97, 114, 100, 32])) v5.1 then bif sfit (sapp (sapp (sapp (sapp (sapp (sapp q0 (bs [110, 101, 116, 32])) v3.1) (bs [32, 100, 111, 110, 101, 32])) v4.1) (bs [32, 104, 101, 97, 114, 100, 32])) v5.1) (bs [10]) then some (sapp (sapp (sapp (sapp (sapp (sapp (sapp q0 (bs [110, 101, 116, 32])) v3.1) (bs [32, 100, 111, 110, 101, 32])) v4.1) (bs [32, 104, 101, 97, 114, 100, 32])) v5.1) (bs [10]), ())
 else none
 else none
 else none
 else none
 else none
 else none
 else none
def x_aj.l0 (K : Nat) (a0 : x_r) : Nat → ByteArray → Int → Option (ByteArray × Unit)
 | 0, _, _ => none
 | n + 1, q0, q1 => x_aj.l0b K a0 (x_aj.l0 K a0 n) q0 q1
def x_aj.b (K : Nat) (a0 : x_r) (L0 : ByteArray → Int → Option (ByteArray × Unit)) : Option (ByteArray × Unit) :=
 L0 ByteArray.empty 0
def x_aj (K : Nat) (a0 : x_r) : Option (ByteArray × Unit) := x_aj.b K a0 (x_aj.l0 K a0 K)
def x_s0 (K : Nat) (a0 : List Int) : Option (Bool × Unit) :=
 (l_big a0).bind fun v1 =>
 bif v1.1 then some (true, ())
 else (x_in K a0).bind fun v2 =>
 (x_go K a0).bind fun v3 =>
 (x_fq K a0).bind fun v4 =>
 (x_g9 K a0).bind fun v5 =>
 (x_gp K a0).bind fun v6 =>
 (x_ak K v6.1).bind fun v7 =>
 (x_a7 K v2.1).bind fun v8 =>
 (x_a5 K v2.1).bind fun v9 =>
 bif !(decide (v8.1.data.toList = v9.1.data.toList)) then some (false, ())
 else (x_l K v3.1).bind fun v10 =>
 (x_m K v3.1).bind fun v11 =>
 bif !(decide (v10.1.data.toList = v11.1.data.toList)) then some (false, ())
 else (x_kx v4.1).bind fun v12 =>
 (x_kn K v4.1).bind fun v13 =>
 bif !(decide (v12.1.data.toList = v13.1.data.toList)) then some (false, ())
 else (x_q K v5.1).bind fun v14 =>
 (x_7 K v5.1).bind fun v15 =>
 bif !(decide (v14.1.data.toList = v15.1.data.toList)) then some (false, ())
 else (x_aj K v6.1).bind fun v16 =>
 bif !(decide (v7.1.data.toList = v16.1.data.toList)) then some (false, ())
 else bif decide (((v7.1.size : Nat) : Int) > 0) then bif decide ((0 : Int) ≤ (IntKind.i64.wrap (((v7.1.size : Nat) : Int) - 1))) then bif decide ((IntKind.i64.wrap (((v7.1.size : Nat) : Int) - 1)) < ((v7.1.size : Nat) : Int)) then some (decide ((x_jc v7.1 (IntKind.i64.wrap (((v7.1.size : Nat) : Int) - 1))) = 10), ())
  else none
  else none
 else some (false, ())
end Go.Proofs.YtkdamnchchhjeaaGreatDoor.Fs
