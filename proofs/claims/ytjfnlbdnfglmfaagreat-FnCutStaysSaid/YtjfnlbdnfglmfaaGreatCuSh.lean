/- What the functions compute, over plain values. -/
import Derived.Test.YtjfnlbdnfglmfaaGreatKc
set_option linter.all false
set_option maxRecDepth 100000
namespace Go.Proofs.YtjfnlbdnfglmfaaGreat.Cu
open Go Go.Kn
abbrev x_ar:=Int×(List Int)×(List Int)×(List Int)
@[reducible] def x_bh:ET:=(.p (.i .i64) (.p (.sl (.i .i64)) (.p (.sl (.i .i64)) (.sl (.i .i64)))))
def x_bv:x_ar:=(0,[],[],[])
abbrev x_dl:=Int×Int×ByteArray×ByteArray
@[reducible] def x_bz:ET:=(.p (.i .i64) (.p (.i .i64) (.p .s .s)))
def x_b7:x_dl:=(0,0,ByteArray.empty,ByteArray.empty)
def x_wi (v w:x_dl):Bool:=eqv x_bz v w
abbrev TCmd:=Int×Int×Int×Int×x_dl
@[reducible] def eCmd:ET:=(.p (.i .i64) (.p (.i .i64) (.p (.i .i64) (.p (.i .i64) x_bz))))
def zCmd:TCmd:=(0,0,0,0,x_b7)
def qCmd (v w:TCmd):Bool:=eqv eCmd v w
abbrev x_c6:=Int×TCmd
@[reducible] def x_dp:ET:=(.p (.i .i64) eCmd)
def x_ay:x_c6:=(0,zCmd)
def x_t7 (v w:x_c6):Bool:=eqv x_dp v w
abbrev TLog:=Int×Int×(List x_c6)
@[reducible] def eLog:ET:=(.p (.i .i64) (.p (.i .i64) (.sl x_dp)))
def zLog:TLog:=(0,0,[])
abbrev x_q3:=Int×Int
@[reducible] def x_rv:ET:=(.p (.i .i64) (.i .i64))
def x_ie:x_q3:=(0,0)
def qMark (v w:x_q3):Bool:=eqv x_rv v w
abbrev x_l9:=Int×ByteArray×ByteArray×x_q3
@[reducible] def x_sl:ET:=(.p (.i .i64) (.p .s (.p .s x_rv)))
def x_ce:x_l9:=(0,ByteArray.empty,ByteArray.empty,x_ie)
def qItem (v w:x_l9):Bool:=eqv x_sl v w
abbrev TRow:=Int×Int×(List x_l9)
@[reducible] def eRow:ET:=(.p (.i .i64) (.p (.i .i64) (.sl x_sl)))
def zRow:TRow:=(0,0,[])
abbrev x_at:=Int×Int×Int×Int×(List x_q3)
@[reducible] def x_bs:ET:=(.p (.i .i64) (.p (.i .i64) (.p (.i .i64) (.p (.i .i64) (.sl x_rv)))))
def x_bb:x_at:=(0,0,0,0,[])
abbrev x_ai:=(List TRow)×(List x_at)×(List x_ar)×Int×(List Int)×(List x_dl)
@[reducible] def x_dg:ET:=(.p (.sl eRow) (.p (.sl x_bs) (.p (.sl x_bh) (.p (.i .i64) (.p (.sl (.i .i64)) (.sl x_bz))))))
def zKeep:x_ai:=([],[],[],0,[],[])
abbrev x_dh:=Int×Int×TLog×x_ai
@[reducible] def x_it:ET:=(.p (.i .i64) (.p (.i .i64) (.p eLog x_dg)))
def zHard:x_dh:=(0,0,zLog,zKeep)
abbrev x_pu:=(List Int)×Int
@[reducible] def x_ty:ET:=(.p (.sl (.i .u8)) (.i .i64))
def zDisk:x_pu:=([],0)
abbrev TRpc:=Int×Int×Int×Int×Int×Int×Int×(List x_c6)×Bool×ByteArray
@[reducible] def eRpc:ET:=(.p (.i .i64) (.p (.i .i64) (.p (.i .i64) (.p (.i .i64) (.p (.i .i64) (.p (.i .i64) (.p (.i .i64) (.p (.sl x_dp) (.p .b .s)))))))))
def zRpc:TRpc:=(0,0,0,0,0,0,0,[],false,ByteArray.empty)
abbrev x_bq:=Int×x_dh×Int×(List Bool)×(List Int)×(List Int)×Int×x_ai×x_pu×(List TRpc)
@[reducible] def x_gb:ET:=(.p (.i .i64) (.p x_it (.p (.i .i64) (.p (.sl .b) (.p (.sl (.i .i64)) (.p (.sl (.i .i64)) (.p (.i .i64) (.p x_dg (.p x_ty (.sl eRpc))))))))))
def x_bx:x_bq:=(0,zHard,0,[],[],[],0,zKeep,zDisk,[])
abbrev x_kc:=Int×Int×x_c6
@[reducible] def x_o8:ET:=(.p (.i .i64) (.p (.i .i64) x_dp))
abbrev x_sz:=Int×Int×x_dl×x_q3
@[reducible] def x_mg:ET:=(.p (.i .i64) (.p (.i .i64) (.p x_bz x_rv)))
def x_ik:x_sz:=(0,0,x_b7,x_ie)
def qHeard (v w:x_sz):Bool:=eqv x_mg v w
abbrev x_df:=Int×Int×Int×Int×(List x_c6)×ByteArray
@[reducible] def x_ld:ET:=(.p (.i .i64) (.p (.i .i64) (.p (.i .i64) (.p (.i .i64) (.p (.sl x_dp) .s)))))
def zNote:x_df:=(0,0,0,0,[],ByteArray.empty)
abbrev x_6:=(List Int)×x_q3
@[reducible] def x_ei:ET:=(.p (.sl (.i .u8)) x_rv)
abbrev x_d:=Int×Int×x_q3
@[reducible] def x_bt:ET:=(.p (.i .i64) (.p (.i .i64) x_rv))
abbrev x_u:=x_d×Int×(List x_bq)×(List TRpc)×(List TCmd)×(List Int)×(List x_sz)×(List TCmd)
@[reducible] def x_be:ET:=(.p x_bt (.p (.i .i64) (.p (.sl x_gb) (.p (.sl eRpc) (.p (.sl eCmd) (.p (.sl (.i .i64)) (.p (.sl x_mg) (.sl eCmd))))))))
abbrev x_h:=(List Int)×Int×Bool
@[reducible] def x_dn:ET:=(.p (.sl (.i .u8)) (.p (.i .i64) .b))
abbrev x_c7:=x_d×Int×x_bq×Bool
@[reducible] def x_e7:ET:=(.p x_bt (.p (.i .i64) (.p x_gb .b)))
abbrev y0:=List Int
abbrev y1:=x_c7
abbrev y2:=ByteArray
abbrev y3:=List TRpc
abbrev y4:=List TRow
abbrev y5:=List TCmd
abbrev y6:=List x_bq
abbrev y7:=Int×Unit
abbrev y8:=List x_l9
abbrev y9:=List x_q3
abbrev y10:=List x_df
abbrev y11:=Bool×Unit
abbrev y12:=List x_ar
abbrev y13:=List x_at
abbrev y14:=List x_c6
abbrev y15:=TLog×Unit
abbrev y16:=TRow×Unit
abbrev y17:=List x_sz
abbrev y18:=x_ai×Unit
abbrev y19:=x_dh×Unit
abbrev y20:=x_pu×Unit
abbrev y21:=List x_dl
abbrev y22:=x_6×Unit
abbrev y23:=x_ar×Unit
abbrev y24:=x_at×Unit
abbrev y25:=x_u×Unit
abbrev y26:=x_h×Unit
abbrev y27:=x_c7×Unit
abbrev y28:=List (List Int)
abbrev y29:=Int×Int×Unit
abbrev y30:=Int→Option y11
abbrev y31:=(List Int)×Unit
abbrev y32:=Int→Option y7
abbrev y33:=Int→Option y24
abbrev y34:=Int→Option y29
abbrev y35:=Int→Option (x_l9×Int×Unit)
abbrev y36:=Int→Option y27
abbrev y37:=Int×TRpc×Unit
abbrev y38:=(List TRpc)×Unit
abbrev y39:=TLog×Bool×Unit
abbrev y40:=x_l9×Int×Unit
abbrev y41:=Int×x_6×Unit
abbrev y42:=x_bq×Bool×Unit
abbrev y43:=x_ai×Bool×Unit
abbrev y44:=x_u×Int×Unit
abbrev y45:=Int×x_d×Unit
abbrev y46:=Int×x_u×Unit
abbrev y47:=x_u×Bool×Unit
abbrev y48:=TCmd×x_6×Unit
abbrev y49:=Bool×x_6×Unit
abbrev y50:=Int×x_h×Unit
abbrev y51:=(List x_at)×Unit
abbrev y52:=TRow×x_6×Unit
abbrev y53:=x_kc×x_6×Unit
abbrev y54:=TRow×x_h×Unit
abbrev y55:=x_h×TRow×Unit
abbrev y56:=Int→Int→Option y22
abbrev y57:=x_d×x_6×Unit
abbrev y58:=Int→y12→Option y18
abbrev y59:=Int→Int→Option y11
abbrev y60:=x_ai×x_h×Unit
abbrev y61:=Int→y23→Option y23
abbrev y62:=x_ai×x_dl×Unit
abbrev y63:=x_df×x_h×Unit
abbrev y64:=x_at×x_6×Unit
abbrev y65:=Int×Int×Int×Unit
abbrev y66:=x_h×x_df×Unit
abbrev y67:=x_h×x_ai×Unit
abbrev y68:=y0→Int→Option y31
abbrev y69:=y29→Int→Option y11
abbrev y70:=Int→y4→Option y18
abbrev y71:=Int→y0→Option y31
abbrev y72:=Int×Int×Bool×Unit
abbrev y73:=Int→Int→Option y72
abbrev y74:=x_at×x_h×Unit
abbrev y75:=x_ar×x_h×Unit
abbrev y76:=Int→Int→Option y27
abbrev y77:=Int→Int→Option y31
abbrev y78:=x_h×x_at×Unit
abbrev y79:=x_h×x_ar×Unit
abbrev y80:=Int→y6→Option y47
abbrev y81:=y3→Int→Option y38
abbrev y82:=Int→y8→Option y16
abbrev y83:=Int×Int×x_bq×Unit
abbrev y84:=y13→Int→Option y51
abbrev y85:=Int→y6→Option y25
abbrev y86:=y31→Int→Option y31
abbrev y87:=(List x_df)×Int×Unit
abbrev y88:=Int→y5→Option y25
abbrev y89:=y41→TRow→Option y52
abbrev y90:=Int→TRpc→Option y37
abbrev y91:=y10→Int→Option y87
abbrev y92:=(List Int)×x_6×Unit
abbrev y93:=(List TCmd)×x_6×Unit
abbrev y94:=Int→x_d→Option y45
abbrev y95:=Int→x_u→Option y46
abbrev y96:=x_ar×Int×x_6×Unit
abbrev y97:=Int→Int→Int→Option y7
abbrev y98:=ByteArray×Int×Bool×Unit
abbrev y99:=Int→y0→y0→Option y27
abbrev y100:=Bool→Int→y23→Option y23
abbrev y101:=Int→Int→Int→Option y27
abbrev y102:=y0→Int→Int→Option y31
abbrev y103:=(List x_c6)×x_6×Unit
abbrev y104:=x_ai×(List x_dl)×Unit
abbrev y105:=Int→y4→y12→Option y18
abbrev y106:=Int→y4→y13→Option y18
abbrev y107:=Int→y12→y7→Option y62
abbrev y108:=x_d×x_ai×x_6×Unit
abbrev y109:=x_d×x_dh×x_6×Unit
abbrev y110:=Int→Int→Int→Option y65
abbrev y111:=Int→y6→y38→Option y25
abbrev y112:=Int→y15→y14→Option y39
abbrev y113:=y13→Bool→Int→Option y51
abbrev y114:=Int→y16→y8→Option y16
abbrev y115:=x_h×x_ai×x_d×Unit
abbrev y116:=y29→Int→x_ai→Option y27
abbrev y117:=y87→Int→y19→Option y19
abbrev y118:=Int→Int→x_bq→Option y83
abbrev y119:=y21→Int→x_ai→Option y104
abbrev y120:=y0→Int→x_6→Option y92
abbrev y121:=y7→y41→Int→y41→Option y53
abbrev y122:=y7→y41→Int→Int→Option y53
abbrev y123:=Int→y4→y13→y12→Option y18
abbrev y124:=y8→Int→Int→y16→Option y16
abbrev y125:=Int→y22→y57→y19→Option y109
abbrev y126:=y50→Int→y26→y4→Option y60
abbrev y127:=y5→y41→Int→y22→Option y93
abbrev y128:=y50→Int→y26→TRow→Option y55
abbrev y129:=y50→Int→y26→x_df→Option y66
abbrev y130:=y50→Int→y26→x_ai→Option y67
abbrev y131:=y50→Int→y26→x_at→Option y78
abbrev y132:=y50→Int→y26→x_ar→Option y79
abbrev y133:=Int→x_h→y79→y0→Option y75
abbrev y134:=Int→y14→y41→Int→y22→Option y103
abbrev y135:=y29→Int→y27→Int→(List Bool)→Option y42
abbrev y136:=y50→Int→y26→y4→y13→Option y60
abbrev y137:=y41→Int→Int→y41→x_ar→Option y96
abbrev y138:=x_u×(List x_kc)×x_u×x_6×Unit
abbrev y139:=Int→y50→y50→y0→y0→y0→Option y75
abbrev y140:=y41→Int→y41→Int→Int→y8→Option y52
abbrev y141:=y50→Int→y26→x_ai→x_d→Option y115
abbrev y142:=y50→Int→y50→y50→y0→y0→Option y75
abbrev y143:=y50→Int→y26→y4→y13→y12→Option y60
abbrev y144:=y50→Int→y50→y50→y50→y8→Option y54
abbrev y145:=Int→y115→y50→y0→y21→y26→Option y43
abbrev y146:=y47→(List x_kc)→y41→Int→y22→x_u→Option y138
abbrev y147:=Int→y41→Int→Int→Int→Int→y9→Option y64
abbrev y148:=Int→y26→y4→y13→y12→y50→y0→y21→Option y60
abbrev y149:=y50→Int→y50→y50→y50→y50→y50→y9→Option y74
abbrev y150:=y50→Int→y26→y50→y50→y50→y50→y14→Option y63
def l_big (a0:y0):Option y11:=
 some (decide ((a0.length:Int)>1048576),())
def x_fe.l0b (K:Nat) (a0:y0) (L0:y56) (q0:Int) (q1:Int):Option y22:=
 it (q1<a0.length) (it (q1<4000) (ix q1 a0<|L0 (i6 (ban (i6 ((i6 ((i6 (q0*131))+(i6 (a0.getD q1.toNat 0))))+7)) 1073741823)) (i6 (q1+1)))<|some ((a0,0,q0),()))<|some ((a0,0,q0),())
def x_fe.l0 (K:Nat) (a0:y0):Nat→y56:=lp2 (x_fe.l0b K a0)
def x_fe.b (K:Nat) (a0:y0) (L0:y56):Option y22:=
 L0 (i6 (24548+(a0.length:Int))) 0
def x_fe (K:Nat) (a0:y0):Option y22:=x_fe.b K a0 (x_fe.l0 K a0 K)
def x_i2 (a0:x_6):Option y41:=
 it (a0.2.1<a0.1.length) (ix a0.2.1 a0.1<|some (i6 (ban (i6 ((i6 (ban (i6 (bxo (Int.fdiv (i6 ((i6 (a0.2.2*6364136223846793005))+1442695040888963407)) (2 ^ 33)) (Int.fdiv (i6 ((i6 (a0.2.2*6364136223846793005))+1442695040888963407)) (2 ^ 45)))) 255))+(i6 (a0.1.getD a0.2.1.toNat 0)))) 255),(a0.1,i6 (a0.2.1+1),i6 ((i6 (a0.2.2*6364136223846793005))+1442695040888963407)),()))<|some (i6 (ban (i6 (bxo (Int.fdiv (i6 ((i6 (a0.2.2*6364136223846793005))+1442695040888963407)) (2 ^ 33)) (Int.fdiv (i6 ((i6 (a0.2.2*6364136223846793005))+1442695040888963407)) (2 ^ 45)))) 255),(a0.1,a0.2.1,i6 ((i6 (a0.2.2*6364136223846793005))+1442695040888963407)),())
def x_k (a0:x_6) (a1:Int):Option y41:=
 it (a1≤0) (some (0,a0,()))<|it (a1≤256) ((x_i2 a0).bind fun v1=>ck (a1≠0)<|some (Int.tmod v1.1 a1,v1.2.1,()))<|(x_i2 a0).bind fun v2=>(x_i2 v2.2.1).bind fun v3=>(x_i2 v3.2.1).bind fun v4=>(x_i2 v4.2.1).bind fun v5=>ck (a1≠0)<|some (Int.tmod (i6 ((i6 ((i6 ((i6 (v2.1*16777216))+(i6 (v3.1*65536))))+(i6 (v4.1*256))))+v5.1)) a1,v5.2.1,())
def x_7 (a0:x_6) (a1:y0):Option y41:=
 (x_k a0 (a1.length:Int)).bind fun v1=>ix v1.1 a1<|some (a1.getD v1.1.toNat 0,v1.2.1,())
def x_eq (a0:x_6):Option y57:=
 (x_k a0 3).bind fun v1=>(x_7 v1.2.1 [1,2,5]).bind fun v2=>(x_7 v2.2.1 [1,2,3,8]).bind fun v3=>(x_7 v3.2.1 [0,1,3,10]).bind fun v4=>some ((i6 (1+v1.1),v2.1,v3.1,v4.1),v4.2.1,())
def x_bj (a0:Int) (a1:Int) (a2:Int):Option y11:=
 it (a0≥a1) (some (decide (a0≤a2),()))<|some (false,())
def x_ft (a0:x_d):Option y11:=
 (x_bj a0.1 1 4).bind fun v1=>cond v1.1 ((x_bj a0.2.1 1 5).bind fun v2=>cond v2.1 ((x_bj a0.2.2.1 1 8).bind fun v3=>cond v3.1 ((x_bj a0.2.2.2 0 60).bind fun v4=>some (v4.1,()))<|some (false,()))<|some (false,()))<|some (false,())
def x_im (a0:Int):Option y23:=
 (x_bj a0 1 4).bind fun v1=>cond (!v1.1) (some ((0,[],[],[]),()))<|ck (a0=a0)<|ck (0≤a0)<|ck (a0.toNat*9≤x_en)<|some ((0,[],[],List.replicate a0.toNat 0),())
def x_ci.l0b (K:Nat) (a0:x_d) (L0:y58) (q0:Int) (q1:y12):Option y18:=
 it (q0<2) ((x_im a0.1).bind fun v2=>gr 81 q1 [v2.1]<|L0 (i6 (q0+1)) (q1++[v2.1]))<|some ((List.replicate a0.1.toNat zRow,[],q1,0,List.replicate 4 0,List.replicate 4 x_b7),())
def x_ci.l0 (K:Nat) (a0:x_d):Nat→y58:=lp2 (x_ci.l0b K a0)
def x_ci.b (K:Nat) (a0:x_d) (L0:y58):Option y18:=
 (x_ft a0).bind fun v1=>cond (!v1.1) (some (([],[],[],0,[],[]),()))<|ck (a0.1=a0.1)<|ck (0≤a0.1)<|ck (a0.1.toNat*41≤x_en)<|L0 0 []
def x_ci (K:Nat) (a0:x_d):Option y18:=x_ci.b K a0 (x_ci.l0 K a0 K)
def x_g6 (K:Nat) (a0:x_d):Option y19:=
 (x_ft a0).bind fun v1=>cond (!v1.1) (some ((0,0,(0,0,[]),[],[],[],0,[],[]),()))<|(x_ci K a0).bind fun v2=>some ((0,(-1),(0,0,[]),v2.1),())
def x_ck.l0b (K:Nat) (a0:Int) (a1:Int) (L0:y68) (q0:y0) (q1:Int):Option y31:=
 it (q1<a0) (gr 9 q0 [a1]<|L0 (q0++[a1]) (i6 (q1+1)))<|some (q0,())
def x_ck.l0 (K:Nat) (a0:Int) (a1:Int):Nat→y68:=lp2 (x_ck.l0b K a0 a1)
def x_ck.b (K:Nat) (a0:Int) (a1:Int) (L0:y68):Option y31:=
 L0 [] 0
def x_ck (K:Nat) (a0:Int) (a1:Int):Option y31:=x_ck.b K a0 a1 (x_ck.l0 K a0 a1 K)
def x_ed (a0:TLog):Option y29:=
 it ((a0.2.2.length:Int)=0) (some (a0.1,a0.2.1,()))<|ix (i6 ((a0.2.2.length:Int)-1)) a0.2.2<|some (i6 (a0.1+(a0.2.2.length:Int)),(a0.2.2.getD ((i6 ((a0.2.2.length:Int)-1)).toNat) x_ay).1,())
def x_de.l0b (K:Nat) (a0:y2) (L0:y30) (q0:Int):Option y11:=
 it (q0<((a0.size:Nat):Int)) (ck (0≤q0)<|ck (q0<((a0.size:Nat):Int))<|it ((x_fc a0 q0)≥97) (it ((x_fc a0 q0)≤122) (L0 (i6 (q0+1)))<|it ((x_fc a0 q0)≥48) (it ((x_fc a0 q0)≤57) (L0 (i6 (q0+1)))<|nit ((x_fc a0 q0)=32) (some (false,()))<|L0 (i6 (q0+1)))<|nit ((x_fc a0 q0)=32) (some (false,()))<|L0 (i6 (q0+1)))<|it ((x_fc a0 q0)≥48) (it ((x_fc a0 q0)≤57) (L0 (i6 (q0+1)))<|nit ((x_fc a0 q0)=32) (some (false,()))<|L0 (i6 (q0+1)))<|nit ((x_fc a0 q0)=32) (some (false,()))<|L0 (i6 (q0+1)))<|some (decide (((a0.size:Nat):Int)≤30),())
def x_de.l0 (K:Nat) (a0:y2):Nat→y30:=lp1 (x_de.l0b K a0)
def x_de.b (K:Nat) (a0:y2) (L0:y30):Option y11:=
 L0 0
def x_de (K:Nat) (a0:y2):Option y11:=x_de.b K a0 (x_de.l0 K a0 K)
def x_jv (K:Nat) (a0:TCmd):Option y11:=
 it (a0.1=(-1)) (some (qCmd a0 ((-1),0,0,0,0,0,ByteArray.empty,ByteArray.empty),()))<|(x_bj a0.1 0 3).bind fun v1=>cond v1.1 ((x_bj a0.2.1 1 100000).bind fun v2=>cond v2.1 ((x_bj a0.2.2.1 1 10).bind fun v3=>cond v3.1 ((x_bj a0.2.2.2.1 0 100000).bind fun v4=>cond v4.1 ((x_bj a0.2.2.2.2.1 0 100000).bind fun v5=>cond v5.1 ((x_bj a0.2.2.2.2.2.1 0 100000).bind fun v6=>cond v6.1 ((x_de K a0.2.2.2.2.2.2.1).bind fun v7=>cond v7.1 ((x_de K a0.2.2.2.2.2.2.2).bind fun v8=>some (v8.1,()))<|some (false,()))<|some (false,()))<|some (false,()))<|some (false,()))<|some (false,()))<|some (false,()))<|some (false,())
def x_ev.l0b (K:Nat) (a0:TLog) (L0:y59) (q0:Int) (q1:Int):Option y11:=
 it (q1<a0.2.2.length) (ix q1 a0.2.2<|(x_bj (a0.2.2.getD q1.toNat x_ay).1 q0 300).bind fun v3=>cond (!v3.1) (some (false,()))<|ix q1 a0.2.2<|(x_jv K (a0.2.2.getD q1.toNat x_ay).2).bind fun v4=>cond (!v4.1) (some (false,()))<|ix q1 a0.2.2<|L0 (a0.2.2.getD q1.toNat x_ay).1 (i6 (q1+1)))<|some (true,())
def x_ev.l0 (K:Nat) (a0:TLog):Nat→y59:=lp2 (x_ev.l0b K a0)
def x_ev.b (K:Nat) (a0:TLog) (L0:y59):Option y11:=
 (x_bj a0.1 0 300).bind fun v1=>cond (!v1.1) (some (false,()))<|(x_bj a0.2.1 0 300).bind fun v2=>cond (!v2.1) (some (false,()))<|it (a0.2.2.length>(i6 (300-a0.1))) (some (false,()))<|L0 a0.2.1 0
def x_ev (K:Nat) (a0:TLog):Option y11:=x_ev.b K a0 (x_ev.l0 K a0 K)
def x_by.j0 (K:Nat) (a0:x_at):Option y11:=
 (x_bj a0.1 0 3).bind fun v2=>cond v2.1 ((x_bj a0.2.1 0 3).bind fun v3=>cond v3.1 ((x_bj a0.2.2.1 0 100000).bind fun v4=>cond v4.1 ((x_bj a0.2.2.2.1 (-1) 100000).bind fun v5=>some (v5.1,()))<|some (false,()))<|some (false,()))<|some (false,())
def x_by.l0b (K:Nat) (a0:x_at) (a1:Int) (L0:y30) (q0:Int):Option y11:=
 it (q0<a0.2.2.2.2.length) (ix q0 a0.2.2.2.2<|(x_bj (a0.2.2.2.2.getD q0.toNat x_ie).2 0 100000).bind fun v1=>cond (!v1.1) (some (false,()))<|ix q0 a0.2.2.2.2<|nit ((a0.2.2.2.2.getD q0.toNat x_ie).1=(i6 (a0.2.2.2.1-(i6 ((i6 ((a0.2.2.2.2.length:Int)-1))-q0))))) (some (false,()))<|it (q0>0) (ix (i6 (q0-1)) a0.2.2.2.2<|ix q0 a0.2.2.2.2<|it ((a0.2.2.2.2.getD ((i6 (q0-1)).toNat) x_ie).2≥(a0.2.2.2.2.getD q0.toNat x_ie).2) (some (false,()))<|L0 (i6 (q0+1)))<|L0 (i6 (q0+1)))<|it (a0.2.2.2.2.length>a1) (some (false,()))<|it (a0.2.2.2.2.length>(i6 (a0.2.2.2.1+1))) (some (false,()))<|it (a0.2.2.2.1≥0) (it ((a0.2.2.2.2.length:Int)=0) (some (false,()))<|x_by.j0 K a0)<|x_by.j0 K a0
def x_by.l0 (K:Nat) (a0:x_at) (a1:Int):Nat→y30:=lp1 (x_by.l0b K a0 a1)
def x_by.b (K:Nat) (a0:x_at) (a1:Int) (L0:y30):Option y11:=
 L0 0
def x_by (K:Nat) (a0:x_at) (a1:Int):Option y11:=x_by.b K a0 a1 (x_by.l0 K a0 a1 K)
def x_b0.l0b (K:Nat) (a0:x_d) (a1:y13) (L0:y30) (q0:Int):Option y11:=
 it (q0<a1.length) (ix q0 a1<|(x_by K (a1.getD q0.toNat x_bb) a0.2.1).bind fun v1=>cond (!v1.1) (some (false,()))<|it ((a1.getD q0.toNat x_bb).1≥a0.1) (some (false,()))<|it (q0>0) (ix (i6 (q0-1)) a1<|it ((a1.getD ((i6 (q0-1)).toNat) x_bb).1>(a1.getD q0.toNat x_bb).1) (some (false,()))<|ix (i6 (q0-1)) a1<|it ((a1.getD ((i6 (q0-1)).toNat) x_bb).1=(a1.getD q0.toNat x_bb).1) (ix (i6 (q0-1)) a1<|it ((a1.getD ((i6 (q0-1)).toNat) x_bb).2.1≥(a1.getD q0.toNat x_bb).2.1) (some (false,()))<|L0 (i6 (q0+1)))<|L0 (i6 (q0+1)))<|L0 (i6 (q0+1)))<|some (true,())
def x_b0.l0 (K:Nat) (a0:x_d) (a1:y13):Nat→y30:=lp1 (x_b0.l0b K a0 a1)
def x_b0.b (K:Nat) (a0:x_d) (a1:y13) (L0:y30):Option y11:=
 L0 0
def x_b0 (K:Nat) (a0:x_d) (a1:y13):Option y11:=x_b0.b K a0 a1 (x_b0.l0 K a0 a1 K)
def x_ra (K:Nat) (a0:x_l9):Option y11:=
 (x_de K a0.2.1).bind fun v1=>cond v1.1 ((x_de K a0.2.2.1).bind fun v2=>cond v2.1 ((x_bj a0.2.2.2.1 0 3).bind fun v3=>cond v3.1 ((x_bj a0.2.2.2.2 0 100000).bind fun v4=>some (v4.1,()))<|some (false,()))<|some (false,()))<|some (false,())
def x_ec.l0b (K:Nat) (a0:TRow) (L0:y30) (q0:Int):Option y11:=
 it (q0<a0.2.2.length) (ix q0 a0.2.2<|(x_ra K (a0.2.2.getD q0.toNat x_ce)).bind fun v1=>cond (!v1.1) (some (false,()))<|ix q0 a0.2.2<|(x_bj (a0.2.2.getD q0.toNat x_ce).1 a0.1 (i6 (a0.2.1-1))).bind fun v2=>cond (!v2.1) (some (false,()))<|it (q0>0) (ix (i6 (q0-1)) a0.2.2<|ix q0 a0.2.2<|it ((a0.2.2.getD ((i6 (q0-1)).toNat) x_ce).1≥(a0.2.2.getD q0.toNat x_ce).1) (some (false,()))<|L0 (i6 (q0+1)))<|L0 (i6 (q0+1)))<|(x_bj a0.1 0 a0.2.1).bind fun v3=>cond v3.1 (it (a0.2.1≤100000) (some (decide ((a0.2.2.length:Int)≤80),()))<|some (false,()))<|some (false,())
def x_ec.l0 (K:Nat) (a0:TRow):Nat→y30:=lp1 (x_ec.l0b K a0)
def x_ec.b (K:Nat) (a0:TRow) (L0:y30):Option y11:=
 L0 0
def x_ec (K:Nat) (a0:TRow):Option y11:=x_ec.b K a0 (x_ec.l0 K a0 K)
def x_a1.l0b (K:Nat) (a0:x_ar) (a1:Int) (L0:y30) (L1:y30) (q0:Int):Option y11:=
 it (q0<a0.2.1.length) (ix q0 a0.2.1<|(x_bj (a0.2.1.getD q0.toNat 0) 0 3).bind fun v2=>cond (!v2.1) (some (false,()))<|it (q0>0) (ix (i6 (q0-1)) a0.2.1<|ix q0 a0.2.1<|it ((a0.2.1.getD ((i6 (q0-1)).toNat) 0)≥(a0.2.1.getD q0.toNat 0)) (some (false,()))<|ix q0 a0.2.2.1<|(x_bj (a0.2.2.1.getD q0.toNat 0) 0 100000).bind fun v3=>cond (!v3.1) (some (false,()))<|L0 (i6 (q0+1)))<|ix q0 a0.2.2.1<|(x_bj (a0.2.2.1.getD q0.toNat 0) 0 100000).bind fun v4=>cond (!v4.1) (some (false,()))<|L0 (i6 (q0+1)))<|L1 0
def x_a1.l1b (K:Nat) (a0:x_ar) (a1:Int) (L1:y30) (q1:Int):Option y11:=
 it (q1<a0.2.2.2.length) (ix q1 a0.2.2.2<|(x_bj (a0.2.2.2.getD q1.toNat 0) 0 100000).bind fun v5=>cond (!v5.1) (some (false,()))<|L1 (i6 (q1+1)))<|some (true,())
def x_a1.l1 (K:Nat) (a0:x_ar) (a1:Int):Nat→y30:=lp1 (x_a1.l1b K a0 a1)
def x_a1.l0 (K:Nat) (a0:x_ar) (a1:Int):Nat→y30:=lp1 fun r=>x_a1.l0b K a0 a1 r (x_a1.l1 K a0 a1 K)
def x_a1.b (K:Nat) (a0:x_ar) (a1:Int) (L0:y30):Option y11:=
 nit ((a0.2.2.1.length:Int)=a0.2.1.length) (some (false,()))<|nit (a0.2.2.2.length=a1) (some (false,()))<|(x_bj a0.1 0 100000).bind fun v1=>cond (!v1.1) (some (false,()))<|L0 0
def x_a1 (K:Nat) (a0:x_ar) (a1:Int):Option y11:=x_a1.b K a0 a1 (x_a1.l0 K a0 a1 K)
def x_il (K:Nat) (a0:x_dl):Option y11:=
 (x_bj a0.1 0 9).bind fun v1=>cond v1.1 ((x_bj a0.2.1 (-1) 100000).bind fun v2=>cond v2.1 ((x_de K a0.2.2.1).bind fun v3=>cond v3.1 ((x_de K a0.2.2.2).bind fun v4=>some (v4.1,()))<|some (false,()))<|some (false,()))<|some (false,())
def x_ao.l0b (K:Nat) (a0:x_d) (a1:x_ai) (L0:y30) (L1:y30) (q0:Int):Option y11:=
 it (q0<a0.1) (ix q0 a1.1<|(x_ec K (a1.1.getD q0.toNat zRow)).bind fun v4=>cond (!v4.1) (some (false,()))<|L0 (i6 (q0+1)))<|L1 0
def x_ao.l1b (K:Nat) (a0:x_d) (a1:x_ai) (L1:y30) (L2:y30) (q1:Int):Option y11:=
 it (q1<2) (ix q1 a1.2.2.1<|(x_a1 K (a1.2.2.1.getD q1.toNat x_bv) a0.1).bind fun v5=>cond (!v5.1) (some (false,()))<|L1 (i6 (q1+1)))<|L2 0
def x_ao.l2b (K:Nat) (a0:x_d) (a1:x_ai) (L2:y30) (q2:Int):Option y11:=
 it (q2<4) (ix q2 a1.2.2.2.2.1<|(x_bj (a1.2.2.2.2.1.getD q2.toNat 0) 0 100000).bind fun v6=>cond (!v6.1) (some (false,()))<|ix q2 a1.2.2.2.2.2<|(x_il K (a1.2.2.2.2.2.getD q2.toNat x_b7)).bind fun v7=>cond (!v7.1) (some (false,()))<|L2 (i6 (q2+1)))<|some (true,())
def x_ao.l2 (K:Nat) (a0:x_d) (a1:x_ai):Nat→y30:=lp1 (x_ao.l2b K a0 a1)
def x_ao.l1 (K:Nat) (a0:x_d) (a1:x_ai):Nat→y30:=lp1 fun r=>x_ao.l1b K a0 a1 r (x_ao.l2 K a0 a1 K)
def x_ao.l0 (K:Nat) (a0:x_d) (a1:x_ai):Nat→y30:=lp1 fun r=>x_ao.l0b K a0 a1 r (x_ao.l1 K a0 a1 K)
def x_ao.b (K:Nat) (a0:x_d) (a1:x_ai) (L0:y30):Option y11:=
 (x_ft a0).bind fun v1=>cond (!v1.1) (some (false,()))<|nit (a1.1.length=a0.1) (some (false,()))<|nit ((a1.2.2.1.length:Int)=2) (some (false,()))<|nit ((a1.2.2.2.2.1.length:Int)=4) (some (false,()))<|nit ((a1.2.2.2.2.2.length:Int)=4) (some (false,()))<|(x_bj a1.2.2.2.1 0 100000).bind fun v2=>cond (!v2.1) (some (false,()))<|(x_b0 K a0 a1.2.1).bind fun v3=>cond (!v3.1) (some (false,()))<|L0 0
def x_ao (K:Nat) (a0:x_d) (a1:x_ai):Option y11:=x_ao.b K a0 a1 (x_ao.l0 K a0 a1 K)
def x_jx (K:Nat) (a0:x_d) (a1:x_dh):Option y11:=
 (x_ed a1.2.2.1).bind fun v1=>(x_bj a1.1 0 300).bind fun v2=>cond v2.1 ((x_bj a1.2.1 (-1) 4).bind fun v3=>cond v3.1 ((x_ev K a1.2.2.1).bind fun v4=>cond v4.1 (it (v1.2.1≤a1.1) ((x_ao K a0 a1.2.2.2).bind fun v5=>some (v5.1,()))<|some (false,()))<|some (false,()))<|some (false,()))<|some (false,())
def x_ds.l0b (K:Nat) (a0:y14) (a1:Int) (L0:y30) (q0:Int):Option y11:=
 it (q0<a0.length) (ix q0 a0<|(x_bj (a0.getD q0.toNat x_ay).1 0 a1).bind fun v1=>cond (!v1.1) (some (false,()))<|ix q0 a0<|(x_jv K (a0.getD q0.toNat x_ay).2).bind fun v2=>cond (!v2.1) (some (false,()))<|L0 (i6 (q0+1)))<|some (decide ((a0.length:Int)≤40),())
def x_ds.l0 (K:Nat) (a0:y14) (a1:Int):Nat→y30:=lp1 (x_ds.l0b K a0 a1)
def x_ds.b (K:Nat) (a0:y14) (a1:Int) (L0:y30):Option y11:=
 L0 0
def x_ds (K:Nat) (a0:y14) (a1:Int):Option y11:=x_ds.b K a0 a1 (x_ds.l0 K a0 a1 K)
def x_n2 (K:Nat) (a0:TRpc) (a1:Int):Option y11:=
 (x_bj a0.1 1 5).bind fun v1=>cond (!v1.1) (some (false,()))<|(x_bj a1 1 5).bind fun v2=>cond (!v2.1) (some (false,()))<|(x_bj a0.2.1 0 (i6 (a1-1))).bind fun v3=>cond (!v3.1) (some (false,()))<|(x_bj a0.2.2.1 0 (i6 (a1-1))).bind fun v4=>cond (!v4.1) (some (false,()))<|it (a0.2.1=a0.2.2.1) (some (false,()))<|(x_bj a0.2.2.2.1 0 300).bind fun v5=>cond v5.1 ((x_bj a0.2.2.2.2.1 0 300).bind fun v6=>cond v6.1 ((x_bj a0.2.2.2.2.2.1 0 300).bind fun v7=>cond v7.1 ((x_bj a0.2.2.2.2.2.2.1 0 300).bind fun v8=>cond v8.1 ((x_ds K a0.2.2.2.2.2.2.2.1 a0.2.2.2.1).bind fun v9=>cond v9.1 (some (decide (((a0.2.2.2.2.2.2.2.2.2.size:Nat):Int)≤30000),()))<|some (false,()))<|some (false,()))<|some (false,()))<|some (false,()))<|some (false,())
def x_j9 (a0:x_pu):Option y11:=
 it ((a0.1.length:Int)≤80000) ((x_bj a0.2 0 (a0.1.length:Int)).bind fun v1=>some (v1.1,()))<|some (false,())
def x_as.l0b (K:Nat) (a0:x_d) (a1:x_bq) (a2:Int) (L0:y69) (L1:y69) (v5:y29) (q0:Int):Option y11:=
 it (q0<a2) (ix q0 a1.2.2.2.2.1<|(x_bj (a1.2.2.2.2.1.getD q0.toNat 0) 1 (i6 (v5.1+1))).bind fun v6=>cond (!v6.1) (some (false,()))<|ix q0 a1.2.2.2.2.2.1<|(x_bj (a1.2.2.2.2.2.1.getD q0.toNat 0) 0 v5.1).bind fun v7=>cond (!v7.1) (some (false,()))<|L0 v5 (i6 (q0+1)))<|L1 v5 0
def x_as.l1b (K:Nat) (a0:x_d) (a1:x_bq) (a2:Int) (L1:y69) (v5:y29) (q1:Int):Option y11:=
 it (q1<a1.2.2.2.2.2.2.2.2.2.length) (ix q1 a1.2.2.2.2.2.2.2.2.2<|(x_n2 K (a1.2.2.2.2.2.2.2.2.2.getD q1.toNat zRpc) a2).bind fun v8=>cond (!v8.1) (some (false,()))<|ix q1 a1.2.2.2.2.2.2.2.2.2<|nit ((a1.2.2.2.2.2.2.2.2.2.getD q1.toNat zRpc).2.1=a1.1) (some (false,()))<|L1 v5 (i6 (q1+1)))<|(x_bj a1.2.2.2.2.2.2.1 a1.2.1.2.2.1.1 v5.1).bind fun v9=>cond v9.1 ((x_ao K a0 a1.2.2.2.2.2.2.2.1).bind fun v10=>cond v10.1 ((x_j9 a1.2.2.2.2.2.2.2.2.1).bind fun v11=>cond v11.1 (some (decide ((a1.2.2.2.2.2.2.2.2.2.length:Int)≤40),()))<|some (false,()))<|some (false,()))<|some (false,())
def x_as.l1 (K:Nat) (a0:x_d) (a1:x_bq) (a2:Int):Nat→y69:=lp2 (x_as.l1b K a0 a1 a2)
def x_as.l0 (K:Nat) (a0:x_d) (a1:x_bq) (a2:Int):Nat→y69:=lp2 fun r=>x_as.l0b K a0 a1 a2 r (x_as.l1 K a0 a1 a2 K)
def x_as.b (K:Nat) (a0:x_d) (a1:x_bq) (a2:Int) (L0:y69):Option y11:=
 (x_bj a2 1 5).bind fun v1=>cond (!v1.1) (some (false,()))<|(x_bj a1.1 0 (i6 (a2-1))).bind fun v2=>cond (!v2.1) (some (false,()))<|(x_jx K a0 a1.2.1).bind fun v3=>cond (!v3.1) (some (false,()))<|it (a1.2.1.2.1≥a2) (some (false,()))<|(x_bj a1.2.2.1 0 2).bind fun v4=>cond (!v4.1) (some (false,()))<|nit (a1.2.2.2.1.length=a2) (some (false,()))<|nit (a1.2.2.2.2.1.length=a2) (some (false,()))<|nit (a1.2.2.2.2.2.1.length=a2) (some (false,()))<|(x_ed a1.2.1.2.2.1).bind fun v5=>L0 v5 0
def x_as (K:Nat) (a0:x_d) (a1:x_bq) (a2:Int):Option y11:=x_as.b K a0 a1 a2 (x_as.l0 K a0 a1 a2 K)
def x_m9 (K:Nat) (a0:x_d) (a1:Int) (a2:Int):Option y42:=
 (x_ft a0).bind fun v1=>cond (!v1.1) (some ((0,(0,0,(0,0,[]),[],[],[],0,[],[]),0,[],[],[],0,([],[],[],0,[],[]),([],0),[]),false,()))<|(x_bj a2 1 5).bind fun v2=>cond (!v2.1) (some ((0,(0,0,(0,0,[]),[],[],[],0,[],[]),0,[],[],[],0,([],[],[],0,[],[]),([],0),[]),false,()))<|(x_g6 K a0).bind fun v3=>ck (a2=a2)<|ck (0≤a2)<|ck (a2.toNat*2≤x_en)<|(x_ck K a2 1).bind fun v4=>ck (a2=a2)<|ck (0≤a2)<|ck (a2.toNat*9≤x_en)<|(x_ci K a0).bind fun v5=>(x_as K a0 (a1,v3.1,0,List.replicate a2.toNat false,v4.1,List.replicate a2.toNat 0,0,v5.1,([],0),[]) a2).bind fun v6=>cond (!v6.1) (some ((0,(0,0,(0,0,[]),[],[],[],0,[],[]),0,[],[],[],0,([],[],[],0,[],[]),([],0),[]),false,()))<|some ((a1,v3.1,0,List.replicate a2.toNat false,v4.1,List.replicate a2.toNat 0,0,v5.1,([],0),[]),true,())
def x_b8.l0b (K:Nat) (a0:x_d) (a1:Int) (L0:y80) (q0:Int) (q1:y6):Option y47:=
 it (q0<a1) ((x_m9 K a0 q0 a1).bind fun v3=>cond (!v3.2.1) (some (((0,0,0,0),0,[],[],[],[],[],[]),false,()))<|gr 465 q1 [v3.1]<|L0 (i6 (q0+1)) (q1++[v3.1]))<|some ((a0,a1,q1,[],List.replicate 4 zCmd,List.replicate 4 0,[],[]),true,())
def x_b8.l0 (K:Nat) (a0:x_d) (a1:Int):Nat→y80:=lp2 (x_b8.l0b K a0 a1)
def x_b8.b (K:Nat) (a0:x_d) (a1:Int) (L0:y80):Option y47:=
 (x_ft a0).bind fun v1=>cond (!v1.1) (some (((0,0,0,0),0,[],[],[],[],[],[]),false,()))<|(x_bj a1 1 5).bind fun v2=>cond (!v2.1) (some (((0,0,0,0),0,[],[],[],[],[],[]),false,()))<|L0 0 []
def x_b8 (K:Nat) (a0:x_d) (a1:Int):Option y47:=x_b8.b K a0 a1 (x_b8.l0 K a0 a1 K)
def x_gp (a0:Int) (a1:Int):Option y7:=
 it (a0>a1) (some (a0,()))<|some (a1,())
def x_lj (a0:x_6) (a1:List ByteArray):Option (ByteArray×x_6×Unit):=
 (x_k a0 (a1.length:Int)).bind fun v1=>ix v1.1 a1<|some (a1.getD v1.1.toNat ByteArray.empty,v1.2.1,())
def x_fa (a0:x_6):Option (ByteArray×x_6×Unit):=
 (x_lj a0 [ByteArray.empty,(bs [97]),(bs [98]),(bs [107,32,49]),(bs [116,101,120,116])]).bind fun v1=>some (v1.1,v1.2.1,())
def x_e8 (a0:x_6):Option y48:=
 (x_7 a0 [1,1,1,2,2,3,4,4,5,6,7,8,9,10]).bind fun v1=>(x_k v1.2.1 3).bind fun v2=>(x_k v2.2.1 4).bind fun v3=>(x_k v3.2.1 3).bind fun v4=>it (v1.1=1) ((x_fa v4.2.1).bind fun v5=>(x_fa v5.2.1).bind fun v6=>(x_7 v6.2.1 [0,0,0,1]).bind fun v7=>some ((0,0,v1.1,v2.1,v3.1,v7.1,v5.1,v6.1),v7.2.1,()))<|it (v1.1=8) ((x_7 v4.2.1 [0,10,60]).bind fun v8=>some ((0,0,v1.1,v8.1,v3.1,v4.1,ByteArray.empty,ByteArray.empty),v8.2.1,()))<|some ((0,0,v1.1,v2.1,v3.1,v4.1,ByteArray.empty,ByteArray.empty),v4.2.1,())
def x_ii (a0:x_6) (a1:Int):Option y49:=
 (x_k a0 a1).bind fun v1=>some (decide (v1.1=0),v1.2.1,())
def x_y.j0 (K:Nat) (L1:y121) (p11:Bool) (v1:y7) (v2:y41) (v4:y41) (q0:Int) (v3:y41) (a1:x_u):Option y53:=
 cond p11 (L1 v1 v2 0 v4)<|it (v4.1=11) ((x_7 v4.2.1 [0,0,3,12,99999]).bind fun v12=>some ((9,v2.1,v12.1,0,0,0,0,0,0,ByteArray.empty,ByteArray.empty),v12.2.1,()))<|it (v4.1=12) (some ((10,v2.1,0,0,0,0,0,0,0,ByteArray.empty,ByteArray.empty),v4.2.1,()))<|it (v4.1=13) (some ((11,q0,v3.1,0,0,0,0,0,0,ByteArray.empty,ByteArray.empty),v4.2.1,()))<|it (v4.1=14) (some ((11,q0,v3.1,0,0,0,0,0,0,ByteArray.empty,ByteArray.empty),v4.2.1,()))<|it (v4.1=15) ((x_k v4.2.1 2).bind fun v13=>(x_gp (a1.2.2.2.1.length:Int) 1).bind fun v14=>(x_k v13.2.1 v14.1).bind fun v15=>some ((i6 (5+v13.1),v15.1,0,0,0,0,0,0,0,ByteArray.empty,ByteArray.empty),v15.2.1,()))<|it ((a1.2.2.2.1.length:Int)=0) ((x_ii v4.2.1 2).bind fun v16=>cond v16.1 (some ((1,v2.1,0,0,0,0,0,0,0,ByteArray.empty,ByteArray.empty),v16.2.1,()))<|(x_gp (a1.2.2.2.1.length:Int) 1).bind fun v17=>(x_k v16.2.1 v17.1).bind fun v18=>some ((4,v18.1,0,0,0,0,0,0,0,ByteArray.empty,ByteArray.empty),v18.2.1,()))<|(x_gp (a1.2.2.2.1.length:Int) 1).bind fun v19=>(x_k v4.2.1 v19.1).bind fun v20=>some ((4,v20.1,0,0,0,0,0,0,0,ByteArray.empty,ByteArray.empty),v20.2.1,())
def x_y.l0b (K:Nat) (a0:x_6) (a1:x_u) (L0:y122) (L1:y121) (v1:y7) (v2:y41) (q0:Int) (q1:Int):Option y53:=
 it (q1<a1.2.2.1.length) (ix q1 a1.2.2.1<|it ((a1.2.2.1.getD q1.toNat x_bx).2.2.1=2) (L0 v1 v2 q1 (i6 (q1+1)))<|L0 v1 v2 q0 (i6 (q1+1)))<|(x_k v2.2.1 4).bind fun v3=>(x_k v3.2.1 22).bind fun v4=>it (v4.1=0) (some ((1,v2.1,0,0,0,0,0,0,0,ByteArray.empty,ByteArray.empty),v4.2.1,()))<|it (v4.1=1) ((x_e8 v4.2.1).bind fun v5=>some ((7,q0,v3.1,v5.1),v5.2.1,()))<|it (v4.1=2) ((x_e8 v4.2.1).bind fun v6=>some ((7,q0,v3.1,v6.1),v6.2.1,()))<|it (v4.1=3) ((x_e8 v4.2.1).bind fun v7=>some ((7,q0,v3.1,v7.1),v7.2.1,()))<|it (v4.1=4) (some ((8,q0,v3.1,0,0,0,0,0,0,ByteArray.empty,ByteArray.empty),v4.2.1,()))<|it (v4.1=5) ((x_k v4.2.1 v1.1).bind fun v8=>some ((2,q0,v8.1,0,0,0,0,0,0,ByteArray.empty,ByteArray.empty),v8.2.1,()))<|it (v4.1=6) ((x_k v4.2.1 v1.1).bind fun v9=>some ((2,q0,v9.1,0,0,0,0,0,0,ByteArray.empty,ByteArray.empty),v9.2.1,()))<|it (v4.1=7) ((x_k v4.2.1 v1.1).bind fun v10=>some ((2,q0,v10.1,0,0,0,0,0,0,ByteArray.empty,ByteArray.empty),v10.2.1,()))<|it (v4.1=8) (x_y.j0 K L1 true v1 v2 v4 q0 v3 a1)<|it (v4.1=9) (x_y.j0 K L1 true v1 v2 v4 q0 v3 a1)<|x_y.j0 K L1 (decide (v4.1=10)) v1 v2 v4 q0 v3 a1
def x_y.l1b (K:Nat) (a0:x_6) (a1:x_u) (L1:y121) (v1:y7) (v2:y41) (q3:Int) (v4:y41):Option y53:=
 it (q3<v1.1) (it (q3<a1.2.2.1.length) (ck ((a1.2.2.1.length:Int)≠0)<|ix (Int.tmod (i6 (v2.1+q3)) (a1.2.2.1.length:Int)) a1.2.2.1<|it (((a1.2.2.1.getD ((Int.tmod (i6 (v2.1+q3)) (a1.2.2.1.length:Int)).toNat) x_bx).2.2.2.2.2.2.2.2.2.length:Int)>0) (ck ((a1.2.2.1.length:Int)≠0)<|some ((3,Int.tmod (i6 (v2.1+q3)) (a1.2.2.1.length:Int),0,0,0,0,0,0,0,ByteArray.empty,ByteArray.empty),v4.2.1,()))<|L1 v1 v2 (i6 (q3+1)) v4)<|some ((3,v2.1,0,0,0,0,0,0,0,ByteArray.empty,ByteArray.empty),v4.2.1,()))<|some ((3,v2.1,0,0,0,0,0,0,0,ByteArray.empty,ByteArray.empty),v4.2.1,())
def x_y.l1 (K:Nat) (a0:x_6) (a1:x_u):Nat→y121:=lp4 (x_y.l1b K a0 a1)
def x_y.l0 (K:Nat) (a0:x_6) (a1:x_u):Nat→y122:=lp4 fun r=>x_y.l0b K a0 a1 r (x_y.l1 K a0 a1 K)
def x_y.b (K:Nat) (a0:x_6) (a1:x_u) (L0:y122):Option y53:=
 (x_gp a1.2.1 1).bind fun v1=>(x_k a0 v1.1).bind fun v2=>L0 v1 v2 v2.1 0
def x_y (K:Nat) (a0:x_6) (a1:x_u):Option y53:=x_y.b K a0 a1 (x_y.l0 K a0 a1 K)
def x_ll (a0:TRpc):Option (TRpc×Unit):=
 gr 89 [] a0.2.2.2.2.2.2.2.1<|some ((a0.1,a0.2.1,a0.2.2.1,a0.2.2.2.1,a0.2.2.2.2.1,a0.2.2.2.2.2.1,a0.2.2.2.2.2.2.1,[]++a0.2.2.2.2.2.2.2.1,a0.2.2.2.2.2.2.2.2),())
def x_cx.l0b (K:Nat) (a0:y3) (L0:y81) (q0:y3) (q1:Int):Option y38:=
 it (q1<a0.length) (ix q1 a0<|(x_ll (a0.getD q1.toNat zRpc)).bind fun v1=>gr 105 q0 [v1.1]<|L0 (q0++[v1.1]) (i6 (q1+1)))<|some (q0,())
def x_cx.l0 (K:Nat) (a0:y3):Nat→y81:=lp2 (x_cx.l0b K a0)
def x_cx.b (K:Nat) (a0:y3) (L0:y81):Option y38:=
 L0 [] 0
def x_cx (K:Nat) (a0:y3):Option y38:=x_cx.b K a0 (x_cx.l0 K a0 K)
def x_j2 (a0:TLog):Option y15:=
 gr 89 [] a0.2.2<|some ((a0.1,a0.2.1,[]++a0.2.2),())
def x_h9 (a0:TRow):Option y16:=
 gr 57 [] a0.2.2<|some ((a0.1,a0.2.1,[]++a0.2.2),())
def x_ex (a0:x_at):Option y24:=
 gr 17 [] a0.2.2.2.2<|some ((a0.1,a0.2.1,a0.2.2.1,a0.2.2.2.1,[]++a0.2.2.2.2),())
def x_g9 (a0:x_ar):Option y23:=
 gr 9 [] a0.2.1<|gr 9 [] a0.2.2.1<|gr 9 [] a0.2.2.2<|some ((a0.1,[]++a0.2.1,[]++a0.2.2.1,[]++a0.2.2.2),())
def x_aj.l0b (K:Nat) (a0:x_ai) (L0:y70) (L1:y106) (q0:Int) (q1:y4):Option y18:=
 it (q0<a0.1.length) (ix q0 a0.1<|(x_h9 (a0.1.getD q0.toNat zRow)).bind fun v1=>gr 41 q1 [v1.1]<|L0 (i6 (q0+1)) (q1++[v1.1]))<|L1 0 q1 []
def x_aj.l1b (K:Nat) (a0:x_ai) (L1:y106) (L2:y123) (q2:Int) (q1:y4) (q3:y13):Option y18:=
 it (q2<a0.2.1.length) (ix q2 a0.2.1<|(x_ex (a0.2.1.getD q2.toNat x_bb)).bind fun v2=>gr 57 q3 [v2.1]<|L1 (i6 (q2+1)) q1 (q3++[v2.1]))<|L2 0 q1 q3 []
def x_aj.l2b (K:Nat) (a0:x_ai) (L2:y123) (q4:Int) (q1:y4) (q3:y13) (q5:y12):Option y18:=
 it (q4<a0.2.2.1.length) (ix q4 a0.2.2.1<|(x_g9 (a0.2.2.1.getD q4.toNat x_bv)).bind fun v3=>gr 81 q5 [v3.1]<|L2 (i6 (q4+1)) q1 q3 (q5++[v3.1]))<|some ((q1,q3,q5,a0.2.2.2.1,[]++a0.2.2.2.2.1,[]++a0.2.2.2.2.2),())
def x_aj.l2 (K:Nat) (a0:x_ai):Nat→y123:=lp4 (x_aj.l2b K a0)
def x_aj.l1 (K:Nat) (a0:x_ai):Nat→y106:=lp3 fun r=>x_aj.l1b K a0 r (x_aj.l2 K a0 K)
def x_aj.l0 (K:Nat) (a0:x_ai):Nat→y70:=lp2 fun r=>x_aj.l0b K a0 r (x_aj.l1 K a0 K)
def x_aj.b (K:Nat) (a0:x_ai) (L0:y70):Option y18:=
 gr 9 [] a0.2.2.2.2.1<|gr 49 [] a0.2.2.2.2.2<|L0 0 []
def x_aj (K:Nat) (a0:x_ai):Option y18:=x_aj.b K a0 (x_aj.l0 K a0 K)
def x_g3 (K:Nat) (a0:x_dh):Option y19:=
 (x_j2 a0.2.2.1).bind fun v1=>(x_aj K a0.2.2.2).bind fun v2=>some ((a0.1,a0.2.1,v1.1,v2.1),())
def x_h7 (a0:x_pu):Option y20:=
 gr 2 [] a0.1<|some (([]++a0.1,a0.2),())
def x_ae (K:Nat) (a0:x_bq):Option (x_bq×Unit):=
 (x_g3 K a0.2.1).bind fun v1=>gr 2 [] a0.2.2.2.1<|gr 9 [] a0.2.2.2.2.1<|gr 9 [] a0.2.2.2.2.2.1<|(x_aj K a0.2.2.2.2.2.2.2.1).bind fun v2=>(x_h7 a0.2.2.2.2.2.2.2.2.1).bind fun v3=>(x_cx K a0.2.2.2.2.2.2.2.2.2).bind fun v4=>some ((a0.1,v1.1,a0.2.2.1,[]++a0.2.2.2.1,[]++a0.2.2.2.2.1,[]++a0.2.2.2.2.2.1,a0.2.2.2.2.2.2.1,v2.1,v3.1,v4.1),())
def x_ch.l0b (K:Nat) (a0:x_u) (L0:y111) (q0:Int) (q1:y6) (v1:y38):Option y25:=
 it (q0<a0.2.2.1.length) (ix q0 a0.2.2.1<|(x_ae K (a0.2.2.1.getD q0.toNat x_bx)).bind fun v2=>gr 465 q1 [v2.1]<|L0 (i6 (q0+1)) (q1++[v2.1]) v1)<|some ((a0.1,a0.2.1,q1,v1.1,[]++a0.2.2.2.2.1,[]++a0.2.2.2.2.2.1,[]++a0.2.2.2.2.2.2.1,[]++a0.2.2.2.2.2.2.2),())
def x_ch.l0 (K:Nat) (a0:x_u):Nat→y111:=lp3 (x_ch.l0b K a0)
def x_ch.b (K:Nat) (a0:x_u) (L0:y111):Option y25:=
 (x_cx K a0.2.2.2.1).bind fun v1=>gr 81 [] a0.2.2.2.2.1<|gr 9 [] a0.2.2.2.2.2.1<|gr 81 [] a0.2.2.2.2.2.2.1<|gr 81 [] a0.2.2.2.2.2.2.2<|L0 0 [] v1
def x_ch (K:Nat) (a0:x_u):Option y25:=x_ch.b K a0 (x_ch.l0 K a0 K)
def x_j8 (K:Nat) (a0:x_df):Option y11:=
 (x_bj a0.2.1 0 300).bind fun v1=>cond (!v1.1) (some (false,()))<|(x_bj a0.2.2.2.1 0 300).bind fun v2=>cond (!v2.1) (some (false,()))<|(x_ds K a0.2.2.2.2.1 300).bind fun v3=>cond (!v3.1) (some (false,()))<|it (((a0.2.2.2.2.2.size:Nat):Int)>30000) (some (false,()))<|it (a0.1=1) ((x_bj a0.2.2.1 (-1) 4).bind fun v4=>cond v4.1 (it (a0.2.2.2.1=0) (it ((a0.2.2.2.2.1.length:Int)=0) (some (decide (a0.2.2.2.2.2.data.toList=ByteArray.empty.data.toList),()))<|some (false,()))<|some (false,()))<|some (false,()))<|it (a0.1=2) (it (a0.2.2.1=0) (some (decide (a0.2.2.2.2.2.data.toList=ByteArray.empty.data.toList),()))<|some (false,()))<|it (a0.1=3) (it (a0.2.2.1=0) (some (decide ((a0.2.2.2.2.1.length:Int)=0),()))<|some (false,()))<|some (false,())
def x_bw.l0b (K:Nat) (a0:Int) (L0:y71) (q0:Int) (q1:y0):Option y31:=
 it (q0>127) (gr 2 q1 [IntKind.u8.wrap (i6 ((Int.tmod q0 128)+128))]<|L0 (i6 (Int.tdiv q0 128)) (q1++[IntKind.u8.wrap (i6 ((Int.tmod q0 128)+128))]))<|gr 2 q1 [IntKind.u8.wrap q0]<|some (q1++[IntKind.u8.wrap q0],())
def x_bw.l0 (K:Nat) (a0:Int):Nat→y71:=lp2 (x_bw.l0b K a0)
def x_bw.b (K:Nat) (a0:Int) (L0:y71):Option y31:=
 (x_bj a0 0 2147483647).bind fun v1=>cond (!v1.1) (some ([],()))<|L0 a0 []
def x_bw (K:Nat) (a0:Int):Option y31:=x_bw.b K a0 (x_bw.l0 K a0 K)
def x_cc.l0b (K:Nat) (a0:y0) (L0:y68) (q0:y0) (q1:Int):Option y31:=
 it (q1<a0.length) (ix q1 a0<|(x_bw K (a0.getD q1.toNat 0)).bind fun v1=>gr 2 q0 v1.1<|L0 (q0++v1.1) (i6 (q1+1)))<|some (q0,())
def x_cc.l0 (K:Nat) (a0:y0):Nat→y68:=lp2 (x_cc.l0b K a0)
def x_cc.b (K:Nat) (a0:y0) (L0:y68):Option y31:=
 L0 [] 0
def x_cc (K:Nat) (a0:y0):Option y31:=x_cc.b K a0 (x_cc.l0 K a0 K)
def x_e4 (K:Nat) (a0:y2):Option y31:=
 (x_bw K ((a0.size:Nat):Int)).bind fun v1=>gr 2 v1.1 (x_co a0)<|some (v1.1++(x_co a0),())
def x_kr (K:Nat) (a0:TCmd):Option y31:=
 (x_jv K a0).bind fun v1=>cond (!v1.1) (some ([],()))<|(x_cc K [i6 (a0.1+1),a0.2.1,a0.2.2.1,a0.2.2.2.1,a0.2.2.2.2.1,a0.2.2.2.2.2.1]).bind fun v2=>(x_e4 K a0.2.2.2.2.2.2.1).bind fun v3=>gr 2 v2.1 v3.1<|(x_e4 K a0.2.2.2.2.2.2.2).bind fun v4=>gr 2 (v2.1++v3.1) v4.1<|some ((v2.1++v3.1)++v4.1,())
def x_d8.l0b (K:Nat) (a0:x_df) (L0:y68) (q0:y0) (q1:Int):Option y31:=
 it (q1<a0.2.2.2.2.1.length) (ix q1 a0.2.2.2.2.1<|(x_bw K (a0.2.2.2.2.1.getD q1.toNat x_ay).1).bind fun v6=>gr 2 q0 v6.1<|(x_kr K (a0.2.2.2.2.1.getD q1.toNat x_ay).2).bind fun v7=>gr 2 (q0++v6.1) v7.1<|L0 ((q0++v6.1)++v7.1) (i6 (q1+1)))<|(x_e4 K a0.2.2.2.2.2).bind fun v8=>gr 2 q0 v8.1<|some (q0++v8.1,())
def x_d8.l0 (K:Nat) (a0:x_df):Nat→y68:=lp2 (x_d8.l0b K a0)
def x_d8.b (K:Nat) (a0:x_df) (L0:y68):Option y31:=
 (x_bw K a0.1).bind fun v1=>(x_bw K a0.2.1).bind fun v2=>gr 2 v1.1 v2.1<|(x_bw K (i6 (a0.2.2.1+1))).bind fun v3=>gr 2 (v1.1++v2.1) v3.1<|(x_bw K a0.2.2.2.1).bind fun v4=>gr 2 ((v1.1++v2.1)++v3.1) v4.1<|(x_bw K (a0.2.2.2.2.1.length:Int)).bind fun v5=>gr 2 (((v1.1++v2.1)++v3.1)++v4.1) v5.1<|L0 ((((v1.1++v2.1)++v3.1)++v4.1)++v5.1) 0
def x_d8 (K:Nat) (a0:x_df):Option y31:=x_d8.b K a0 (x_d8.l0 K a0 K)
def x_ee.l0b (K:Nat) (a0:y0) (L0:y97) (q0:Int) (q1:Int) (q2:Int):Option y7:=
 it (q2<a0.length) (ix q2 a0<|L0 (Int.tmod (i6 (q0+(i6 (a0.getD q2.toNat 0)))) 65521) (Int.tmod (i6 (q1+(Int.tmod (i6 (q0+(i6 (a0.getD q2.toNat 0)))) 65521))) 65521) (i6 (q2+1)))<|some (i6 ((i6 (q1*65536))+q0),())
def x_ee.l0 (K:Nat) (a0:y0):Nat→y97:=lp3 (x_ee.l0b K a0)
def x_ee.b (K:Nat) (a0:y0) (L0:y97):Option y7:=
 L0 1 0 0
def x_ee (K:Nat) (a0:y0):Option y7:=x_ee.b K a0 (x_ee.l0 K a0 K)
def x_os (K:Nat) (a0:y0):Option y31:=
 (x_ee K a0).bind fun v1=>some ([IntKind.u8.wrap v1.1,IntKind.u8.wrap (Int.fdiv v1.1 (2 ^ 8)),IntKind.u8.wrap (Int.fdiv v1.1 (2 ^ 16)),IntKind.u8.wrap (Int.fdiv v1.1 (2 ^ 24))],())
def x_eh (K:Nat) (a0:x_df):Option y31:=
 (x_j8 K a0).bind fun v1=>cond (!v1.1) (some ([],()))<|(x_d8 K a0).bind fun v2=>(x_bw K (v2.1.length:Int)).bind fun v3=>gr 2 v3.1 v2.1<|(x_os K v2.1).bind fun v4=>gr 2 (v3.1++v2.1) v4.1<|some ((v3.1++v2.1)++v4.1,())
def x_rt (a0:x_pu) (a1:y0):Option (x_pu×Bool×Unit):=
 (x_h7 a0).bind fun v1=>(x_j9 a0).bind fun v2=>cond (!v2.1) (some (v1.1,false,()))<|it (a1.length>(i6 (80000-(a0.1.length:Int)))) (some (v1.1,false,()))<|gr 2 v1.1.1 a1<|some ((v1.1.1++a1,v1.1.2),true,())
def x_wz (a0:TLog) (a1:Int):Option y7:=
 it (a1≤a0.1) (some ((-1),()))<|it (a1>300) (some ((-1),()))<|it (a0.1<0) (some ((-1),()))<|it ((i6 ((i6 (a1-a0.1))-1))≥a0.2.2.length) (some ((-1),()))<|some (i6 ((i6 (a1-a0.1))-1),())
def x_gq (a0:TLog) (a1:Int):Option y7:=
 it (a1=a0.1) (some (a0.2.1,()))<|(x_wz a0 a1).bind fun v1=>it (v1.1<0) (some ((-1),()))<|ix v1.1 a0.2.2<|some ((a0.2.2.getD v1.1.toNat x_ay).1,())
def x_dy.l0b (K:Nat) (a0:TLog) (a1:Int) (a2:Int) (a3:y14) (L0:y112) (q0:Int) (v2:y15) (q1:y14):Option y39:=
 it (q0<a3.length) (it ((i6 ((i6 (a1-a0.1))+q0))<q1.length) (ix (i6 ((i6 (a1-a0.1))+q0)) q1<|ix q0 a3<|it ((q1.getD ((i6 ((i6 (a1-a0.1))+q0)).toNat) x_ay).1=(a3.getD q0.toNat x_ay).1) (L0 (i6 (q0+1)) v2 q1)<|ck ((i6 ((i6 (a1-a0.1))+q0))=(i6 ((i6 (a1-a0.1))+q0)))<|ck (0≤(i6 ((i6 (a1-a0.1))+q0)))<|ck ((i6 ((i6 (a1-a0.1))+q0))≤q1.length)<|gr 89 [] ((q1.take ((i6 ((i6 (a1-a0.1))+q0)).toNat)).drop 0)<|ix q0 a3<|gr 89 ([]++((q1.take ((i6 ((i6 (a1-a0.1))+q0)).toNat)).drop 0)) [a3.getD q0.toNat x_ay]<|L0 (i6 (q0+1)) v2 (([]++((q1.take ((i6 ((i6 (a1-a0.1))+q0)).toNat)).drop 0))++[a3.getD q0.toNat x_ay]))<|ix q0 a3<|gr 89 q1 [a3.getD q0.toNat x_ay]<|L0 (i6 (q0+1)) v2 (q1++[a3.getD q0.toNat x_ay]))<|(x_ev K (v2.1.1,v2.1.2.1,q1)).bind fun v4=>cond (!v4.1) ((x_j2 a0).bind fun v5=>some (v5.1,false,()))<|some ((v2.1.1,v2.1.2.1,q1),true,())
def x_dy.l0 (K:Nat) (a0:TLog) (a1:Int) (a2:Int) (a3:y14):Nat→y112:=lp3 (x_dy.l0b K a0 a1 a2 a3)
def x_dy.b (K:Nat) (a0:TLog) (a1:Int) (a2:Int) (a3:y14) (L0:y112):Option y39:=
 (x_ev K a0).bind fun v1=>cond (!v1.1) (some ((0,0,[]),false,()))<|(x_j2 a0).bind fun v2=>it (a2<0) (some (v2.1,false,()))<|(x_gq a0 a1).bind fun v3=>nit (v3.1=a2) (some (v2.1,false,()))<|L0 0 v2 v2.1.2.2
def x_dy (K:Nat) (a0:TLog) (a1:Int) (a2:Int) (a3:y14):Option y39:=x_dy.b K a0 a1 a2 a3 (x_dy.l0 K a0 a1 a2 a3 K)
def x_cn.l0b (K:Nat) (a0:y0) (a1:Int) (L0:y73) (q0:Int) (q1:Int):Option y72:=
 it (q1<5) (it (a1<0) (some (0,0,false,()))<|it (a1≥(i6 ((a0.length:Int)-q1))) (some (0,0,false,()))<|ix (i6 (a1+q1)) a0<|ck (0≤(i6 (7*q1)))<|it ((i6 (a0.getD ((i6 (a1+q1)).toNat) 0))<128) (it (q1>0) (it ((i6 (a0.getD ((i6 (a1+q1)).toNat) 0))=0) (some (0,0,false,()))<|it ((i6 (bor q0 (i6 ((Int.tmod (i6 (a0.getD ((i6 (a1+q1)).toNat) 0)) 128)*2 ^ (min ((i6 (7*q1)).toNat) 64)))))>2147483647) (some (0,0,false,()))<|some (i6 (bor q0 (i6 ((Int.tmod (i6 (a0.getD ((i6 (a1+q1)).toNat) 0)) 128)*2 ^ (min ((i6 (7*q1)).toNat) 64)))),i6 ((i6 (a1+q1))+1),true,()))<|it ((i6 (bor q0 (i6 ((Int.tmod (i6 (a0.getD ((i6 (a1+q1)).toNat) 0)) 128)*2 ^ (min ((i6 (7*q1)).toNat) 64)))))>2147483647) (some (0,0,false,()))<|some (i6 (bor q0 (i6 ((Int.tmod (i6 (a0.getD ((i6 (a1+q1)).toNat) 0)) 128)*2 ^ (min ((i6 (7*q1)).toNat) 64)))),i6 ((i6 (a1+q1))+1),true,()))<|L0 (i6 (bor q0 (i6 ((Int.tmod (i6 (a0.getD ((i6 (a1+q1)).toNat) 0)) 128)*2 ^ (min ((i6 (7*q1)).toNat) 64))))) (i6 (q1+1)))<|some (0,0,false,())
def x_cn.l0 (K:Nat) (a0:y0) (a1:Int):Nat→y73:=lp2 (x_cn.l0b K a0 a1)
def x_cn.b (K:Nat) (a0:y0) (a1:Int) (L0:y73):Option y72:=
 L0 0 0
def x_cn (K:Nat) (a0:y0) (a1:Int):Option y72:=x_cn.b K a0 a1 (x_cn.l0 K a0 a1 K)
def x_b6 (K:Nat) (a0:x_h):Option y50:=
 (x_cn K a0.1 a0.2.1).bind fun v1=>cond (!v1.2.2.1) (some (0,(a0.1,a0.2.1,false),()))<|cond (!a0.2.2) (some (0,(a0.1,a0.2.1,false),()))<|some (v1.1,(a0.1,v1.2.1,a0.2.2),())
def x_jh (K:Nat) (a0:y0) (a1:Int):Option y98:=
 (x_cn K a0 a1).bind fun v1=>cond (!v1.2.2.1) (some (ByteArray.empty,0,false,()))<|it (v1.1>(i6 ((a0.length:Int)-v1.2.1))) (some (ByteArray.empty,0,false,()))<|ck ((i6 (v1.2.1+v1.1))=(i6 (v1.2.1+v1.1)))<|ck (0≤v1.2.1)<|ck (v1.2.1≤(i6 (v1.2.1+v1.1)))<|ck ((i6 (v1.2.1+v1.1))≤a0.length)<|some (x_jo ((a0.take ((i6 (v1.2.1+v1.1)).toNat)).drop v1.2.1.toNat),i6 (v1.2.1+v1.1),true,())
def x_fr (K:Nat) (a0:x_h):Option (ByteArray×x_h×Unit):=
 (x_jh K a0.1 a0.2.1).bind fun v1=>cond (!v1.2.2.1) (some (ByteArray.empty,(a0.1,a0.2.1,false),()))<|cond (!a0.2.2) (some (ByteArray.empty,(a0.1,a0.2.1,false),()))<|some (v1.1,(a0.1,v1.2.1,a0.2.2),())
def x_d0.l0b (K:Nat) (a0:x_h) (L0:y144) (v3:y50) (q0:Int) (q1:y50) (v1:y50) (v2:y50) (q2:y8):Option y54:=
 it (q0<v3.1) (cond q1.2.1.2.2 ((x_b6 K q1.2.1).bind fun v4=>(x_fr K v4.2.1).bind fun v5=>(x_fr K v5.2.1).bind fun v6=>(x_b6 K v6.2.1).bind fun v7=>(x_b6 K v7.2.1).bind fun v8=>gr 57 q2 [(v4.1,v5.1,v6.1,v7.1,v8.1)]<|L0 v3 (i6 (q0+1)) v8 v1 v2 (q2++[(v4.1,v5.1,v6.1,v7.1,v8.1)]))<|some ((v1.1,v2.1,q2),q1.2.1,()))<|some ((v1.1,v2.1,q2),q1.2.1,())
def x_d0.l0 (K:Nat) (a0:x_h):Nat→y144:=lp6 (x_d0.l0b K a0)
def x_d0.b (K:Nat) (a0:x_h) (L0:y144):Option y54:=
 (x_b6 K a0).bind fun v1=>(x_b6 K v1.2.1).bind fun v2=>(x_b6 K v2.2.1).bind fun v3=>L0 v3 0 v3 v1 v2 []
def x_d0 (K:Nat) (a0:x_h):Option y54:=x_d0.b K a0 (x_d0.l0 K a0 K)
def x_bu.l0b (K:Nat) (a0:x_h) (L0:y149) (v5:y50) (q0:Int) (q1:y50) (v1:y50) (v2:y50) (v3:y50) (v4:y50) (q2:y9):Option y74:=
 it (q0<v5.1) (cond q1.2.1.2.2 ((x_b6 K q1.2.1).bind fun v6=>(x_b6 K v6.2.1).bind fun v7=>gr 17 q2 [(v6.1,v7.1)]<|L0 v5 (i6 (q0+1)) v7 v1 v2 v3 v4 (q2++[(v6.1,v7.1)]))<|some ((v1.1,v2.1,v3.1,i6 (v4.1-1),q2),q1.2.1,()))<|some ((v1.1,v2.1,v3.1,i6 (v4.1-1),q2),q1.2.1,())
def x_bu.l0 (K:Nat) (a0:x_h):Nat→y149:=lp8 (x_bu.l0b K a0)
def x_bu.b (K:Nat) (a0:x_h) (L0:y149):Option y74:=
 (x_b6 K a0).bind fun v1=>(x_b6 K v1.2.1).bind fun v2=>(x_b6 K v2.2.1).bind fun v3=>(x_b6 K v3.2.1).bind fun v4=>(x_b6 K v4.2.1).bind fun v5=>L0 v5 0 v5 v1 v2 v3 v4 []
def x_bu (K:Nat) (a0:x_h):Option y74:=x_bu.b K a0 (x_bu.l0 K a0 K)
def x_ab.j0 (K:Nat) (L1:y139) (q1:y50) (v1:y50) (q2:y0) (q3:y0):Option y75:=
 L1 0 q1 v1 q2 q3 []
def x_ab.l0b (K:Nat) (a0:x_h) (a1:Int) (L0:y142) (L1:y139) (v2:y50) (q0:Int) (q1:y50) (v1:y50) (q2:y0) (q3:y0):Option y75:=
 it (q0<v2.1) (cond q1.2.1.2.2 ((x_b6 K q1.2.1).bind fun v3=>(x_b6 K v3.2.1).bind fun v4=>gr 9 q2 [v3.1]<|gr 9 q3 [v4.1]<|L0 v2 (i6 (q0+1)) v4 v1 (q2++[v3.1]) (q3++[v4.1]))<|x_ab.j0 K L1 q1 v1 q2 q3)<|x_ab.j0 K L1 q1 v1 q2 q3
def x_ab.l1b (K:Nat) (a0:x_h) (a1:Int) (L1:y139) (q7:Int) (q8:y50) (v1:y50) (q2:y0) (q3:y0) (q9:y0):Option y75:=
 it (q7<a1) ((x_b6 K q8.2.1).bind fun v5=>gr 9 q9 [v5.1]<|L1 (i6 (q7+1)) v5 v1 q2 q3 (q9++[v5.1]))<|some ((v1.1,q2,q3,q9),q8.2.1,())
def x_ab.l1 (K:Nat) (a0:x_h) (a1:Int):Nat→y139:=lp6 (x_ab.l1b K a0 a1)
def x_ab.l0 (K:Nat) (a0:x_h) (a1:Int):Nat→y142:=lp6 fun r=>x_ab.l0b K a0 a1 r (x_ab.l1 K a0 a1 K)
def x_ab.b (K:Nat) (a0:x_h) (a1:Int) (L0:y142):Option y75:=
 (x_b6 K a0).bind fun v1=>(x_b6 K v1.2.1).bind fun v2=>L0 v2 0 v2 v1 [] []
def x_ab (K:Nat) (a0:x_h) (a1:Int):Option y75:=x_ab.b K a0 a1 (x_ab.l0 K a0 a1 K)
def x_j.j2 (K:Nat) (L1:y136) (q1:y26) (q2:y4):Option y60:=
 (x_b6 K q1.1).bind fun v3=>L1 v3 0 v3.2 q2 []
def x_j.j1 (K:Nat) (L2:y143) (q29:y26) (q2:y4) (q30:y13):Option y60:=
 (x_b6 K q29.1).bind fun v5=>L2 v5 0 v5.2 q2 q30 []
def x_j.j0 (K:Nat) (L3:y148) (q43:y26) (q2:y4) (q30:y13) (q44:y12):Option y60:=
 (x_b6 K q43.1).bind fun v7=>L3 0 v7.2 q2 q30 q44 v7 [] []
def x_j.l0b (K:Nat) (a0:x_h) (a1:Int) (L0:y126) (L1:y136) (v1:y50) (q0:Int) (q1:y26) (q2:y4):Option y60:=
 it (q0<v1.1) (cond q1.1.2.2 ((x_d0 K q1.1).bind fun v2=>gr 41 q2 [v2.1]<|L0 v1 (i6 (q0+1)) v2.2 (q2++[v2.1]))<|x_j.j2 K L1 q1 q2)<|x_j.j2 K L1 q1 q2
def x_j.l1b (K:Nat) (a0:x_h) (a1:Int) (L1:y136) (L2:y143) (v3:y50) (q28:Int) (q29:y26) (q2:y4) (q30:y13):Option y60:=
 it (q28<v3.1) (cond q29.1.2.2 ((x_bu K q29.1).bind fun v4=>gr 57 q30 [v4.1]<|L1 v3 (i6 (q28+1)) v4.2 q2 (q30++[v4.1]))<|x_j.j1 K L2 q29 q2 q30)<|x_j.j1 K L2 q29 q2 q30
def x_j.l2b (K:Nat) (a0:x_h) (a1:Int) (L2:y143) (L3:y148) (v5:y50) (q42:Int) (q43:y26) (q2:y4) (q30:y13) (q44:y12):Option y60:=
 it (q42<v5.1) (cond q43.1.2.2 ((x_ab K q43.1 a1).bind fun v6=>gr 81 q44 [v6.1]<|L2 v5 (i6 (q42+1)) v6.2 q2 q30 (q44++[v6.1]))<|x_j.j0 K L3 q43 q2 q30 q44)<|x_j.j0 K L3 q43 q2 q30 q44
def x_j.l3b (K:Nat) (a0:x_h) (a1:Int) (L3:y148) (q49:Int) (q50:y26) (q2:y4) (q30:y13) (q44:y12) (v7:y50) (q51:y0) (q52:y21):Option y60:=
 it (q49<4) ((x_b6 K q50.1).bind fun v8=>(x_b6 K v8.2.1).bind fun v9=>(x_b6 K v9.2.1).bind fun v10=>(x_fr K v10.2.1).bind fun v11=>(x_fr K v11.2.1).bind fun v12=>gr 9 q51 [v8.1]<|gr 49 q52 [(v9.1,i6 (v10.1-1),v11.1,v12.1)]<|L3 (i6 (q49+1)) v12.2 q2 q30 q44 v7 (q51++[v8.1]) (q52++[(v9.1,i6 (v10.1-1),v11.1,v12.1)]))<|some ((q2,q30,q44,v7.1,q51,q52),q50.1,())
def x_j.l3 (K:Nat) (a0:x_h) (a1:Int):Nat→y148:=lp8 (x_j.l3b K a0 a1)
def x_j.l2 (K:Nat) (a0:x_h) (a1:Int):Nat→y143:=lp6 fun r=>x_j.l2b K a0 a1 r (x_j.l3 K a0 a1 K)
def x_j.l1 (K:Nat) (a0:x_h) (a1:Int):Nat→y136:=lp5 fun r=>x_j.l1b K a0 a1 r (x_j.l2 K a0 a1 K)
def x_j.l0 (K:Nat) (a0:x_h) (a1:Int):Nat→y126:=lp4 fun r=>x_j.l0b K a0 a1 r (x_j.l1 K a0 a1 K)
def x_j.b (K:Nat) (a0:x_h) (a1:Int) (L0:y126):Option y60:=
 (x_b6 K a0).bind fun v1=>L0 v1 0 v1.2 []
def x_j (K:Nat) (a0:x_h) (a1:Int):Option y60:=x_j.b K a0 a1 (x_j.l0 K a0 a1 K)
def x_kd (K:Nat) (a0:x_d) (a1:y0):Option y43:=
 (x_ft a0).bind fun v1=>cond (!v1.1) (some (([],[],[],0,[],[]),false,()))<|(x_j K (a1,0,true) a0.1).bind fun v2=>cond (!v2.2.1.2.2) (some (([],[],[],0,[],[]),false,()))<|nit (v2.2.1.2.1=a1.length) (some (([],[],[],0,[],[]),false,()))<|(x_ao K a0 v2.1).bind fun v3=>cond (!v3.1) (some (([],[],[],0,[],[]),false,()))<|some (v2.1,true,())
def x_o4 (a0:TLog) (a1:Int):Option y15:=
 (x_j2 a0).bind fun v1=>(x_wz a0 a1).bind fun v2=>it (v2.1<0) (some (v1.1,()))<|ix v2.1 a0.2.2<|ck ((a0.2.2.length:Int)=(a0.2.2.length:Int))<|ck (0≤(i6 (v2.1+1)))<|ck ((i6 (v2.1+1))≤a0.2.2.length)<|ck ((a0.2.2.length:Int)≤a0.2.2.length)<|gr 89 [] ((a0.2.2.take ((a0.2.2.length:Int).toNat)).drop ((i6 (v2.1+1)).toNat))<|some ((a1,(a0.2.2.getD v2.1.toNat x_ay).1,[]++((a0.2.2.take ((a0.2.2.length:Int).toNat)).drop ((i6 (v2.1+1)).toNat))),())
def x_pr (K:Nat) (a0:x_d) (a1:x_dh) (a2:x_df):Option y19:=
 it (a2.1=1) (some ((a2.2.1,a2.2.2.1,a1.2.2),()))<|it (a2.1=2) ((x_dy K a1.2.2.1 a2.2.2.2.1 a2.2.1 a2.2.2.2.2.1).bind fun v1=>cond v1.2.1 (some ((a1.1,a1.2.1,v1.1,a1.2.2.2),()))<|some (a1,()))<|it (a2.1=3) ((x_kd K a0 (x_co a2.2.2.2.2.2)).bind fun v2=>cond (!v2.2.1) (some (a1,()))<|it (a2.2.2.2.1≤a1.2.2.1.1) (some (a1,()))<|(x_gq a1.2.2.1 a2.2.2.2.1).bind fun v3=>it (v3.1=a2.2.1) ((x_o4 a1.2.2.1 a2.2.2.2.1).bind fun v4=>some ((a1.1,a1.2.1,v4.1,v2.1),()))<|some ((a1.1,a1.2.1,(a2.2.2.2.1,a2.2.1,[]),v2.1),()))<|some (a1,())
def x_g8 (K:Nat) (a0:x_d) (a1:x_dh) (a2:x_df):Option y19:=
 (x_jx K a0 a1).bind fun v1=>cond (!v1.1) ((x_g3 K a1).bind fun v3=>some (v3.1,()))<|(x_j8 K a2).bind fun v2=>cond (!v2.1) ((x_g3 K a1).bind fun v4=>some (v4.1,()))<|(x_g3 K a1).bind fun v5=>(x_pr K a0 v5.1 a2).bind fun v6=>(x_jx K a0 v6.1).bind fun v7=>cond (!v7.1) ((x_g3 K a1).bind fun v8=>some (v8.1,()))<|some (v6.1,())
def x_hh (K:Nat) (a0:x_d) (a1:x_bq) (a2:x_df):Option y42:=
 (x_ae K a1).bind fun v1=>(x_eh K a2).bind fun v2=>(x_rt a1.2.2.2.2.2.2.2.2.1 v2.1).bind fun v3=>(x_g8 K a0 a1.2.1 a2).bind fun v4=>cond (!v3.2.1) ((x_ae K a1).bind fun v7=>some (v7.1,false,()))<|(x_j8 K a2).bind fun v5=>cond (!v5.1) ((x_ae K a1).bind fun v8=>some (v8.1,false,()))<|(x_as K a0 (v1.1.1,v4.1,v1.1.2.2.1,v1.1.2.2.2.1,v1.1.2.2.2.2.1,v1.1.2.2.2.2.2.1,v1.1.2.2.2.2.2.2.1,v1.1.2.2.2.2.2.2.2.1,v3.1,v1.1.2.2.2.2.2.2.2.2.2) (a1.2.2.2.1.length:Int)).bind fun v6=>cond (!v6.1) ((x_ae K a1).bind fun v9=>some (v9.1,false,()))<|some ((v1.1.1,v4.1,v1.1.2.2.1,v1.1.2.2.2.1,v1.1.2.2.2.2.1,v1.1.2.2.2.2.2.1,v1.1.2.2.2.2.2.2.1,v1.1.2.2.2.2.2.2.2.1,v3.1,v1.1.2.2.2.2.2.2.2.2.2),true,())
def x_fk (K:Nat) (a0:y1) (a1:x_df):Option y27:=
 cond (!a0.2.2.2) (some (a0,()))<|(x_hh K a0.1 a0.2.2.1 a1).bind fun v1=>some ((a0.1,a0.2.1,v1.1,v1.2.1),())
def x_gk (K:Nat) (a0:y1) (a1:Int):Option y27:=
 it (a1>a0.2.2.1.2.1.1) ((x_fk K a0 (1,a1,(-1),0,[],ByteArray.empty)).bind fun v1=>some ((v1.1.1,v1.1.2.1,(v1.1.2.2.1.1,v1.1.2.2.1.2.1,0,v1.1.2.2.1.2.2.2),v1.1.2.2.2),()))<|some ((a0.1,a0.2.1,(a0.2.2.1.1,a0.2.2.1.2.1,0,a0.2.2.1.2.2.2),a0.2.2.2),())
def x_ta (a0:TLog) (a1:Int) (a2:Int):Option y11:=
 (x_ed a0).bind fun v1=>it (a2>v1.2.1) (some (true,()))<|it (a2=v1.2.1) (some (decide (a1≥v1.1),()))<|some (false,())
def s_Tell (K:Nat) (a0:x_bq) (a1:TRpc):Option y42:=
 (x_ae K a0).bind fun v1=>it ((a0.2.2.2.2.2.2.2.2.2.length:Int)≥40) (some (v1.1,false,()))<|(x_ll a1).bind fun v2=>gr 105 v1.1.2.2.2.2.2.2.2.2.2 [v2.1]<|some ((v1.1.1,v1.1.2.1,v1.1.2.2.1,v1.1.2.2.2.1,v1.1.2.2.2.2.1,v1.1.2.2.2.2.2.1,v1.1.2.2.2.2.2.2.1,v1.1.2.2.2.2.2.2.2.1,v1.1.2.2.2.2.2.2.2.2.1,v1.1.2.2.2.2.2.2.2.2.2++[v2.1]),true,())
def x_e5 (K:Nat) (a0:y1) (a1:TRpc):Option y27:=
 cond (!a0.2.2.2) (some (a0,()))<|(s_Tell K a0.2.2.1 (a1.1,a0.2.2.1.1,a1.2.2.1,a0.2.2.1.2.1.1,a1.2.2.2.2)).bind fun v1=>cond v1.2.1 ((x_n2 K (a1.1,a0.2.2.1.1,a1.2.2.1,a0.2.2.1.2.1.1,a1.2.2.2.2) a0.2.1).bind fun v2=>some ((a0.1,a0.2.1,v1.1,v2.1),()))<|some ((a0.1,a0.2.1,v1.1,false),())
def x_f3.j0 (K:Nat) (p3:Bool) (a0:y1) (a1:TRpc):Option y27:=
 cond p3 (it (a0.2.2.1.2.1.2.1=(-1)) ((x_fk K a0 (1,a0.2.2.1.2.1.1,a1.2.1,0,[],ByteArray.empty)).bind fun v4=>(x_e5 K v4.1 (2,0,a1.2.1,0,0,0,0,[],p3,ByteArray.empty)).bind fun v5=>some (v5.1,()))<|(x_e5 K a0 (2,0,a1.2.1,0,0,0,0,[],p3,ByteArray.empty)).bind fun v6=>some (v6.1,()))<|(x_e5 K a0 (2,0,a1.2.1,0,0,0,0,[],p3,ByteArray.empty)).bind fun v7=>some (v7.1,())
def x_f3 (K:Nat) (a0:y1) (a1:TRpc):Option y27:=
 it (a1.2.2.2.1=a0.2.2.1.2.1.1) (it (a0.2.2.1.2.1.2.1=(-1)) ((x_ta a0.2.2.1.2.1.2.2.1 a1.2.2.2.2.1 a1.2.2.2.2.2.1).bind fun v1=>x_f3.j0 K v1.1 a0 a1)<|it (a0.2.2.1.2.1.2.1=a1.2.1) ((x_ta a0.2.2.1.2.1.2.2.1 a1.2.2.2.2.1 a1.2.2.2.2.2.1).bind fun v2=>x_f3.j0 K v2.1 a0 a1)<|x_f3.j0 K false a0 a1)<|x_f3.j0 K false a0 a1
def x_r6 (a0:Bool):Option y7:=
 cond a0 (some (1,()))<|some (0,())
def x_uw (a0:Int):Option y7:=
 some (i6 ((i6 (Int.tdiv a0 2))+1),())
def x_lg (K:Nat) (a0:y1):Option y27:=
 (x_ae K a0.2.2.1).bind fun v1=>(x_ed a0.2.2.1.2.1.2.2.1).bind fun v2=>(x_ck K a0.2.1 (i6 (v2.1+1))).bind fun v3=>ck (a0.2.1=a0.2.1)<|ck (0≤a0.2.1)<|ck (a0.2.1.toNat*9≤x_en)<|(x_fk K (a0.1,a0.2.1,(a0.2.2.1.1,a0.2.2.1.2.1,2,a0.2.2.1.2.2.2.1,v3.1,List.replicate a0.2.1.toNat 0,a0.2.2.1.2.2.2.2.2.2),a0.2.2.2) (2,v2.2.1,0,v2.1,[(a0.2.2.1.2.1.1,(-1),0,0,0,0,0,ByteArray.empty,ByteArray.empty)],ByteArray.empty)).bind fun v4=>cond (!v4.1.2.2.2) (some ((v4.1.1,v4.1.2.1,(v1.1.1,v1.1.2.1,0,v1.1.2.2.2),true),()))<|it ((v4.1.2.2.1.2.1.2.2.1.2.2.length:Int)=v1.1.2.1.2.2.1.2.2.length) (some ((v4.1.1,v4.1.2.1,(v1.1.1,v1.1.2.1,0,v1.1.2.2.2),true),()))<|some (v4.1,())
def x_cf.l0b (K:Nat) (a0:y1) (a1:TRpc) (L0:y76) (q0:Int) (q1:Int):Option y27:=
 it (q1<a0.2.1) (ix q1 (a0.2.2.1.2.2.2.1.set a1.2.1.toNat true)<|(x_r6 ((a0.2.2.1.2.2.2.1.set a1.2.1.toNat true).getD q1.toNat false)).bind fun v1=>L0 (i6 (q0+v1.1)) (i6 (q1+1)))<|(x_uw a0.2.1).bind fun v2=>it (q0≥v2.1) ((x_lg K (a0.1,a0.2.1,(a0.2.2.1.1,a0.2.2.1.2.1,a0.2.2.1.2.2.1,a0.2.2.1.2.2.2.1.set a1.2.1.toNat true,a0.2.2.1.2.2.2.2),a0.2.2.2)).bind fun v3=>some (v3.1,()))<|some ((a0.1,a0.2.1,(a0.2.2.1.1,a0.2.2.1.2.1,a0.2.2.1.2.2.1,a0.2.2.1.2.2.2.1.set a1.2.1.toNat true,a0.2.2.1.2.2.2.2),a0.2.2.2),())
def x_cf.l0 (K:Nat) (a0:y1) (a1:TRpc):Nat→y76:=lp2 (x_cf.l0b K a0 a1)
def x_cf.b (K:Nat) (a0:y1) (a1:TRpc) (L0:y76):Option y27:=
 nit (a0.2.2.1.2.2.1=1) (some (a0,()))<|cond (!a1.2.2.2.2.2.2.2.2.1) (some (a0,()))<|nit (a1.2.2.2.1=a0.2.2.1.2.1.1) (some (a0,()))<|ix a1.2.1 a0.2.2.1.2.2.2.1<|L0 0 0
def x_cf (K:Nat) (a0:y1) (a1:TRpc):Option y27:=x_cf.b K a0 a1 (x_cf.l0 K a0 a1 K)
def x_ey (K:Nat) (a0:y1) (a1:Int) (a2:Bool) (a3:Int):Option y27:=
 (x_e5 K a0 (4,0,a1,0,a3,0,0,[],a2,ByteArray.empty)).bind fun v1=>some (v1.1,())
def x_da.l0b (K:Nat) (a0:x_bq) (a1:TLog) (L0:y30) (q0:Int):Option y11:=
 it (q0≤a0.2.2.2.2.2.2.1) ((x_gq a1 q0).bind fun v2=>(x_gq a0.2.1.2.2.1 q0).bind fun v3=>nit (v2.1=v3.1) (some (true,()))<|L0 (i6 (q0+1)))<|some (false,())
def x_da.l0 (K:Nat) (a0:x_bq) (a1:TLog):Nat→y30:=lp1 (x_da.l0b K a0 a1)
def x_da.b (K:Nat) (a0:x_bq) (a1:TLog) (L0:y30):Option y11:=
 (x_ed a1).bind fun v1=>it (v1.1<a0.2.2.2.2.2.2.1) (some (true,()))<|L0 (i6 (a0.2.1.2.2.1.1+1))
def x_da (K:Nat) (a0:x_bq) (a1:TLog):Option y11:=x_da.b K a0 a1 (x_da.l0 K a0 a1 K)
def x_hg (a0:Int) (a1:Int):Option y7:=
 it (a0<a1) (some (a0,()))<|some (a1,())
def x_bd.l0b (K:Nat) (a0:y14) (a1:y14) (L0:y30) (q0:Int):Option y11:=
 it (q0<a0.length) (it (q0<a1.length) (ix q0 a0<|ix q0 a1<|cond (!(x_t7 (a0.getD q0.toNat x_ay) (a1.getD q0.toNat x_ay))) (some (false,()))<|L0 (i6 (q0+1)))<|some (decide ((a0.length:Int)=a1.length),()))<|some (decide ((a0.length:Int)=a1.length),())
def x_bd.l0 (K:Nat) (a0:y14) (a1:y14):Nat→y30:=lp1 (x_bd.l0b K a0 a1)
def x_bd.b (K:Nat) (a0:y14) (a1:y14) (L0:y30):Option y11:=
 L0 0
def x_bd (K:Nat) (a0:y14) (a1:y14):Option y11:=x_bd.b K a0 a1 (x_bd.l0 K a0 a1 K)
def x_b1.l0b (K:Nat) (a0:y1) (a1:Int) (L0:y99) (q0:Int) (q1:y0) (q2:y0):Option y27:=
 it (q0<a0.2.1) (ix q0 q1<|(x_hg (q1.getD q0.toNat 0) (i6 (a1+1))).bind fun v1=>ix q0 q1<|ix q0 q2<|(x_hg (q2.getD q0.toNat 0) a1).bind fun v2=>ix q0 q2<|L0 (i6 (q0+1)) (q1.set q0.toNat v1.1) (q2.set q0.toNat v2.1))<|some ((a0.1,a0.2.1,(a0.2.2.1.1,a0.2.2.1.2.1,a0.2.2.1.2.2.1,a0.2.2.1.2.2.2.1,q1,q2,a0.2.2.1.2.2.2.2.2.2),a0.2.2.2),())
def x_b1.l0 (K:Nat) (a0:y1) (a1:Int):Nat→y99:=lp3 (x_b1.l0b K a0 a1)
def x_b1.b (K:Nat) (a0:y1) (a1:Int) (L0:y99):Option y27:=
 L0 0 a0.2.2.1.2.2.2.2.1 a0.2.2.1.2.2.2.2.2.1
def x_b1 (K:Nat) (a0:y1) (a1:Int):Option y27:=x_b1.b K a0 a1 (x_b1.l0 K a0 a1 K)
def x_es (a0:x_ar) (a1:Int):Option y23:=
 (x_g9 a0).bind fun v1=>ck (a1=a1)<|ck (0≤a1)<|ck (a1≤a0.2.1.length)<|gr 9 [] ((a0.2.1.take a1.toNat).drop 0)<|ck ((a0.2.1.length:Int)=(a0.2.1.length:Int))<|ck (0≤(i6 (a1+1)))<|ck ((i6 (a1+1))≤a0.2.1.length)<|ck ((a0.2.1.length:Int)≤a0.2.1.length)<|gr 9 ([]++((a0.2.1.take a1.toNat).drop 0)) ((a0.2.1.take ((a0.2.1.length:Int).toNat)).drop ((i6 (a1+1)).toNat))<|it (a1<a0.2.2.1.length) (ck (a1=a1)<|ck (0≤a1)<|ck (a1≤a0.2.2.1.length)<|gr 9 [] ((a0.2.2.1.take a1.toNat).drop 0)<|ck ((a0.2.2.1.length:Int)=(a0.2.2.1.length:Int))<|ck (0≤(i6 (a1+1)))<|ck ((i6 (a1+1))≤a0.2.2.1.length)<|ck ((a0.2.2.1.length:Int)≤a0.2.2.1.length)<|gr 9 ([]++((a0.2.2.1.take a1.toNat).drop 0)) ((a0.2.2.1.take ((a0.2.2.1.length:Int).toNat)).drop ((i6 (a1+1)).toNat))<|some ((v1.1.1,([]++((a0.2.1.take a1.toNat).drop 0))++((a0.2.1.take ((a0.2.1.length:Int).toNat)).drop ((i6 (a1+1)).toNat)),([]++((a0.2.2.1.take a1.toNat).drop 0))++((a0.2.2.1.take ((a0.2.2.1.length:Int).toNat)).drop ((i6 (a1+1)).toNat)),v1.1.2.2.2),()))<|some ((v1.1.1,([]++((a0.2.1.take a1.toNat).drop 0))++((a0.2.1.take ((a0.2.1.length:Int).toNat)).drop ((i6 (a1+1)).toNat)),v1.1.2.2),())
def x_xc (a0:Int):Option y7:=
 it (a0≥100000) (some (a0,()))<|some (i6 (a0+1),())
def x_bl.l0b (K:Nat) (a0:x_ar) (a1:Int) (L0:y100) (q0:Bool) (q1:Int) (q2:y23):Option y23:=
 it (q1≥0) (it (q1<a0.2.2.1.length) (ix q1 a0.2.2.1<|it (a1>(a0.2.2.1.getD q1.toNat 0)) (ix q1 a0.2.2.1<|it ((i6 (a1-(a0.2.2.1.getD q1.toNat 0)))>50) ((x_es q2.1 q1).bind fun v2=>L0 true (i6 (q1-1)) v2)<|ix q1 a0.2.2.1<|it ((i6 (a1-(a0.2.2.1.getD q1.toNat 0)))<0) ((x_es q2.1 q1).bind fun v3=>L0 true (i6 (q1-1)) v3)<|L0 q0 (i6 (q1-1)) q2)<|L0 q0 (i6 (q1-1)) q2)<|L0 q0 (i6 (q1-1)) q2)<|cond q0 ((x_xc a0.1).bind fun v4=>some ((v4.1,q2.1.2),()))<|some (q2.1,())
def x_bl.l0 (K:Nat) (a0:x_ar) (a1:Int):Nat→y100:=lp3 (x_bl.l0b K a0 a1)
def x_bl.b (K:Nat) (a0:x_ar) (a1:Int) (L0:y100):Option y23:=
 (x_g9 a0).bind fun v1=>L0 false (i6 ((a0.2.1.length:Int)-1)) v1
def x_bl (K:Nat) (a0:x_ar) (a1:Int):Option y23:=x_bl.b K a0 a1 (x_bl.l0 K a0 a1 K)
def x_hb.l0b (K:Nat) (a0:x_ar) (a1:Int) (L0:y32) (q0:Int):Option y7:=
 it (q0<a0.2.1.length) (ix q0 a0.2.1<|it ((a0.2.1.getD q0.toNat 0)=a1) (some (q0,()))<|L0 (i6 (q0+1)))<|some ((-1),())
def x_hb.l0 (K:Nat) (a0:x_ar) (a1:Int):Nat→y32:=lp1 (x_hb.l0b K a0 a1)
def x_hb.b (K:Nat) (a0:x_ar) (a1:Int) (L0:y32):Option y7:=
 L0 0
def x_hb (K:Nat) (a0:x_ar) (a1:Int):Option y7:=x_hb.b K a0 a1 (x_hb.l0 K a0 a1 K)
def x_a5.j0 (K:Nat) (q0:Int) (a0:x_ar) (a1:Int) (a2:Int) (v1:y23):Option y23:=
 ck (q0=q0)<|ck (0≤q0)<|ck (q0≤a0.2.1.length)<|gr 9 [] ((a0.2.1.take q0.toNat).drop 0)<|gr 9 ([]++((a0.2.1.take q0.toNat).drop 0)) [a1]<|ck ((a0.2.1.length:Int)=(a0.2.1.length:Int))<|ck (0≤q0)<|ck (q0≤a0.2.1.length)<|ck ((a0.2.1.length:Int)≤a0.2.1.length)<|gr 9 (([]++((a0.2.1.take q0.toNat).drop 0))++[a1]) ((a0.2.1.take ((a0.2.1.length:Int).toNat)).drop q0.toNat)<|ck (q0=q0)<|ck (0≤q0)<|ck (q0≤a0.2.2.1.length)<|gr 9 [] ((a0.2.2.1.take q0.toNat).drop 0)<|gr 9 ([]++((a0.2.2.1.take q0.toNat).drop 0)) [a2]<|ck ((a0.2.2.1.length:Int)=(a0.2.2.1.length:Int))<|ck (0≤q0)<|ck (q0≤a0.2.2.1.length)<|ck ((a0.2.2.1.length:Int)≤a0.2.2.1.length)<|gr 9 (([]++((a0.2.2.1.take q0.toNat).drop 0))++[a2]) ((a0.2.2.1.take ((a0.2.2.1.length:Int).toNat)).drop q0.toNat)<|(x_xc a0.1).bind fun v4=>some ((v4.1,(([]++((a0.2.1.take q0.toNat).drop 0))++[a1])++((a0.2.1.take ((a0.2.1.length:Int).toNat)).drop q0.toNat),(([]++((a0.2.2.1.take q0.toNat).drop 0))++[a2])++((a0.2.2.1.take ((a0.2.2.1.length:Int).toNat)).drop q0.toNat),v1.1.2.2.2),())
def x_a5.l0b (K:Nat) (a0:x_ar) (a1:Int) (a2:Int) (L0:y61) (q0:Int) (v1:y23):Option y23:=
 it (q0<a0.2.1.length) (it (q0<a0.2.2.1.length) (ix q0 a0.2.1<|it ((a0.2.1.getD q0.toNat 0)<a1) (L0 (i6 (q0+1)) v1)<|x_a5.j0 K q0 a0 a1 a2 v1)<|x_a5.j0 K q0 a0 a1 a2 v1)<|x_a5.j0 K q0 a0 a1 a2 v1
def x_a5.l0 (K:Nat) (a0:x_ar) (a1:Int) (a2:Int):Nat→y61:=lp2 (x_a5.l0b K a0 a1 a2)
def x_a5.b (K:Nat) (a0:x_ar) (a1:Int) (a2:Int) (L0:y61):Option y23:=
 (x_g9 a0).bind fun v1=>(x_bj a1 0 3).bind fun v2=>cond (!v2.1) (some (v1.1,()))<|(x_hb K a0 a1).bind fun v3=>it (v3.1≥0) (it (v3.1<v1.1.2.2.1.length) (ix v3.1 v1.1.2.2.1<|some ((v1.1.1,v1.1.2.1,v1.1.2.2.1.set v3.1.toNat a2,v1.1.2.2.2),()))<|some (v1.1,()))<|L0 0 v1
def x_a5 (K:Nat) (a0:x_ar) (a1:Int) (a2:Int):Option y23:=x_a5.b K a0 a1 a2 (x_a5.l0 K a0 a1 a2 K)
def x_gn (K:Nat) (a0:x_ar) (a1:Int):Option y23:=
 (x_hb K a0 a1).bind fun v1=>it (v1.1<0) ((x_g9 a0).bind fun v3=>some (v3.1,()))<|(x_bj a1 0 3).bind fun v2=>cond (!v2.1) ((x_g9 a0).bind fun v4=>some (v4.1,()))<|(x_es a0 v1.1).bind fun v5=>(x_xc a0.1).bind fun v6=>some ((v6.1,v5.1.2),())
def x_nb (a0:x_ar) (a1:Int):Option y7:=
 it ((a0.2.1.length:Int)=0) (some ((-1),()))<|it (a1<0) (some ((-1),()))<|ck ((a0.2.1.length:Int)≠0)<|ix (Int.tmod a1 (a0.2.1.length:Int)) a0.2.1<|some (a0.2.1.getD ((Int.tmod a1 (a0.2.1.length:Int)).toNat) 0,())
def x_hl (a0:x_ar) (a1:Int) (a2:Int) (a3:Int) (a4:Int):Option (x_ar×Bool×Unit):=
 (x_g9 a0).bind fun v1=>nit (a2=a0.1) (some (v1.1,false,()))<|(x_bj a3 0 (i6 ((a0.2.2.2.length:Int)-1))).bind fun v2=>cond (!v2.1) (some (v1.1,false,()))<|(x_nb a0 a3).bind fun v3=>nit (v3.1=a1) (some (v1.1,false,()))<|ix a3 a0.2.2.2<|it (a4<(a0.2.2.2.getD a3.toNat 0)) (some (v1.1,false,()))<|ix a3 v1.1.2.2.2<|some ((v1.1.1,v1.1.2.1,v1.1.2.2.1,v1.1.2.2.2.set a3.toNat a4),true,())
def x_my (K:Nat) (a0:x_d) (a1:x_ai) (a2:TCmd):Option y62:=
 ix a2.2.2.2.1 a1.2.2.1<|it (a2.2.2.1=4) ((x_a5 K (a1.2.2.1.getD a2.2.2.2.1.toNat x_bv) a2.1 a1.2.2.2.1).bind fun v1=>ix a2.2.2.2.1 a1.2.2.1<|ix a2.2.2.2.1 (a1.2.2.1.set a2.2.2.2.1.toNat v1.1)<|some ((a1.1,a1.2.1,a1.2.2.1.set a2.2.2.2.1.toNat v1.1,a1.2.2.2),(0,((a1.2.2.1.set a2.2.2.2.1.toNat v1.1).getD a2.2.2.2.1.toNat x_bv).1,ByteArray.empty,ByteArray.empty),()))<|it (a2.2.2.1=5) ((x_gn K (a1.2.2.1.getD a2.2.2.2.1.toNat x_bv) a2.1).bind fun v2=>ix a2.2.2.2.1 a1.2.2.1<|ix a2.2.2.2.1 (a1.2.2.1.set a2.2.2.2.1.toNat v2.1)<|some ((a1.1,a1.2.1,a1.2.2.1.set a2.2.2.2.1.toNat v2.1,a1.2.2.2),(0,((a1.2.2.1.set a2.2.2.2.1.toNat v2.1).getD a2.2.2.2.1.toNat x_bv).1,ByteArray.empty,ByteArray.empty),()))<|it (a2.2.2.1=6) ((x_hl (a1.2.2.1.getD a2.2.2.2.1.toNat x_bv) a2.1 (a1.2.2.1.getD a2.2.2.2.1.toNat x_bv).1 a2.2.2.2.2.1 a2.2.2.2.2.2.1).bind fun v3=>cond (!v3.2.1) (some (a1,(9,0,ByteArray.empty,ByteArray.empty),()))<|ix a2.2.2.2.1 a1.2.2.1<|some ((a1.1,a1.2.1,a1.2.2.1.set a2.2.2.2.1.toNat v3.1,a1.2.2.2),(0,a2.2.2.2.2.2.1,ByteArray.empty,ByteArray.empty),()))<|it (a2.2.2.2.2.1≥a0.1) (some (a1,(5,0,ByteArray.empty,ByteArray.empty),()))<|ix a2.2.2.2.2.1 (a1.2.2.1.getD a2.2.2.2.1.toNat x_bv).2.2.2<|some (a1,(0,(a1.2.2.1.getD a2.2.2.2.1.toNat x_bv).2.2.2.getD a2.2.2.2.2.1.toNat 0,ByteArray.empty,ByteArray.empty),())
def x_cq.l0b (K:Nat) (a0:y13) (a1:Int) (a2:Int) (L0:y33) (q0:Int):Option y24:=
 it (q0<a0.length) (ix q0 a0<|it ((a0.getD q0.toNat x_bb).1=a1) (ix q0 a0<|it ((a0.getD q0.toNat x_bb).2.1=a2) (ix q0 a0<|(x_ex (a0.getD q0.toNat x_bb)).bind fun v1=>some (v1.1,()))<|L0 (i6 (q0+1)))<|L0 (i6 (q0+1)))<|some ((a1,a2,0,(-1),[]),())
def x_cq.l0 (K:Nat) (a0:y13) (a1:Int) (a2:Int):Nat→y33:=lp1 (x_cq.l0b K a0 a1 a2)
def x_cq.b (K:Nat) (a0:y13) (a1:Int) (a2:Int) (L0:y33):Option y24:=
 L0 0
def x_cq (K:Nat) (a0:y13) (a1:Int) (a2:Int):Option y24:=x_cq.b K a0 a1 a2 (x_cq.l0 K a0 a1 a2 K)
def x_b2.l0b (K:Nat) (a0:x_at) (a1:Int) (a2:Int) (L0:y34) (q0:Int):Option y29:=
 it (q0<a0.2.2.2.2.length) (ix q0 a0.2.2.2.2<|it ((a0.2.2.2.2.getD q0.toNat x_ie).1=a2) (ix q0 a0.2.2.2.2<|some (1,(a0.2.2.2.2.getD q0.toNat x_ie).2,()))<|L0 (i6 (q0+1)))<|some (2,0,())
def x_b2.l0 (K:Nat) (a0:x_at) (a1:Int) (a2:Int):Nat→y34:=lp1 (x_b2.l0b K a0 a1 a2)
def x_b2.b (K:Nat) (a0:x_at) (a1:Int) (a2:Int) (L0:y34):Option y29:=
 it (a1<a0.2.2.1) (some (4,0,()))<|it (a1>a0.2.2.1) (it (a2=0) (some (0,0,()))<|some (3,0,()))<|it (a2>a0.2.2.2.1) (it ((i6 (a2-1))=a0.2.2.2.1) (some (0,0,()))<|some (3,0,()))<|L0 0
def x_b2 (K:Nat) (a0:x_at) (a1:Int) (a2:Int):Option y29:=x_b2.b K a0 a1 a2 (x_b2.l0 K a0 a1 a2 K)
def x_l0 (K:Nat) (a0:TRow) (a1:y2) (a2:y2) (a3:Int) (a4:Int):Option (TRow×Int×Bool×Unit):=
 (x_h9 a0).bind fun v1=>(x_ec K a0).bind fun v2=>cond (!v2.1) (some (v1.1,0,false,()))<|gr 57 v1.1.2.2 [(a0.2.1,a1,a2,a3,a4)]<|(x_ec K (v1.1.1,i6 (a0.2.1+1),v1.1.2.2++[(a0.2.1,a1,a2,a3,a4)])).bind fun v3=>cond (!v3.1) ((x_h9 a0).bind fun v4=>some (v4.1,0,false,()))<|some ((v1.1.1,i6 (a0.2.1+1),v1.1.2.2++[(a0.2.1,a1,a2,a3,a4)]),a0.2.1,true,())
def x_ef.j0 (K:Nat) (p3:y9) (a3:Int) (a4:Int) (a1:Int) (v1:y24) (a2:Int):Option y24:=
 gr 17 p3 [(a3,a4)]<|(x_gp a1 0).bind fun v4=>it ((p3++[(a3,a4)]).length>v4.1) ((x_gp a1 0).bind fun v5=>ck (((p3++[(a3,a4)]).length:Int)=((p3++[(a3,a4)]).length:Int))<|ck (0≤(i6 (((p3++[(a3,a4)]).length:Int)-v5.1)))<|ck ((i6 (((p3++[(a3,a4)]).length:Int)-v5.1))≤(p3++[(a3,a4)]).length)<|ck (((p3++[(a3,a4)]).length:Int)≤(p3++[(a3,a4)]).length)<|gr 17 [] (((p3++[(a3,a4)]).take (((p3++[(a3,a4)]).length:Int).toNat)).drop ((i6 (((p3++[(a3,a4)]).length:Int)-v5.1)).toNat))<|some ((v1.1.1,v1.1.2.1,a2,a3,[]++(((p3++[(a3,a4)]).take (((p3++[(a3,a4)]).length:Int).toNat)).drop ((i6 (((p3++[(a3,a4)]).length:Int)-v5.1)).toNat))),()))<|some ((v1.1.1,v1.1.2.1,a2,a3,p3++[(a3,a4)]),())
def x_ef (K:Nat) (a0:x_at) (a1:Int) (a2:Int) (a3:Int) (a4:Int):Option y24:=
 (x_ex a0).bind fun v1=>(x_b2 K a0 a2 a3).bind fun v2=>nit (v2.1=0) (some (v1.1,()))<|it (a2>a0.2.2.1) (x_ef.j0 K [] a3 a4 a1 v1 a2)<|x_ef.j0 K v1.1.2.2.2.2 a3 a4 a1 v1 a2
def x_bi.j0 (K:Nat) (L0:y113) (q1:Bool) (a0:y13) (q2:Int) (a1:x_at) (q0:y13):Option y51:=
 cond (!q1) (it ((a0.getD q2.toNat x_bb).1>a1.1) ((x_ex a1).bind fun v2=>gr 57 q0 [v2.1]<|(x_ex (a0.getD q2.toNat x_bb)).bind fun v4=>gr 57 (q0++[v2.1]) [v4.1]<|L0 ((q0++[v2.1])++[v4.1]) true (i6 (q2+1)))<|it ((a0.getD q2.toNat x_bb).1=a1.1) (it ((a0.getD q2.toNat x_bb).2.1>a1.2.1) ((x_ex a1).bind fun v3=>gr 57 q0 [v3.1]<|(x_ex (a0.getD q2.toNat x_bb)).bind fun v5=>gr 57 (q0++[v3.1]) [v5.1]<|L0 ((q0++[v3.1])++[v5.1]) true (i6 (q2+1)))<|(x_ex (a0.getD q2.toNat x_bb)).bind fun v6=>gr 57 q0 [v6.1]<|L0 (q0++[v6.1]) q1 (i6 (q2+1)))<|(x_ex (a0.getD q2.toNat x_bb)).bind fun v7=>gr 57 q0 [v7.1]<|L0 (q0++[v7.1]) q1 (i6 (q2+1)))<|(x_ex (a0.getD q2.toNat x_bb)).bind fun v8=>gr 57 q0 [v8.1]<|L0 (q0++[v8.1]) q1 (i6 (q2+1))
def x_bi.l0b (K:Nat) (a0:y13) (a1:x_at) (L0:y113) (q0:y13) (q1:Bool) (q2:Int):Option y51:=
 it (q2<a0.length) (ix q2 a0<|it ((a0.getD q2.toNat x_bb).1=a1.1) (it ((a0.getD q2.toNat x_bb).2.1=a1.2.1) (cond (!q1) ((x_ex a1).bind fun v1=>gr 57 q0 [v1.1]<|L0 (q0++[v1.1]) true (i6 (q2+1)))<|L0 q0 q1 (i6 (q2+1)))<|x_bi.j0 K L0 q1 a0 q2 a1 q0)<|x_bi.j0 K L0 q1 a0 q2 a1 q0)<|cond (!q1) ((x_ex a1).bind fun v9=>gr 57 q0 [v9.1]<|some (q0++[v9.1],()))<|some (q0,())
def x_bi.l0 (K:Nat) (a0:y13) (a1:x_at):Nat→y113:=lp3 (x_bi.l0b K a0 a1)
def x_bi.b (K:Nat) (a0:y13) (a1:x_at) (L0:y113):Option y51:=
 L0 [] false 0
def x_bi (K:Nat) (a0:y13) (a1:x_at):Option y51:=x_bi.b K a0 a1 (x_bi.l0 K a0 a1 K)
def x_wt (K:Nat) (a0:x_d) (a1:x_ai) (a2:TCmd):Option y62:=
 (x_cq K a1.2.1 a2.2.2.2.1 a2.1).bind fun v1=>(x_b2 K v1.1 a2.2.2.2.2.2.1 a2.2.2.2.2.1).bind fun v2=>it (v2.1=1) (some (a1,(1,v2.2.1,ByteArray.empty,ByteArray.empty),()))<|it (v2.1=2) (some (a1,(2,0,ByteArray.empty,ByteArray.empty),()))<|it (v2.1=3) (some (a1,(3,0,ByteArray.empty,ByteArray.empty),()))<|it (v2.1=4) (some (a1,(4,0,ByteArray.empty,ByteArray.empty),()))<|ix a2.2.2.2.1 a1.1<|(x_l0 K (a1.1.getD a2.2.2.2.1.toNat zRow) a2.2.2.2.2.2.2.1 a2.2.2.2.2.2.2.2 a2.1 a1.2.2.2.1).bind fun v3=>cond (!v3.2.2.1) (some (a1,(8,0,ByteArray.empty,ByteArray.empty),()))<|ix a2.2.2.2.1 a1.1<|(x_ef K v1.1 a0.2.1 a2.2.2.2.2.2.1 a2.2.2.2.2.1 v3.2.1).bind fun v4=>(x_bi K a1.2.1 v4.1).bind fun v5=>some ((a1.1.set a2.2.2.2.1.toNat v3.1,v5.1,a1.2.2),(0,v3.2.1,ByteArray.empty,ByteArray.empty),())
def x_ms (K:Nat) (a0:x_ai) (a1:TCmd):Option y62:=
 (x_cq K a0.2.1 a1.2.2.2.1 a1.1).bind fun v1=>it (a1.2.2.2.2.1≤v1.1.2.2.1) (some (a0,(4,v1.1.2.2.1,ByteArray.empty,ByteArray.empty),()))<|(x_bi K a0.2.1 (a1.2.2.2.1,a1.1,a1.2.2.2.2.1,(-1),[])).bind fun v2=>some ((a0.1,v2.1,a0.2.2),(0,a1.2.2.2.2.1,ByteArray.empty,ByteArray.empty),())
def x_d2.l0b (K:Nat) (a0:TRow) (a1:Int) (L0:y35) (q0:Int):Option y40:=
 it (q0<a0.2.2.length) (ix q0 a0.2.2<|it ((a0.2.2.getD q0.toNat x_ce).1≥a1) (ix q0 a0.2.2<|some (a0.2.2.getD q0.toNat x_ce,0,()))<|L0 (i6 (q0+1)))<|some ((0,ByteArray.empty,ByteArray.empty,0,0),2,())
def x_d2.l0 (K:Nat) (a0:TRow) (a1:Int):Nat→y35:=lp1 (x_d2.l0b K a0 a1)
def x_d2.b (K:Nat) (a0:TRow) (a1:Int) (L0:y35):Option y40:=
 it (a1<a0.1) (some ((0,ByteArray.empty,ByteArray.empty,0,0),1,()))<|L0 0
def x_d2 (K:Nat) (a0:TRow) (a1:Int):Option y40:=x_d2.b K a0 a1 (x_d2.l0 K a0 a1 K)
def x_a0.l0b (K:Nat) (a0:TRow) (a1:Int) (a2:Int) (L1:y124) (q1:Int) (v1:y16) (q2:y8):Option y16:=
 it (q2.length>a2) (ck (0<(q2.length:Int))<|ck (a1≠0)<|ck (a1≠0)<|it ((i6 (Int.tdiv (q2.getD 0 x_ce).1 a1))=(i6 (Int.tdiv (i6 (a0.2.1-1)) a1))) (some ((q1,v1.1.2.1,q2),()))<|L1 q2 0 q1 v1)<|some ((q1,v1.1.2.1,q2),())
def x_a0.l1b (K:Nat) (a0:TRow) (a1:Int) (a2:Int) (L0:y114) (L1:y124) (q2:y8) (q3:Int) (q1:Int) (v1:y16):Option y16:=
 it (q3<q2.length) (ix q3 q2<|ck (a1≠0)<|it ((i6 (Int.tdiv (q2.getD q3.toNat x_ce).1 a1))=(i6 (Int.tdiv (q2.getD 0 x_ce).1 a1))) (L1 q2 (i6 (q3+1)) q1 v1)<|ck ((q2.length:Int)=(q2.length:Int))<|ck (0≤q3)<|ck (q3≤q2.length)<|ck ((q2.length:Int)≤q2.length)<|gr 57 [] ((q2.take ((q2.length:Int).toNat)).drop q3.toNat)<|L0 (i6 ((i6 ((i6 (Int.tdiv (q2.getD 0 x_ce).1 a1))+1))*a1)) v1 ([]++((q2.take ((q2.length:Int).toNat)).drop q3.toNat)))<|ck ((q2.length:Int)=(q2.length:Int))<|ck (0≤q3)<|ck (q3≤q2.length)<|ck ((q2.length:Int)≤q2.length)<|gr 57 [] ((q2.take ((q2.length:Int).toNat)).drop q3.toNat)<|L0 (i6 ((i6 ((i6 (Int.tdiv (q2.getD 0 x_ce).1 a1))+1))*a1)) v1 ([]++((q2.take ((q2.length:Int).toNat)).drop q3.toNat))
def x_a0.l1 (K:Nat) (a0:TRow) (a1:Int) (a2:Int) (L0:y114):Nat→y124:=lp4 (x_a0.l1b K a0 a1 a2 L0)
def x_a0.l0 (K:Nat) (a0:TRow) (a1:Int) (a2:Int):Nat→y114:=lp3 fun r=>x_a0.l0b K a0 a1 a2 (x_a0.l1 K a0 a1 a2 r K)
def x_a0.b (K:Nat) (a0:TRow) (a1:Int) (a2:Int) (L0:y114):Option y16:=
 (x_h9 a0).bind fun v1=>it (a1<1) (some (v1.1,()))<|it (a2<0) (some (v1.1,()))<|(x_ec K a0).bind fun v2=>cond (!v2.1) (some (v1.1,()))<|L0 v1.1.1 v1 v1.1.2.2
def x_a0 (K:Nat) (a0:TRow) (a1:Int) (a2:Int):Option y16:=x_a0.b K a0 a1 a2 (x_a0.l0 K a0 a1 a2 K)
def x_ca.l0b (K:Nat) (a0:TRow) (a1:Int) (L0:y30) (q0:Int):Option y11:=
 it (q0<a0.2.2.length) (ix q0 a0.2.2<|ix a1 a0.2.2<|it ((a0.2.2.getD q0.toNat x_ce).2.1.data.toList=(a0.2.2.getD a1.toNat x_ce).2.1.data.toList) (some (true,()))<|L0 (i6 (q0+1)))<|some (false,())
def x_ca.l0 (K:Nat) (a0:TRow) (a1:Int):Nat→y30:=lp1 (x_ca.l0b K a0 a1)
def x_ca.b (K:Nat) (a0:TRow) (a1:Int) (L0:y30):Option y11:=
 L0 (i6 (a1+1))
def x_ca (K:Nat) (a0:TRow) (a1:Int):Option y11:=x_ca.b K a0 a1 (x_ca.l0 K a0 a1 K)
def x_c5.l0b (K:Nat) (a0:TRow) (a1:Int) (L0:y82) (q0:Int) (q1:y8):Option y16:=
 it (q0<a0.2.2.length) (ix q0 a0.2.2<|it ((a0.2.2.getD q0.toNat x_ce).2.1.data.toList=ByteArray.empty.data.toList) (gr 57 q1 [a0.2.2.getD q0.toNat x_ce]<|L0 (i6 (q0+1)) (q1++[a0.2.2.getD q0.toNat x_ce]))<|(x_ca K a0 q0).bind fun v4=>cond (!v4.1) (gr 57 q1 [a0.2.2.getD q0.toNat x_ce]<|L0 (i6 (q0+1)) (q1++[a0.2.2.getD q0.toNat x_ce]))<|ck (a1≠0)<|ck (a1≠0)<|it ((i6 (Int.tdiv (a0.2.2.getD q0.toNat x_ce).1 a1))=(i6 (Int.tdiv (i6 (a0.2.1-1)) a1))) (gr 57 q1 [a0.2.2.getD q0.toNat x_ce]<|L0 (i6 (q0+1)) (q1++[a0.2.2.getD q0.toNat x_ce]))<|L0 (i6 (q0+1)) q1)<|some ((a0.1,a0.2.1,q1),())
def x_c5.l0 (K:Nat) (a0:TRow) (a1:Int):Nat→y82:=lp2 (x_c5.l0b K a0 a1)
def x_c5.b (K:Nat) (a0:TRow) (a1:Int) (L0:y82):Option y16:=
 it (a1<1) ((x_h9 a0).bind fun v2=>some (v2.1,()))<|(x_ec K a0).bind fun v1=>cond (!v1.1) ((x_h9 a0).bind fun v3=>some (v3.1,()))<|L0 0 []
def x_c5 (K:Nat) (a0:TRow) (a1:Int):Option y16:=x_c5.b K a0 a1 (x_c5.l0 K a0 a1 K)
def x_vw (K:Nat) (a0:x_d) (a1:x_ai) (a2:TCmd):Option y62:=
 it (a2.2.2.1=1) ((x_wt K a0 a1 a2).bind fun v1=>some (v1.1,v1.2.1,()))<|it (a2.2.2.1=3) ((x_ms K a1 a2).bind fun v2=>some (v2.1,v2.2.1,()))<|it (a2.2.2.1=2) (ix a2.2.2.2.1 a1.1<|(x_d2 K (a1.1.getD a2.2.2.2.1.toNat zRow) a2.2.2.2.2.1).bind fun v3=>it (v3.2.1=1) (some (a1,(6,0,ByteArray.empty,ByteArray.empty),()))<|it (v3.2.1=2) (some (a1,(7,0,ByteArray.empty,ByteArray.empty),()))<|some (a1,(0,v3.1.1,v3.1.2.1,v3.1.2.2.1),()))<|it (a2.2.2.1=9) (ix a2.2.2.2.1 a1.1<|(x_a0 K (a1.1.getD a2.2.2.2.1.toNat zRow) a0.2.2.1 a0.2.2.2).bind fun v4=>ix a2.2.2.2.1 a1.1<|ix a2.2.2.2.1 (a1.1.set a2.2.2.2.1.toNat v4.1)<|some ((a1.1.set a2.2.2.2.1.toNat v4.1,a1.2),(0,((a1.1.set a2.2.2.2.1.toNat v4.1).getD a2.2.2.2.1.toNat zRow).1,ByteArray.empty,ByteArray.empty),()))<|ix a2.2.2.2.1 a1.1<|(x_c5 K (a1.1.getD a2.2.2.2.1.toNat zRow) a0.2.2.1).bind fun v5=>ix a2.2.2.2.1 a1.1<|ix a2.2.2.2.1 (a1.1.set a2.2.2.2.1.toNat v5.1)<|some ((a1.1.set a2.2.2.2.1.toNat v5.1,a1.2),(0,((a1.1.set a2.2.2.2.1.toNat v5.1).getD a2.2.2.2.1.toNat zRow).1,ByteArray.empty,ByteArray.empty),())
def x_fj.l0b (K:Nat) (a0:x_d) (a1:x_ai) (a2:TCmd) (L0:y107) (q0:Int) (q1:y12) (v1:y7):Option y62:=
 it (q0<q1.length) (ix q0 q1<|(x_bl K (q1.getD q0.toNat x_bv) v1.1).bind fun v2=>ix q0 q1<|L0 (i6 (q0+1)) (q1.set q0.toNat v2.1) v1)<|some ((a1.1,a1.2.1,q1,v1.1,a1.2.2.2.2),(0,v1.1,ByteArray.empty,ByteArray.empty),())
def x_fj.l0 (K:Nat) (a0:x_d) (a1:x_ai) (a2:TCmd):Nat→y107:=lp3 (x_fj.l0b K a0 a1 a2)
def x_fj.b (K:Nat) (a0:x_d) (a1:x_ai) (a2:TCmd) (L0:y107):Option y62:=
 it (a2.2.2.1=8) ((x_hg 100000 (i6 (a1.2.2.2.1+a2.2.2.2.1))).bind fun v1=>L0 0 a1.2.2.1 v1)<|(x_bj a2.2.2.1 4 7).bind fun v3=>cond v3.1 (it (a2.2.2.2.1≥2) (some (a1,(9,0,ByteArray.empty,ByteArray.empty),()))<|(x_my K a0 a1 a2).bind fun v4=>some (v4.1,v4.2.1,()))<|it (a2.2.2.2.1≥a0.1) (some (a1,(5,0,ByteArray.empty,ByteArray.empty),()))<|(x_vw K a0 a1 a2).bind fun v5=>some (v5.1,v5.2.1,())
def x_fj (K:Nat) (a0:x_d) (a1:x_ai) (a2:TCmd):Option y62:=x_fj.b K a0 a1 a2 (x_fj.l0 K a0 a1 a2 K)
def x_zi (K:Nat) (a0:x_d) (a1:x_ai) (a2:TCmd):Option y62:=
 it (a2.1<0) ((x_aj K a1).bind fun v1=>some (v1.1,(0,0,ByteArray.empty,ByteArray.empty),()))<|ix a2.1 a1.2.2.2.2.1<|it (a2.2.1≤(a1.2.2.2.2.1.getD a2.1.toNat 0)) ((x_aj K a1).bind fun v2=>ix a2.1 a1.2.2.2.2.2<|some (v2.1,a1.2.2.2.2.2.getD a2.1.toNat x_b7,()))<|(x_aj K a1).bind fun v3=>(x_fj K a0 v3.1 a2).bind fun v4=>ix a2.1 v4.1.2.2.2.2.1<|ix a2.1 v4.1.2.2.2.2.2<|some ((v4.1.1,v4.1.2.1,v4.1.2.2.1,v4.1.2.2.2.1,v4.1.2.2.2.2.1.set a2.1.toNat a2.2.1,v4.1.2.2.2.2.2.set a2.1.toNat v4.2.1),v4.2.1,())
def x_rp (K:Nat) (a0:x_d) (a1:x_ai) (a2:TCmd):Option y18:=
 (x_zi K a0 a1 a2).bind fun v1=>some (v1.1,())
def x_em.l0b (K:Nat) (a0:y1) (a1:Int) (L0:y116) (v1:y29) (q0:Int) (q1:x_ai):Option y27:=
 (x_hg a1 v1.1).bind fun v2=>it (q0<v2.1) (ix (i6 (q0-a0.2.2.1.2.1.2.2.1.1)) a0.2.2.1.2.1.2.2.1.2.2<|(x_rp K a0.1 q1 (a0.2.2.1.2.1.2.2.1.2.2.getD ((i6 (q0-a0.2.2.1.2.1.2.2.1.1)).toNat) x_ay).2).bind fun v3=>L0 v1 (i6 (q0+1)) v3.1)<|some ((a0.1,a0.2.1,(a0.2.2.1.1,a0.2.2.1.2.1,a0.2.2.1.2.2.1,a0.2.2.1.2.2.2.1,a0.2.2.1.2.2.2.2.1,a0.2.2.1.2.2.2.2.2.1,q0,q1,a0.2.2.1.2.2.2.2.2.2.2.2),a0.2.2.2),())
def x_em.l0 (K:Nat) (a0:y1) (a1:Int):Nat→y116:=lp3 (x_em.l0b K a0 a1)
def x_em.b (K:Nat) (a0:y1) (a1:Int) (L0:y116):Option y27:=
 (x_ed a0.2.2.1.2.1.2.2.1).bind fun v1=>L0 v1 a0.2.2.1.2.2.2.2.2.2.1 a0.2.2.1.2.2.2.2.2.2.2.1
def x_em (K:Nat) (a0:y1) (a1:Int):Option y27:=x_em.b K a0 a1 (x_em.l0 K a0 a1 K)
def x_ge.j0 (K:Nat) (p8:Bool) (v1:y29) (a1:TRpc) (v3:y27) (v5:y39) (a0:y1) (v6:y29):Option y27:=
 cond p8 ((x_hg v1.1 (i6 (a1.2.2.2.2.1-1))).bind fun v9=>(x_gp v9.1 0).bind fun v10=>(x_ey K v3.1 a1.2.1 false v10.1).bind fun v11=>some (v11.1,()))<|(x_bd K v5.1.2.2 a0.2.2.1.2.1.2.2.1.2.2).bind fun v12=>cond (!v12.1) ((x_b1 K v3.1 v6.1).bind fun v13=>(x_fk K v13.1 (2,a1.2.2.2.2.2.1,0,a1.2.2.2.2.1,a1.2.2.2.2.2.2.2.1,ByteArray.empty)).bind fun v14=>cond v14.1.2.2.2 ((x_hg a1.2.2.2.2.2.2.1 (i6 (a1.2.2.2.2.1+(a1.2.2.2.2.2.2.2.1.length:Int)))).bind fun v15=>(x_em K v14.1 v15.1).bind fun v16=>(x_ey K v16.1 a1.2.1 true (i6 (a1.2.2.2.2.1+(a1.2.2.2.2.2.2.2.1.length:Int)))).bind fun v17=>some (v17.1,()))<|(x_ey K v14.1 a1.2.1 true (i6 (a1.2.2.2.2.1+(a1.2.2.2.2.2.2.2.1.length:Int)))).bind fun v18=>some (v18.1,()))<|cond v3.1.2.2.2 ((x_hg a1.2.2.2.2.2.2.1 (i6 (a1.2.2.2.2.1+(a1.2.2.2.2.2.2.2.1.length:Int)))).bind fun v19=>(x_em K v3.1 v19.1).bind fun v20=>(x_ey K v20.1 a1.2.1 true (i6 (a1.2.2.2.2.1+(a1.2.2.2.2.2.2.2.1.length:Int)))).bind fun v21=>some (v21.1,()))<|(x_ey K v3.1 a1.2.1 true (i6 (a1.2.2.2.2.1+(a1.2.2.2.2.2.2.2.1.length:Int)))).bind fun v22=>some (v22.1,())
def x_ge (K:Nat) (a0:y1) (a1:TRpc):Option y27:=
 (x_ed a0.2.2.1.2.1.2.2.1).bind fun v1=>it (a1.2.2.2.1<a0.2.2.1.2.1.1) ((x_ey K a0 a1.2.1 false v1.1).bind fun v2=>some (v2.1,()))<|(x_gk K a0 a1.2.2.2.1).bind fun v3=>it (a1.2.2.2.2.1<a0.2.2.1.2.1.2.2.1.1) ((x_ey K v3.1 a1.2.1 true a0.2.2.1.2.1.2.2.1.1).bind fun v4=>some (v4.1,()))<|(x_dy K a0.2.2.1.2.1.2.2.1 a1.2.2.2.2.1 a1.2.2.2.2.2.1 a1.2.2.2.2.2.2.2.1).bind fun v5=>(x_ed v5.1).bind fun v6=>cond (!v5.2.1) (x_ge.j0 K true v1 a1 v3 v5 a0 v6)<|it (v6.2.1>v3.1.2.2.1.2.1.1) (x_ge.j0 K true v1 a1 v3 v5 a0 v6)<|(x_da K v3.1.2.2.1 v5.1).bind fun v7=>x_ge.j0 K v7.1 v1 a1 v3 v5 a0 v6
def x_jb (K:Nat) (a0:y1) (a1:TRpc):Option y27:=
 (x_ed a0.2.2.1.2.1.2.2.1).bind fun v1=>it (a1.2.2.2.1<a0.2.2.1.2.1.1) ((x_ey K a0 a1.2.1 false v1.1).bind fun v2=>some (v2.1,()))<|(x_gk K a0 a1.2.2.2.1).bind fun v3=>it (a1.2.2.2.2.1≤v3.1.2.2.1.2.2.2.2.2.2.1) ((x_ey K v3.1 a1.2.1 true v3.1.2.2.1.2.2.2.2.2.2.1).bind fun v4=>some (v4.1,()))<|(x_gq a0.2.2.1.2.1.2.2.1 a1.2.2.2.2.1).bind fun v5=>it (v5.1=a1.2.2.2.2.2.1) ((x_em K v3.1 a1.2.2.2.2.1).bind fun v6=>(x_ey K v6.1 a1.2.1 true a1.2.2.2.2.1).bind fun v7=>some (v7.1,()))<|(x_kd K v3.1.1 (x_co a1.2.2.2.2.2.2.2.2.2)).bind fun v8=>cond (!v8.2.1) (some (v3.1,()))<|it (a1.2.2.2.2.2.1>v3.1.2.2.1.2.1.1) (some (v3.1,()))<|(x_b1 K (v3.1.1,v3.1.2.1,(v3.1.2.2.1.1,v3.1.2.2.1.2.1,v3.1.2.2.1.2.2.1,v3.1.2.2.1.2.2.2.1,v3.1.2.2.1.2.2.2.2.1,v3.1.2.2.1.2.2.2.2.2.1,a1.2.2.2.2.1,v8.1,v3.1.2.2.1.2.2.2.2.2.2.2.2),v3.1.2.2.2) a1.2.2.2.2.1).bind fun v9=>(x_fk K v9.1 (3,a1.2.2.2.2.2.1,0,a1.2.2.2.2.1,[],a1.2.2.2.2.2.2.2.2.2)).bind fun v10=>(x_ey K v10.1 a1.2.1 true a1.2.2.2.2.1).bind fun v11=>some (v11.1,())
def x_al.l0b (K:Nat) (a0:y1) (L1:y101) (q2:Int):Option y27:=
 it (q2>a0.2.2.1.2.2.2.2.2.2.1) (it (a0.2.2.1.2.2.1=2) (L1 q2 0 0)<|some (a0,()))<|some (a0,())
def x_al.l1b (K:Nat) (a0:y1) (L0:y36) (L1:y101) (q2:Int) (q3:Int) (q4:Int):Option y27:=
 it (q4<a0.2.1) (ix q4 a0.2.2.1.2.2.2.2.2.1<|(x_r6 (decide ((a0.2.2.1.2.2.2.2.2.1.getD q4.toNat 0)≥q2))).bind fun v2=>L1 q2 (i6 (q3+v2.1)) (i6 (q4+1)))<|(x_gq a0.2.2.1.2.1.2.2.1 q2).bind fun v3=>it (v3.1=a0.2.2.1.2.1.1) ((x_uw a0.2.1).bind fun v4=>it (q3≥v4.1) ((x_em K a0 q2).bind fun v5=>some (v5.1,()))<|L0 (i6 (q2-1)))<|L0 (i6 (q2-1))
def x_al.l1 (K:Nat) (a0:y1) (L0:y36):Nat→y101:=lp3 (x_al.l1b K a0 L0)
def x_al.l0 (K:Nat) (a0:y1):Nat→y36:=lp1 fun r=>x_al.l0b K a0 (x_al.l1 K a0 r K)
def x_al.b (K:Nat) (a0:y1) (L0:y36):Option y27:=
 (x_ed a0.2.2.1.2.1.2.2.1).bind fun v1=>L0 v1.1
def x_al (K:Nat) (a0:y1):Option y27:=x_al.b K a0 (x_al.l0 K a0 K)
def x_ep.j0 (K:Nat) (a1:TRpc) (a0:y1):Option y27:=
 ix a1.2.1 a0.2.2.1.2.2.2.2.1<|ix a1.2.1 a0.2.2.1.2.2.2.2.2.1<|(x_gp (a0.2.2.1.2.2.2.2.1.getD a1.2.1.toNat 0) (i6 ((a0.2.2.1.2.2.2.2.2.1.getD a1.2.1.toNat 0)+1))).bind fun v6=>ix a1.2.1 a0.2.2.1.2.2.2.2.1<|(x_al K (a0.1,a0.2.1,(a0.2.2.1.1,a0.2.2.1.2.1,a0.2.2.1.2.2.1,a0.2.2.1.2.2.2.1,a0.2.2.1.2.2.2.2.1.set a1.2.1.toNat v6.1,a0.2.2.1.2.2.2.2.2),a0.2.2.2)).bind fun v7=>some (v7.1,())
def x_ep (K:Nat) (a0:y1) (a1:TRpc):Option y27:=
 nit (a0.2.2.1.2.2.1=2) (some (a0,()))<|nit (a1.2.2.2.1=a0.2.2.1.2.1.1) (some (a0,()))<|(x_ed a0.2.2.1.2.1.2.2.1).bind fun v1=>cond (!a1.2.2.2.2.2.2.2.2.1) (ix a1.2.1 a0.2.2.1.2.2.2.2.1<|(x_hg (a0.2.2.1.2.2.2.2.1.getD a1.2.1.toNat 0) (i6 (a1.2.2.2.2.1+1))).bind fun v2=>ix a1.2.1 a0.2.2.1.2.2.2.2.2.1<|(x_gp v2.1 (i6 ((a0.2.2.1.2.2.2.2.2.1.getD a1.2.1.toNat 0)+1))).bind fun v3=>ix a1.2.1 a0.2.2.1.2.2.2.2.1<|some ((a0.1,a0.2.1,(a0.2.2.1.1,a0.2.2.1.2.1,a0.2.2.1.2.2.1,a0.2.2.1.2.2.2.1,a0.2.2.1.2.2.2.2.1.set a1.2.1.toNat v3.1,a0.2.2.1.2.2.2.2.2),a0.2.2.2),()))<|ix a1.2.1 a0.2.2.1.2.2.2.2.2.1<|it (a1.2.2.2.2.1>(a0.2.2.1.2.2.2.2.2.1.getD a1.2.1.toNat 0)) (it (a1.2.2.2.2.1≤v1.1) (ix a1.2.1 a0.2.2.1.2.2.2.2.2.1<|ix a1.2.1 a0.2.2.1.2.2.2.2.1<|ix a1.2.1 (a0.2.2.1.2.2.2.2.2.1.set a1.2.1.toNat a1.2.2.2.2.1)<|(x_gp (a0.2.2.1.2.2.2.2.1.getD a1.2.1.toNat 0) (i6 (((a0.2.2.1.2.2.2.2.2.1.set a1.2.1.toNat a1.2.2.2.2.1).getD a1.2.1.toNat 0)+1))).bind fun v4=>ix a1.2.1 a0.2.2.1.2.2.2.2.1<|(x_al K (a0.1,a0.2.1,(a0.2.2.1.1,a0.2.2.1.2.1,a0.2.2.1.2.2.1,a0.2.2.1.2.2.2.1,a0.2.2.1.2.2.2.2.1.set a1.2.1.toNat v4.1,a0.2.2.1.2.2.2.2.2.1.set a1.2.1.toNat a1.2.2.2.2.1,a0.2.2.1.2.2.2.2.2.2),a0.2.2.2)).bind fun v5=>some (v5.1,()))<|x_ep.j0 K a1 a0)<|x_ep.j0 K a1 a0
def x_jq.j0 (K:Nat) (p13:y27) (a1:x_bq) (a0:x_d) (a2:Int):Option y42:=
 cond (!p13.1.2.2.2) ((x_ae K a1).bind fun v15=>some (v15.1,false,()))<|(x_as K a0 p13.1.2.2.1 a2).bind fun v14=>cond (!v14.1) ((x_ae K a1).bind fun v16=>some (v16.1,false,()))<|some (p13.1.2.2.1,true,())
def x_jq.j1 (K:Nat) (p25:y27) (a1:x_bq) (a0:x_d) (a2:Int):Option y42:=
 cond (!p25.1.2.2.2) ((x_ae K a1).bind fun v27=>some (v27.1,false,()))<|(x_as K a0 p25.1.2.2.1 a2).bind fun v26=>cond (!v26.1) ((x_ae K a1).bind fun v28=>some (v28.1,false,()))<|some (p25.1.2.2.1,true,())
def x_jq (K:Nat) (a0:x_d) (a1:x_bq) (a2:Int) (a3:TRpc):Option y42:=
 (x_as K a0 a1 a2).bind fun v1=>cond (!v1.1) ((x_ae K a1).bind fun v3=>some (v3.1,false,()))<|(x_n2 K a3 a2).bind fun v2=>cond (!v2.1) ((x_ae K a1).bind fun v4=>some (v4.1,false,()))<|nit (a3.2.2.1=a1.1) ((x_ae K a1).bind fun v5=>some (v5.1,false,()))<|(x_ae K a1).bind fun v6=>it (a3.2.2.2.1>a1.2.1.1) ((x_gk K (a0,a2,v6.1,true) a3.2.2.2.1).bind fun v7=>it (a3.1=1) ((x_f3 K v7.1 a3).bind fun v8=>x_jq.j0 K v8 a1 a0 a2)<|it (a3.1=2) ((x_cf K v7.1 a3).bind fun v9=>cond (!v9.1.2.2.2) ((x_ae K a1).bind fun v18=>some (v18.1,false,()))<|(x_as K a0 v9.1.2.2.1 a2).bind fun v17=>cond (!v17.1) ((x_ae K a1).bind fun v19=>some (v19.1,false,()))<|some (v9.1.2.2.1,true,()))<|it (a3.1=3) ((x_ge K v7.1 a3).bind fun v10=>x_jq.j0 K v10 a1 a0 a2)<|it (a3.1=5) ((x_jb K v7.1 a3).bind fun v11=>x_jq.j0 K v11 a1 a0 a2)<|(x_ep K v7.1 a3).bind fun v12=>x_jq.j0 K v12 a1 a0 a2)<|it (a3.1=1) ((x_f3 K (a0,a2,v6.1,true) a3).bind fun v20=>x_jq.j1 K v20 a1 a0 a2)<|it (a3.1=2) ((x_cf K (a0,a2,v6.1,true) a3).bind fun v21=>cond (!v21.1.2.2.2) ((x_ae K a1).bind fun v30=>some (v30.1,false,()))<|(x_as K a0 v21.1.2.2.1 a2).bind fun v29=>cond (!v29.1) ((x_ae K a1).bind fun v31=>some (v31.1,false,()))<|some (v21.1.2.2.1,true,()))<|it (a3.1=3) ((x_ge K (a0,a2,v6.1,true) a3).bind fun v22=>x_jq.j1 K v22 a1 a0 a2)<|it (a3.1=5) ((x_jb K (a0,a2,v6.1,true) a3).bind fun v23=>x_jq.j1 K v23 a1 a0 a2)<|(x_ep K (a0,a2,v6.1,true) a3).bind fun v24=>x_jq.j1 K v24 a1 a0 a2
def x_q6 (K:Nat) (a0:x_u) (a1:x_kc):Option y44:=
 (x_bj a1.2.1 0 (i6 ((a0.2.2.2.1.length:Int)-1))).bind fun v1=>cond (!v1.1) (some (a0,2,()))<|ix a1.2.1 a0.2.2.2.1<|it (a1.1=6) (it ((a0.2.2.2.1.length:Int)=40) (some (a0,4,()))<|(x_ll (a0.2.2.2.1.getD a1.2.1.toNat zRpc)).bind fun v2=>gr 105 a0.2.2.2.1 [v2.1]<|some ((a0.1,a0.2.1,a0.2.2.1,a0.2.2.2.1++[v2.1],a0.2.2.2.2),0,()))<|ck (a1.2.1=a1.2.1)<|ck (0≤a1.2.1)<|ck (a1.2.1≤a0.2.2.2.1.length)<|gr 105 [] ((a0.2.2.2.1.take a1.2.1.toNat).drop 0)<|ck ((a0.2.2.2.1.length:Int)=(a0.2.2.2.1.length:Int))<|ck (0≤(i6 (a1.2.1+1)))<|ck ((i6 (a1.2.1+1))≤a0.2.2.2.1.length)<|ck ((a0.2.2.2.1.length:Int)≤a0.2.2.2.1.length)<|gr 105 ([]++((a0.2.2.2.1.take a1.2.1.toNat).drop 0)) ((a0.2.2.2.1.take ((a0.2.2.2.1.length:Int).toNat)).drop ((i6 (a1.2.1+1)).toNat))<|it (a1.1=4) (ix (a0.2.2.2.1.getD a1.2.1.toNat zRpc).2.2.1 a0.2.2.1<|(x_jq K a0.1 (a0.2.2.1.getD ((a0.2.2.2.1.getD a1.2.1.toNat zRpc).2.2.1.toNat) x_bx) a0.2.1 (a0.2.2.2.1.getD a1.2.1.toNat zRpc)).bind fun v3=>cond v3.2.1 (ix (a0.2.2.2.1.getD a1.2.1.toNat zRpc).2.2.1 a0.2.2.1<|some ((a0.1,a0.2.1,a0.2.2.1.set ((a0.2.2.2.1.getD a1.2.1.toNat zRpc).2.2.1.toNat) v3.1,([]++((a0.2.2.2.1.take a1.2.1.toNat).drop 0))++((a0.2.2.2.1.take ((a0.2.2.2.1.length:Int).toNat)).drop ((i6 (a1.2.1+1)).toNat)),a0.2.2.2.2),0,()))<|some ((a0.1,a0.2.1,a0.2.2.1,([]++((a0.2.2.2.1.take a1.2.1.toNat).drop 0))++((a0.2.2.2.1.take ((a0.2.2.2.1.length:Int).toNat)).drop ((i6 (a1.2.1+1)).toNat)),a0.2.2.2.2),0,()))<|some ((a0.1,a0.2.1,a0.2.2.1,([]++((a0.2.2.2.1.take a1.2.1.toNat).drop 0))++((a0.2.2.2.1.take ((a0.2.2.2.1.length:Int).toNat)).drop ((i6 (a1.2.1+1)).toNat)),a0.2.2.2.2),0,())
def x_hc.l0b (K:Nat) (a0:x_u) (a1:Int) (a2:Int) (L0:y30) (q0:Int):Option y11:=
 it (q0<a0.2.2.2.2.2.2.1.length) (ix q0 a0.2.2.2.2.2.2.1<|it ((a0.2.2.2.2.2.2.1.getD q0.toNat x_ik).1=a1) (ix q0 a0.2.2.2.2.2.2.1<|it ((a0.2.2.2.2.2.2.1.getD q0.toNat x_ik).2.1=a2) (some (true,()))<|L0 (i6 (q0+1)))<|L0 (i6 (q0+1)))<|some (false,())
def x_hc.l0 (K:Nat) (a0:x_u) (a1:Int) (a2:Int):Nat→y30:=lp1 (x_hc.l0b K a0 a1 a2)
def x_hc.b (K:Nat) (a0:x_u) (a1:Int) (a2:Int) (L0:y30):Option y11:=
 L0 0
def x_hc (K:Nat) (a0:x_u) (a1:Int) (a2:Int):Option y11:=x_hc.b K a0 a1 a2 (x_hc.l0 K a0 a1 a2 K)
def x_na (K:Nat) (a0:x_u) (a1:x_kc):Option y44:=
 ix a1.2.2.1 a0.2.2.2.2.1<|ix a1.2.1 a0.2.2.1<|it ((a0.2.2.2.2.1.getD a1.2.2.1.toNat zCmd).2.1=0) (some (a0,3,()))<|(x_hc K a0 a1.2.2.1 (a0.2.2.2.2.1.getD a1.2.2.1.toNat zCmd).2.1).bind fun v1=>cond v1.1 (some (a0,3,()))<|ix a1.2.2.1 (a0.2.2.1.getD a1.2.1.toNat x_bx).2.2.2.2.2.2.2.1.2.2.2.2.1<|it (((a0.2.2.1.getD a1.2.1.toNat x_bx).2.2.2.2.2.2.2.1.2.2.2.2.1.getD a1.2.2.1.toNat 0)<(a0.2.2.2.2.1.getD a1.2.2.1.toNat zCmd).2.1) (some (a0,3,()))<|it ((a0.2.2.2.2.2.2.1.length:Int)≥300) (some (a0,4,()))<|ix a1.2.2.1 (a0.2.2.1.getD a1.2.1.toNat x_bx).2.2.2.2.2.2.2.1.2.2.2.2.2<|ix a1.2.2.1 a0.2.2.2.2.2.1<|gr 81 a0.2.2.2.2.2.2.1 [(a1.2.2.1,(a0.2.2.2.2.1.getD a1.2.2.1.toNat zCmd).2.1,(a0.2.2.1.getD a1.2.1.toNat x_bx).2.2.2.2.2.2.2.1.2.2.2.2.2.getD a1.2.2.1.toNat x_b7,a0.2.2.2.2.2.1.getD a1.2.2.1.toNat 0,(a0.2.2.2.2.2.2.2.length:Int))]<|some ((a0.1,a0.2.1,a0.2.2.1,a0.2.2.2.1,a0.2.2.2.2.1,a0.2.2.2.2.2.1,a0.2.2.2.2.2.2.1++[(a1.2.2.1,(a0.2.2.2.2.1.getD a1.2.2.1.toNat zCmd).2.1,(a0.2.2.1.getD a1.2.1.toNat x_bx).2.2.2.2.2.2.2.1.2.2.2.2.2.getD a1.2.2.1.toNat x_b7,a0.2.2.2.2.2.1.getD a1.2.2.1.toNat 0,(a0.2.2.2.2.2.2.2.length:Int))],a0.2.2.2.2.2.2.2),0,())
def x_ji (K:Nat) (a0:x_d) (a1:x_bq) (a2:Int) (a3:TCmd):Option y42:=
 (x_as K a0 a1 a2).bind fun v1=>cond (!v1.1) ((x_ae K a1).bind fun v3=>some (v3.1,false,()))<|nit (a1.2.2.1=2) ((x_ae K a1).bind fun v4=>some (v4.1,false,()))<|(x_jv K a3).bind fun v2=>cond (!v2.1) ((x_ae K a1).bind fun v5=>some (v5.1,false,()))<|(x_ed a1.2.1.2.2.1).bind fun v6=>(x_hh K a0 a1 (2,v6.2.1,0,v6.1,[(a1.2.1.1,a3)],ByteArray.empty)).bind fun v7=>cond (!v7.2.1) ((x_ae K a1).bind fun v8=>some (v8.1,false,()))<|it ((v7.1.2.1.2.2.1.2.2.length:Int)=a1.2.1.2.2.1.2.2.length) ((x_ae K a1).bind fun v9=>some (v9.1,false,()))<|some (v7.1,true,())
def x_ia.j0 (K:Nat) (a1:x_kc) (a0:x_u):Option y44:=
 ix a1.2.1 a0.2.2.1<|(x_ji K a0.1 (a0.2.2.1.getD a1.2.1.toNat x_bx) a0.2.1 (a1.2.2.1,i6 ((a0.2.2.2.2.1.getD a1.2.2.1.toNat zCmd).2.1+1),a1.2.2.2.2.2)).bind fun v2=>cond (!v2.2.1) (some (a0,3,()))<|it ((i6 ((a0.2.2.2.2.1.getD a1.2.2.1.toNat zCmd).2.1+1))=0) (some (a0,3,()))<|ix a1.2.1 a0.2.2.1<|it (a1.1=7) (ix a1.2.2.1 a0.2.2.2.2.1<|ix a1.2.2.1 a0.2.2.2.2.2.1<|some ((a0.1,a0.2.1,a0.2.2.1.set a1.2.1.toNat v2.1,a0.2.2.2.1,a0.2.2.2.2.1.set a1.2.2.1.toNat (a1.2.2.1,i6 ((a0.2.2.2.2.1.getD a1.2.2.1.toNat zCmd).2.1+1),a1.2.2.2.2.2),a0.2.2.2.2.2.1.set a1.2.2.1.toNat (a0.2.2.2.2.2.2.2.length:Int),a0.2.2.2.2.2.2),0,()))<|some ((a0.1,a0.2.1,a0.2.2.1.set a1.2.1.toNat v2.1,a0.2.2.2),0,())
def x_ia (K:Nat) (a0:x_u) (a1:x_kc):Option y44:=
 ix a1.2.2.1 a0.2.2.2.2.1<|it (a1.1=7) (it ((a0.2.2.2.2.1.getD a1.2.2.1.toNat zCmd).2.1>0) ((x_hc K a0 a1.2.2.1 (a0.2.2.2.2.1.getD a1.2.2.1.toNat zCmd).2.1).bind fun v1=>cond (!v1.1) (some (a0,3,()))<|x_ia.j0 K a1 a0)<|x_ia.j0 K a1 a0)<|ix a1.2.1 a0.2.2.1<|(x_ji K a0.1 (a0.2.2.1.getD a1.2.1.toNat x_bx) a0.2.1 (a0.2.2.2.2.1.getD a1.2.2.1.toNat zCmd)).bind fun v3=>cond (!v3.2.1) (some (a0,3,()))<|it ((a0.2.2.2.2.1.getD a1.2.2.1.toNat zCmd).2.1=0) (some (a0,3,()))<|ix a1.2.1 a0.2.2.1<|it (a1.1=7) (ix a1.2.2.1 a0.2.2.2.2.1<|ix a1.2.2.1 a0.2.2.2.2.2.1<|some ((a0.1,a0.2.1,a0.2.2.1.set a1.2.1.toNat v3.1,a0.2.2.2.1,a0.2.2.2.2.1.set a1.2.2.1.toNat (a0.2.2.2.2.1.getD a1.2.2.1.toNat zCmd),a0.2.2.2.2.2.1.set a1.2.2.1.toNat (a0.2.2.2.2.2.2.2.length:Int),a0.2.2.2.2.2.2),0,()))<|some ((a0.1,a0.2.1,a0.2.2.1.set a1.2.1.toNat v3.1,a0.2.2.2),0,())
def x_ph.l0b (K:Nat) (a0:x_d) (a1:x_bq) (a2:Int) (L0:y135) (v7:y29) (q0:Int) (q1:y27) (q2:Int) (q3:List Bool):Option y42:=
 it (q0<a2) (nit (q0=a1.1) ((x_e5 K (q1.1.1,q1.1.2.1,(q1.1.2.2.1.1,q1.1.2.2.1.2.1,q2,q3,q1.1.2.2.1.2.2.2.2),q1.1.2.2.2) (1,0,q0,0,v7.1,v7.2.1,0,[],false,ByteArray.empty)).bind fun v8=>L0 v7 (i6 (q0+1)) v8 v8.1.2.2.1.2.2.1 v8.1.2.2.1.2.2.2.1)<|L0 v7 (i6 (q0+1)) q1 q2 q3)<|cond (!q1.1.2.2.2) ((x_ae K a1).bind fun v9=>some (v9.1,false,()))<|(x_uw a2).bind fun v10=>it (v10.1=1) ((x_lg K (q1.1.1,q1.1.2.1,(q1.1.2.2.1.1,q1.1.2.2.1.2.1,q2,q3,q1.1.2.2.1.2.2.2.2),q1.1.2.2.2)).bind fun v11=>some (v11.1.2.2.1,true,()))<|some ((q1.1.2.2.1.1,q1.1.2.2.1.2.1,q2,q3,q1.1.2.2.1.2.2.2.2),true,())
def x_ph.l0 (K:Nat) (a0:x_d) (a1:x_bq) (a2:Int):Nat→y135:=lp5 (x_ph.l0b K a0 a1 a2)
def x_ph.b (K:Nat) (a0:x_d) (a1:x_bq) (a2:Int) (L0:y135):Option y42:=
 (x_as K a0 a1 a2).bind fun v1=>cond (!v1.1) ((x_ae K a1).bind fun v2=>some (v2.1,false,()))<|it (a1.2.2.1=2) ((x_ae K a1).bind fun v3=>some (v3.1,false,()))<|it (a1.2.1.1=300) ((x_ae K a1).bind fun v4=>some (v4.1,false,()))<|(x_ae K a1).bind fun v5=>(x_fk K (a0,a2,v5.1,true) (1,i6 (a1.2.1.1+1),a1.1,0,[],ByteArray.empty)).bind fun v6=>ck (a2=a2)<|ck (0≤a2)<|ck (a2.toNat*2≤x_en)<|ix a1.1 (List.replicate a2.toNat false)<|(x_ed a1.2.1.2.2.1).bind fun v7=>L0 v7 0 v6 1 ((List.replicate a2.toNat false).set a1.1.toNat true)
def x_ph (K:Nat) (a0:x_d) (a1:x_bq) (a2:Int):Option y42:=x_ph.b K a0 a1 a2 (x_ph.l0 K a0 a1 a2 K)
def x_no (a0:x_u) (a1:x_bq) (a2:Bool):Option y44:=
 cond (!a2) (some (a0,3,()))<|ix a1.1 a0.2.2.1<|some ((a0.1,a0.2.1,a0.2.2.1.set a1.1.toNat a1,a0.2.2.2),0,())
def x_b.l0b (K:Nat) (a0:x_ai) (L1:y102) (L2:y68) (q2:y0) (q3:Int):Option y31:=
 it (q3<a0.1.length) (ix q3 a0.1<|(x_cc K [(a0.1.getD q3.toNat zRow).1,(a0.1.getD q3.toNat zRow).2.1,((a0.1.getD q3.toNat zRow).2.2.length:Int)]).bind fun v2=>gr 2 q2 v2.1<|L1 (q2++v2.1) q3 0)<|(x_bw K (a0.2.1.length:Int)).bind fun v7=>gr 2 q2 v7.1<|L2 (q2++v7.1) 0
def x_b.l1b (K:Nat) (a0:x_ai) (L0:y68) (L1:y102) (q4:y0) (q3:Int) (q5:Int):Option y31:=
 it (q5<(a0.1.getD q3.toNat zRow).2.2.length) (ix q5 (a0.1.getD q3.toNat zRow).2.2<|(x_bw K ((a0.1.getD q3.toNat zRow).2.2.getD q5.toNat x_ce).1).bind fun v3=>gr 2 q4 v3.1<|(x_e4 K ((a0.1.getD q3.toNat zRow).2.2.getD q5.toNat x_ce).2.1).bind fun v4=>gr 2 (q4++v3.1) v4.1<|(x_e4 K ((a0.1.getD q3.toNat zRow).2.2.getD q5.toNat x_ce).2.2.1).bind fun v5=>gr 2 ((q4++v3.1)++v4.1) v5.1<|(x_cc K [((a0.1.getD q3.toNat zRow).2.2.getD q5.toNat x_ce).2.2.2.1,((a0.1.getD q3.toNat zRow).2.2.getD q5.toNat x_ce).2.2.2.2]).bind fun v6=>gr 2 (((q4++v3.1)++v4.1)++v5.1) v6.1<|L1 ((((q4++v3.1)++v4.1)++v5.1)++v6.1) q3 (i6 (q5+1)))<|L0 q4 (i6 (q3+1))
def x_b.l2b (K:Nat) (a0:x_ai) (L3:y102) (L4:y68) (q8:y0) (q9:Int):Option y31:=
 it (q9<a0.2.1.length) (ix q9 a0.2.1<|(x_cc K [(a0.2.1.getD q9.toNat x_bb).1,(a0.2.1.getD q9.toNat x_bb).2.1,(a0.2.1.getD q9.toNat x_bb).2.2.1,i6 ((a0.2.1.getD q9.toNat x_bb).2.2.2.1+1),((a0.2.1.getD q9.toNat x_bb).2.2.2.2.length:Int)]).bind fun v8=>gr 2 q8 v8.1<|L3 (q8++v8.1) q9 0)<|(x_bw K (a0.2.2.1.length:Int)).bind fun v10=>gr 2 q8 v10.1<|L4 (q8++v10.1) 0
def x_b.l3b (K:Nat) (a0:x_ai) (L2:y68) (L3:y102) (q10:y0) (q9:Int) (q11:Int):Option y31:=
 it (q11<(a0.2.1.getD q9.toNat x_bb).2.2.2.2.length) (ix q11 (a0.2.1.getD q9.toNat x_bb).2.2.2.2<|ix q11 (a0.2.1.getD q9.toNat x_bb).2.2.2.2<|(x_cc K [((a0.2.1.getD q9.toNat x_bb).2.2.2.2.getD q11.toNat x_ie).1,((a0.2.1.getD q9.toNat x_bb).2.2.2.2.getD q11.toNat x_ie).2]).bind fun v9=>gr 2 q10 v9.1<|L3 (q10++v9.1) q9 (i6 (q11+1)))<|L2 q10 (i6 (q9+1))
def x_b.l4b (K:Nat) (a0:x_ai) (L5:y102) (L6:y68) (q14:y0) (q15:Int):Option y31:=
 it (q15<a0.2.2.1.length) (ix q15 a0.2.2.1<|(x_cc K [(a0.2.2.1.getD q15.toNat x_bv).1,((a0.2.2.1.getD q15.toNat x_bv).2.1.length:Int)]).bind fun v11=>gr 2 q14 v11.1<|L5 (q14++v11.1) q15 0)<|(x_bw K a0.2.2.2.1).bind fun v14=>gr 2 q14 v14.1<|L6 (q14++v14.1) 0
def x_b.l5b (K:Nat) (a0:x_ai) (L4:y68) (L5:y102) (q16:y0) (q15:Int) (q17:Int):Option y31:=
 it (q17<(a0.2.2.1.getD q15.toNat x_bv).2.1.length) (ix q17 (a0.2.2.1.getD q15.toNat x_bv).2.1<|ix q17 (a0.2.2.1.getD q15.toNat x_bv).2.2.1<|(x_cc K [(a0.2.2.1.getD q15.toNat x_bv).2.1.getD q17.toNat 0,(a0.2.2.1.getD q15.toNat x_bv).2.2.1.getD q17.toNat 0]).bind fun v12=>gr 2 q16 v12.1<|L5 (q16++v12.1) q15 (i6 (q17+1)))<|(x_cc K (a0.2.2.1.getD q15.toNat x_bv).2.2.2).bind fun v13=>gr 2 q16 v13.1<|L4 (q16++v13.1) (i6 (q15+1))
def x_b.l6b (K:Nat) (a0:x_ai) (L6:y68) (q18:y0) (q19:Int):Option y31:=
 it (q19<a0.2.2.2.2.1.length) (ix q19 a0.2.2.2.2.2<|ix q19 a0.2.2.2.2.1<|(x_cc K [a0.2.2.2.2.1.getD q19.toNat 0,(a0.2.2.2.2.2.getD q19.toNat x_b7).1,i6 ((a0.2.2.2.2.2.getD q19.toNat x_b7).2.1+1)]).bind fun v15=>gr 2 q18 v15.1<|(x_e4 K (a0.2.2.2.2.2.getD q19.toNat x_b7).2.2.1).bind fun v16=>gr 2 (q18++v15.1) v16.1<|(x_e4 K (a0.2.2.2.2.2.getD q19.toNat x_b7).2.2.2).bind fun v17=>gr 2 ((q18++v15.1)++v16.1) v17.1<|L6 (((q18++v15.1)++v16.1)++v17.1) (i6 (q19+1)))<|some (q18,())
def x_b.l1 (K:Nat) (a0:x_ai) (L0:y68):Nat→y102:=lp3 (x_b.l1b K a0 L0)
def x_b.l3 (K:Nat) (a0:x_ai) (L2:y68):Nat→y102:=lp3 (x_b.l3b K a0 L2)
def x_b.l5 (K:Nat) (a0:x_ai) (L4:y68):Nat→y102:=lp3 (x_b.l5b K a0 L4)
def x_b.l6 (K:Nat) (a0:x_ai):Nat→y68:=lp2 (x_b.l6b K a0)
def x_b.l4 (K:Nat) (a0:x_ai):Nat→y68:=lp2 fun r=>x_b.l4b K a0 (x_b.l5 K a0 r K) (x_b.l6 K a0 K)
def x_b.l2 (K:Nat) (a0:x_ai):Nat→y68:=lp2 fun r=>x_b.l2b K a0 (x_b.l3 K a0 r K) (x_b.l4 K a0 K)
def x_b.l0 (K:Nat) (a0:x_ai):Nat→y68:=lp2 fun r=>x_b.l0b K a0 (x_b.l1 K a0 r K) (x_b.l2 K a0 K)
def x_b.b (K:Nat) (a0:x_ai) (L0:y68):Option y31:=
 (x_bw K (a0.1.length:Int)).bind fun v1=>L0 v1.1 0
def x_b (K:Nat) (a0:x_ai):Option y31:=x_b.b K a0 (x_b.l0 K a0 K)
def s_From (a0:TLog) (a1:Int):Option ((List x_c6)×Unit):=
 (x_wz a0 a1).bind fun v1=>it (v1.1<0) (some ([],()))<|ck ((a0.2.2.length:Int)=(a0.2.2.length:Int))<|ck (0≤v1.1)<|ck (v1.1≤a0.2.2.length)<|ck ((a0.2.2.length:Int)≤a0.2.2.length)<|gr 89 [] ((a0.2.2.take ((a0.2.2.length:Int).toNat)).drop v1.1.toNat)<|some ([]++((a0.2.2.take ((a0.2.2.length:Int).toNat)).drop v1.1.toNat),())
def s_Feed (K:Nat) (a0:x_d) (a1:x_bq) (a2:Int) (a3:Int):Option y42:=
 (x_as K a0 a1 a2).bind fun v1=>cond (!v1.1) ((x_ae K a1).bind fun v3=>some (v3.1,false,()))<|nit (a1.2.2.1=2) ((x_ae K a1).bind fun v4=>some (v4.1,false,()))<|it (a3=a1.1) ((x_ae K a1).bind fun v5=>some (v5.1,false,()))<|(x_bj a3 0 (i6 (a2-1))).bind fun v2=>cond (!v2.1) ((x_ae K a1).bind fun v6=>some (v6.1,false,()))<|(x_ae K a1).bind fun v7=>ix a3 a1.2.2.2.2.1<|it ((a1.2.2.2.2.1.getD a3.toNat 0)≤a1.2.1.2.2.1.1) ((x_b K a1.2.1.2.2.2).bind fun v8=>(x_e5 K (a0,a2,v7.1,true) (5,0,a3,0,a1.2.1.2.2.1.1,a1.2.1.2.2.1.2.1,0,[],false,x_jo v8.1)).bind fun v9=>cond (!v9.1.2.2.2) ((x_ae K a1).bind fun v15=>some (v15.1,false,()))<|some (v9.1.2.2.1,true,()))<|(s_From a1.2.1.2.2.1 (a1.2.2.2.2.1.getD a3.toNat 0)).bind fun v10=>it ((v10.1.length:Int)>40) (ck (40≤(v10.1.length:Int))<|(x_gq a1.2.1.2.2.1 (i6 ((a1.2.2.2.2.1.getD a3.toNat 0)-1))).bind fun v11=>(x_e5 K (a0,a2,v7.1,true) (3,0,a3,0,i6 ((a1.2.2.2.2.1.getD a3.toNat 0)-1),v11.1,a1.2.2.2.2.2.2.1,(v10.1.take 40).drop 0,false,ByteArray.empty)).bind fun v12=>cond (!v12.1.2.2.2) ((x_ae K a1).bind fun v16=>some (v16.1,false,()))<|some (v12.1.2.2.1,true,()))<|(x_gq a1.2.1.2.2.1 (i6 ((a1.2.2.2.2.1.getD a3.toNat 0)-1))).bind fun v13=>(x_e5 K (a0,a2,v7.1,true) (3,0,a3,0,i6 ((a1.2.2.2.2.1.getD a3.toNat 0)-1),v13.1,a1.2.2.2.2.2.2.1,v10.1,false,ByteArray.empty)).bind fun v14=>cond (!v14.1.2.2.2) ((x_ae K a1).bind fun v17=>some (v17.1,false,()))<|some (v14.1.2.2.1,true,())
def s_Sync (a0:x_pu):Option y20:=
 (x_h7 a0).bind fun v1=>(x_j9 a0).bind fun v2=>cond v2.1 (some ((v1.1.1,(a0.1.length:Int)),()))<|some (v1.1,())
def x_nd (K:Nat) (a0:x_d) (a1:x_bq) (a2:Int):Option (x_bq×(List TRpc)×Unit):=
 (x_ae K a1).bind fun v1=>(x_as K a0 a1 a2).bind fun v2=>cond (!v2.1) (some (v1.1,[],()))<|(s_Sync a1.2.2.2.2.2.2.2.2.1).bind fun v3=>it (a1.2.2.1=2) ((x_ed a1.2.1.2.2.1).bind fun v4=>ix a1.1 v1.1.2.2.2.2.2.1<|(x_al K (a0,a2,(v1.1.1,v1.1.2.1,v1.1.2.2.1,v1.1.2.2.2.1,v1.1.2.2.2.2.1,v1.1.2.2.2.2.2.1.set a1.1.toNat v4.1,v1.1.2.2.2.2.2.2.1,v1.1.2.2.2.2.2.2.2.1,v3.1,[]),true)).bind fun v5=>some (v5.1.2.2.1,v1.1.2.2.2.2.2.2.2.2.2,()))<|some ((v1.1.1,v1.1.2.1,v1.1.2.2.1,v1.1.2.2.2.1,v1.1.2.2.2.2.1,v1.1.2.2.2.2.2.1,v1.1.2.2.2.2.2.2.1,v1.1.2.2.2.2.2.2.2.1,v3.1,[]),v1.1.2.2.2.2.2.2.2.2.2,())
def x_mp (K:Nat) (a0:x_u) (a1:Int):Option y44:=
 ix a1 a0.2.2.1<|(x_nd K a0.1 (a0.2.2.1.getD a1.toNat x_bx) a0.2.1).bind fun v1=>it (v1.2.1.length>(i6 (40-(a0.2.2.2.1.length:Int)))) (some (a0,4,()))<|ix a1 a0.2.2.1<|gr 105 a0.2.2.2.1 v1.2.1<|some ((a0.1,a0.2.1,a0.2.2.1.set a1.toNat v1.1,a0.2.2.2.1++v1.2.1,a0.2.2.2.2),0,())
def s_Fall (a0:x_pu) (a1:Int):Option y20:=
 (x_j9 a0).bind fun v1=>cond (!v1.1) ((x_h7 a0).bind fun v2=>some (v2.1,()))<|(x_hg a1 (i6 ((a0.1.length:Int)-a0.2))).bind fun v3=>(x_gp 0 v3.1).bind fun v4=>ck ((i6 (a0.2+v4.1))=(i6 (a0.2+v4.1)))<|ck (0≤(i6 (a0.2+v4.1)))<|ck ((i6 (a0.2+v4.1))≤a0.1.length)<|gr 2 [] ((a0.1.take ((i6 (a0.2+v4.1)).toNat)).drop 0)<|some (([]++((a0.1.take ((i6 (a0.2+v4.1)).toNat)).drop 0),i6 (a0.2+v4.1)),())
def x_v7 (K:Nat) (a0:x_h):Option (TCmd×x_h×Unit):=
 (x_b6 K a0).bind fun v1=>(x_b6 K v1.2.1).bind fun v2=>(x_b6 K v2.2.1).bind fun v3=>(x_b6 K v3.2.1).bind fun v4=>(x_b6 K v4.2.1).bind fun v5=>(x_b6 K v5.2.1).bind fun v6=>(x_fr K v6.2.1).bind fun v7=>(x_fr K v7.2.1).bind fun v8=>some ((i6 (v1.1-1),v2.1,v3.1,v4.1,v5.1,v6.1,v7.1,v8.1),v8.2.1,())
def x_du.l0b (K:Nat) (a0:x_h) (L0:y150) (v5:y50) (q0:Int) (q1:y26) (v1:y50) (v2:y50) (v3:y50) (v4:y50) (q2:y14):Option y63:=
 it (q0<v5.1) (cond q1.1.2.2 ((x_b6 K q1.1).bind fun v6=>(x_v7 K v6.2.1).bind fun v7=>gr 89 q2 [(v6.1,v7.1)]<|L0 v5 (i6 (q0+1)) v7.2 v1 v2 v3 v4 (q2++[(v6.1,v7.1)]))<|(x_fr K q1.1).bind fun v8=>some ((v1.1,v2.1,i6 (v3.1-1),v4.1,q2,v8.1),v8.2.1,()))<|(x_fr K q1.1).bind fun v9=>some ((v1.1,v2.1,i6 (v3.1-1),v4.1,q2,v9.1),v9.2.1,())
def x_du.l0 (K:Nat) (a0:x_h):Nat→y150:=lp8 (x_du.l0b K a0)
def x_du.b (K:Nat) (a0:x_h) (L0:y150):Option y63:=
 (x_b6 K a0).bind fun v1=>(x_b6 K v1.2.1).bind fun v2=>(x_b6 K v2.2.1).bind fun v3=>(x_b6 K v3.2.1).bind fun v4=>(x_b6 K v4.2.1).bind fun v5=>L0 v5 0 v5.2 v1 v2 v3 v4 []
def x_du (K:Nat) (a0:x_h):Option y63:=x_du.b K a0 (x_du.l0 K a0 K)
def x_q4 (K:Nat) (a0:y0) (a1:Int):Option (x_df×Int×Bool×Unit):=
 (x_cn K a0 a1).bind fun v1=>cond (!v1.2.2.1) (some ((0,0,0,0,[],ByteArray.empty),0,false,()))<|it (v1.1>(i6 ((i6 ((a0.length:Int)-v1.2.1))-4))) (some ((0,0,0,0,[],ByteArray.empty),0,false,()))<|ck ((i6 (v1.2.1+v1.1))=(i6 (v1.2.1+v1.1)))<|ck (0≤v1.2.1)<|ck (v1.2.1≤(i6 (v1.2.1+v1.1)))<|ck ((i6 (v1.2.1+v1.1))≤a0.length)<|(x_os K ((a0.take ((i6 (v1.2.1+v1.1)).toNat)).drop v1.2.1.toNat)).bind fun v2=>ck ((i6 ((i6 (v1.2.1+v1.1))+4))=(i6 ((i6 (v1.2.1+v1.1))+4)))<|ck (0≤(i6 (v1.2.1+v1.1)))<|ck ((i6 (v1.2.1+v1.1))≤(i6 ((i6 (v1.2.1+v1.1))+4)))<|ck ((i6 ((i6 (v1.2.1+v1.1))+4))≤a0.length)<|nit ((x_jo v2.1).data.toList=(x_jo ((a0.take ((i6 ((i6 (v1.2.1+v1.1))+4)).toNat)).drop ((i6 (v1.2.1+v1.1)).toNat))).data.toList) (some ((0,0,0,0,[],ByteArray.empty),0,false,()))<|(x_du K ((a0.take ((i6 (v1.2.1+v1.1)).toNat)).drop v1.2.1.toNat,0,true)).bind fun v3=>cond (!v3.2.1.2.2) (some ((0,0,0,0,[],ByteArray.empty),0,false,()))<|nit (v3.2.1.2.1=((a0.take ((i6 (v1.2.1+v1.1)).toNat)).drop v1.2.1.toNat).length) (some ((0,0,0,0,[],ByteArray.empty),0,false,()))<|(x_j8 K v3.1).bind fun v4=>cond (!v4.1) (some ((0,0,0,0,[],ByteArray.empty),0,false,()))<|some (v3.1,i6 ((i6 (v1.2.1+v1.1))+4),true,())
def x_e3.l0b (K:Nat) (a0:y0) (L0:y91) (q0:y10) (q1:Int):Option y87:=
 it (q1<a0.length) ((x_q4 K a0 q1).bind fun v1=>cond (!v1.2.2.1) (some (q0,q1,()))<|gr 73 q0 [v1.1]<|L0 (q0++[v1.1]) v1.2.1)<|some (q0,q1,())
def x_e3.l0 (K:Nat) (a0:y0):Nat→y91:=lp2 (x_e3.l0b K a0)
def x_e3.b (K:Nat) (a0:y0) (L0:y91):Option y87:=
 L0 [] 0
def x_e3 (K:Nat) (a0:y0):Option y87:=x_e3.b K a0 (x_e3.l0 K a0 K)
def x_d5.l0b (K:Nat) (a0:x_d) (a1:y0) (L0:y117) (v2:y87) (q0:Int) (q1:y19):Option y19:=
 it (q0<v2.1.length) (ix q0 v2.1<|(x_g8 K a0 q1.1 (v2.1.getD q0.toNat zNote)).bind fun v3=>L0 v2 (i6 (q0+1)) v3)<|some (q1.1,())
def x_d5.l0 (K:Nat) (a0:x_d) (a1:y0):Nat→y117:=lp3 (x_d5.l0b K a0 a1)
def x_d5.b (K:Nat) (a0:x_d) (a1:y0) (L0:y117):Option y19:=
 (x_g6 K a0).bind fun v1=>(x_e3 K a1).bind fun v2=>L0 v2 0 v1
def x_d5 (K:Nat) (a0:x_d) (a1:y0):Option y19:=x_d5.b K a0 a1 (x_d5.l0 K a0 a1 K)
def s_Rise (K:Nat) (a0:x_d) (a1:x_bq) (a2:Int):Option (x_bq×Unit):=
 (x_as K a0 a1 a2).bind fun v1=>cond (!v1.1) ((x_ae K a1).bind fun v2=>some (v2.1,()))<|(x_e3 K a1.2.2.2.2.2.2.2.2.1.1).bind fun v3=>(x_d5 K a0 a1.2.2.2.2.2.2.2.2.1.1).bind fun v4=>ck (a2=a2)<|ck (0≤a2)<|ck (a2.toNat*2≤x_en)<|(x_ck K a2 1).bind fun v5=>ck (a2=a2)<|ck (0≤a2)<|ck (a2.toNat*9≤x_en)<|(x_aj K v4.1.2.2.2).bind fun v6=>ck (v3.2.1=v3.2.1)<|ck (0≤v3.2.1)<|ck (v3.2.1≤a1.2.2.2.2.2.2.2.2.1.1.length)<|gr 2 [] ((a1.2.2.2.2.2.2.2.2.1.1.take v3.2.1.toNat).drop 0)<|(x_as K a0 (a1.1,v4.1,0,List.replicate a2.toNat false,v5.1,List.replicate a2.toNat 0,v4.1.2.2.1.1,v6.1,([]++((a1.2.2.2.2.2.2.2.2.1.1.take v3.2.1.toNat).drop 0),v3.2.1),[]) a2).bind fun v7=>cond (!v7.1) ((x_ae K a1).bind fun v8=>some (v8.1,()))<|some ((a1.1,v4.1,0,List.replicate a2.toNat false,v5.1,List.replicate a2.toNat 0,v4.1.2.2.1.1,v6.1,([]++((a1.2.2.2.2.2.2.2.2.1.1.take v3.2.1.toNat).drop 0),v3.2.1),[]),())
def x_aw.j0 (K:Nat) (L0:y102) (p4:y0) (a0:x_dh):Option y31:=
 L0 p4 a0.2.2.1.2.1 0
def x_aw.l0b (K:Nat) (a0:x_dh) (L0:y102) (q3:y0) (q4:Int) (q5:Int):Option y31:=
 it (q5<a0.2.2.1.2.2.length) ((x_hg (i6 (q5+40)) (a0.2.2.1.2.2.length:Int)).bind fun v5=>ck (v5.1=v5.1)<|ck (0≤q5)<|ck (q5≤v5.1)<|ck (v5.1≤a0.2.2.1.2.2.length)<|(x_eh K (2,q4,0,i6 (a0.2.2.1.1+q5),(a0.2.2.1.2.2.take v5.1.toNat).drop q5.toNat,ByteArray.empty)).bind fun v6=>gr 2 q3 v6.1<|ix (i6 (v5.1-1)) a0.2.2.1.2.2<|L0 (q3++v6.1) (a0.2.2.1.2.2.getD ((i6 (v5.1-1)).toNat) x_ay).1 (i6 (q5+40)))<|some (q3,())
def x_aw.l0 (K:Nat) (a0:x_dh):Nat→y102:=lp3 (x_aw.l0b K a0)
def x_aw.b (K:Nat) (a0:x_dh) (L0:y102):Option y31:=
 (x_eh K (1,a0.1,a0.2.1,0,[],ByteArray.empty)).bind fun v1=>it (a0.2.2.1.1>0) ((x_b K a0.2.2.2).bind fun v2=>(x_eh K (3,a0.2.2.1.2.1,0,a0.2.2.1.1,[],x_jo v2.1)).bind fun v3=>gr 2 v1.1 v3.1<|x_aw.j0 K L0 (v1.1++v3.1) a0)<|x_aw.j0 K L0 v1.1 a0
def x_aw (K:Nat) (a0:x_dh):Option y31:=x_aw.b K a0 (x_aw.l0 K a0 K)
def x_lq (K:Nat) (a0:x_u) (a1:Int):Option y44:=
 ix a1 a0.2.2.1<|nit ((a0.2.2.1.getD a1.toNat x_bx).2.2.2.2.2.2.2.2.1.2=(a0.2.2.1.getD a1.toNat x_bx).2.2.2.2.2.2.2.2.1.1.length) (some (a0,3,()))<|it ((a0.2.2.1.getD a1.toNat x_bx).2.2.2.2.2.2.1=(a0.2.2.1.getD a1.toNat x_bx).2.1.2.2.1.1) (some (a0,3,()))<|(x_o4 (a0.2.2.1.getD a1.toNat x_bx).2.1.2.2.1 (a0.2.2.1.getD a1.toNat x_bx).2.2.2.2.2.2.1).bind fun v1=>(x_aj K (a0.2.2.1.getD a1.toNat x_bx).2.2.2.2.2.2.2.1).bind fun v2=>(x_aw K ((a0.2.2.1.getD a1.toNat x_bx).2.1.1,(a0.2.2.1.getD a1.toNat x_bx).2.1.2.1,v1.1,v2.1)).bind fun v3=>it ((v3.1.length:Int)>80000) (some (a0,4,()))<|ix a1 a0.2.2.1<|some ((a0.1,a0.2.1,a0.2.2.1.set a1.toNat ((a0.2.2.1.getD a1.toNat x_bx).1,((a0.2.2.1.getD a1.toNat x_bx).2.1.1,(a0.2.2.1.getD a1.toNat x_bx).2.1.2.1,v1.1,v2.1),(a0.2.2.1.getD a1.toNat x_bx).2.2.1,(a0.2.2.1.getD a1.toNat x_bx).2.2.2.1,(a0.2.2.1.getD a1.toNat x_bx).2.2.2.2.1,(a0.2.2.1.getD a1.toNat x_bx).2.2.2.2.2.1,(a0.2.2.1.getD a1.toNat x_bx).2.2.2.2.2.2.1,(a0.2.2.1.getD a1.toNat x_bx).2.2.2.2.2.2.2.1,(v3.1,(v3.1.length:Int)),(a0.2.2.1.getD a1.toNat x_bx).2.2.2.2.2.2.2.2.2),a0.2.2.2),0,())
def x_np (K:Nat) (a0:x_u) (a1:x_kc):Option y44:=
 ix a1.2.1 a0.2.2.1<|it (a1.1=1) ((x_ph K a0.1 (a0.2.2.1.getD a1.2.1.toNat x_bx) a0.2.1).bind fun v1=>(x_no a0 v1.1 v1.2.1).bind fun v2=>some (v2.1,v2.2.1,()))<|it (a1.1=2) ((x_bj a1.2.2.1 0 (i6 (a0.2.1-1))).bind fun v3=>cond (!v3.1) (some (a0,2,()))<|(s_Feed K a0.1 (a0.2.2.1.getD a1.2.1.toNat x_bx) a0.2.1 a1.2.2.1).bind fun v4=>(x_no a0 v4.1 v4.2.1).bind fun v5=>some (v5.1,v5.2.1,()))<|it (a1.1=3) ((x_mp K a0 a1.2.1).bind fun v6=>some (v6.1,v6.2.1,()))<|it (a1.1=9) ((s_Fall (a0.2.2.1.getD a1.2.1.toNat x_bx).2.2.2.2.2.2.2.2.1 a1.2.2.1).bind fun v7=>(s_Rise K a0.1 ((a0.2.2.1.getD a1.2.1.toNat x_bx).1,(a0.2.2.1.getD a1.2.1.toNat x_bx).2.1,(a0.2.2.1.getD a1.2.1.toNat x_bx).2.2.1,(a0.2.2.1.getD a1.2.1.toNat x_bx).2.2.2.1,(a0.2.2.1.getD a1.2.1.toNat x_bx).2.2.2.2.1,(a0.2.2.1.getD a1.2.1.toNat x_bx).2.2.2.2.2.1,(a0.2.2.1.getD a1.2.1.toNat x_bx).2.2.2.2.2.2.1,(a0.2.2.1.getD a1.2.1.toNat x_bx).2.2.2.2.2.2.2.1,v7.1,(a0.2.2.1.getD a1.2.1.toNat x_bx).2.2.2.2.2.2.2.2.2) a0.2.1).bind fun v8=>ix a1.2.1 a0.2.2.1<|some ((a0.1,a0.2.1,a0.2.2.1.set a1.2.1.toNat v8.1,a0.2.2.2),0,()))<|(x_lq K a0 a1.2.1).bind fun v9=>some (v9.1,v9.2.1,())
def x_fm.j0 (K:Nat) (a1:x_kc) (a0:x_u) (p3:Bool):Option y44:=
 it (a1.1=11) ((x_na K a0 a1).bind fun v6=>some (v6.1,v6.2.1,()))<|cond p3 ((x_ia K a0 a1).bind fun v7=>some (v7.1,v7.2.1,()))<|(x_np K a0 a1).bind fun v8=>some (v8.1,v8.2.1,())
def x_fm.j1 (K:Nat) (a1:x_kc) (a0:x_u) (p3:Bool):Option y44:=
 (x_bj a1.2.1 0 (i6 (a0.2.1-1))).bind fun v4=>cond (!v4.1) (some (a0,2,()))<|cond p3 ((x_bj a1.2.2.1 0 3).bind fun v5=>cond (!v5.1) (some (a0,2,()))<|x_fm.j0 K a1 a0 p3)<|x_fm.j0 K a1 a0 p3
def x_fm (K:Nat) (a0:x_u) (a1:x_kc):Option y44:=
 (x_bj a1.1 4 6).bind fun v1=>cond v1.1 ((x_q6 K a0 a1).bind fun v2=>some (v2.1,v2.2.1,()))<|it (a1.1=7) (x_fm.j1 K a1 a0 true)<|it (a1.1=8) (x_fm.j1 K a1 a0 true)<|x_fm.j1 K a1 a0 (decide (a1.1=11))
def x_ap.l0b (K:Nat) (a0:x_u) (L1:y88) (q1:Int) (q2:y5):Option y25:=
 it (q1<a0.2.1) (ix q1 a0.2.2.1<|L1 q1 q2)<|some ((a0.1,a0.2.1,a0.2.2.1,a0.2.2.2.1,a0.2.2.2.2.1,a0.2.2.2.2.2.1,a0.2.2.2.2.2.2.1,q2),())
def x_ap.l1b (K:Nat) (a0:x_u) (L0:y88) (L1:y88) (q1:Int) (q3:y5):Option y25:=
 it (q3.length<(a0.2.2.1.getD q1.toNat x_bx).2.2.2.2.2.2.1) (it ((i6 ((q3.length:Int)-(a0.2.2.1.getD q1.toNat x_bx).2.1.2.2.1.1))<0) (L0 (i6 (q1+1)) q3)<|it ((i6 ((q3.length:Int)-(a0.2.2.1.getD q1.toNat x_bx).2.1.2.2.1.1))≥(a0.2.2.1.getD q1.toNat x_bx).2.1.2.2.1.2.2.length) (L0 (i6 (q1+1)) q3)<|ix (i6 ((q3.length:Int)-(a0.2.2.1.getD q1.toNat x_bx).2.1.2.2.1.1)) (a0.2.2.1.getD q1.toNat x_bx).2.1.2.2.1.2.2<|gr 81 q3 [((a0.2.2.1.getD q1.toNat x_bx).2.1.2.2.1.2.2.getD ((i6 ((q3.length:Int)-(a0.2.2.1.getD q1.toNat x_bx).2.1.2.2.1.1)).toNat) x_ay).2]<|L1 q1 (q3++[((a0.2.2.1.getD q1.toNat x_bx).2.1.2.2.1.2.2.getD ((i6 ((q3.length:Int)-(a0.2.2.1.getD q1.toNat x_bx).2.1.2.2.1.1)).toNat) x_ay).2]))<|L0 (i6 (q1+1)) q3
def x_ap.l1 (K:Nat) (a0:x_u) (L0:y88):Nat→y88:=lp2 (x_ap.l1b K a0 L0)
def x_ap.l0 (K:Nat) (a0:x_u):Nat→y88:=lp2 fun r=>x_ap.l0b K a0 (x_ap.l1 K a0 r K)
def x_ap.b (K:Nat) (a0:x_u) (L0:y88):Option y25:=
 L0 0 a0.2.2.2.2.2.2.2
def x_ap (K:Nat) (a0:x_u):Option y25:=x_ap.b K a0 (x_ap.l0 K a0 K)
def x_i8 (K:Nat) (a0:x_u) (a1:x_kc):Option y44:=
 (x_fm K a0 a1).bind fun v1=>it (v1.2.1=0) ((x_ap K v1.1).bind fun v2=>some (v2.1,v1.2.1,()))<|some (v1.1,v1.2.1,())
def x_ba.l0b (K:Nat) (a0:x_6) (a1:Int) (L0:y146) (v3:y47) (q0:List x_kc) (v4:y41) (q1:Int) (q2:y22) (q3:x_u):Option y138:=
 it (q1<v4.1) (cond v3.2.1 ((x_y K q2.1 q3).bind fun v5=>gr 105 q0 [v5.1]<|(x_ch K q3).bind fun v6=>(x_i8 K v6.1 v5.1).bind fun v7=>it (v7.2.1=0) (L0 v3 (q0++[v5.1]) v4 (i6 (q1+1)) v5.2 v7.1)<|L0 v3 (q0++[v5.1]) v4 (i6 (q1+1)) v5.2 q3)<|some (((0,0,0,0),0,[],[],[],[],[],[]),q0,q3,q2.1,()))<|some (((0,0,0,0),0,[],[],[],[],[],[]),q0,q3,q2.1,())
def x_ba.l0 (K:Nat) (a0:x_6) (a1:Int):Nat→y146:=lp6 (x_ba.l0b K a0 a1)
def x_ba.b (K:Nat) (a0:x_6) (a1:Int) (L0:y146):Option y138:=
 (x_eq a0).bind fun v1=>(x_7 v1.2.1 [1,2,3,3,3,4]).bind fun v2=>(x_b8 K v1.1 v2.1).bind fun v3=>(x_k v2.2.1 (i6 (a1+1))).bind fun v4=>L0 v3 [] v4 0 v4.2 v3.1
def x_ba (K:Nat) (a0:x_6) (a1:Int):Option y138:=x_ba.b K a0 a1 (x_ba.l0 K a0 a1 K)
def x_fo (K:Nat) (a0:x_6):Option (x_u×x_6×Unit):=
 (x_ba K a0 45).bind fun v1=>some (v1.2.2.1,v1.2.2.2.1,())
def x_dk (a0:x_6):Option y48:=
 (x_ii a0 10).bind fun v1=>cond v1.1 (some (((-1),0,0,0,0,0,ByteArray.empty,ByteArray.empty),v1.2.1,()))<|(x_e8 v1.2.1).bind fun v2=>(x_k v2.2.1 4).bind fun v3=>(x_k v3.2.1 6).bind fun v4=>some ((v3.1,i6 (1+v4.1),v2.1.2.2),v4.2.1,())
def x_ah.l0b (K:Nat) (a0:x_6) (a1:Int) (a2:Int) (L0:y134) (q0:Int) (q1:y14) (v1:y41) (q2:Int) (q3:y22):Option y103:=
 it (q2<v1.1) ((x_k q3.1 2).bind fun v2=>(x_dk v2.2.1).bind fun v3=>gr 89 q1 [(i6 (q0+v2.1),v3.1)]<|L0 (i6 (q0+v2.1)) (q1++[(i6 (q0+v2.1),v3.1)]) v1 (i6 (q2+1)) v3.2)<|some (q1,q3.1,())
def x_ah.l0 (K:Nat) (a0:x_6) (a1:Int) (a2:Int):Nat→y134:=lp5 (x_ah.l0b K a0 a1 a2)
def x_ah.b (K:Nat) (a0:x_6) (a1:Int) (a2:Int) (L0:y134):Option y103:=
 (x_k a0 (i6 (a2+1))).bind fun v1=>L0 a1 [] v1 0 v1.2
def x_ah (K:Nat) (a0:x_6) (a1:Int) (a2:Int):Option y103:=x_ah.b K a0 a1 a2 (x_ah.l0 K a0 a1 a2 K)
def x_a9.l0b (K:Nat) (a0:x_6) (a1:Int) (L0:y127) (q0:y5) (v1:y41) (q1:Int) (q2:y22):Option y93:=
 it (q1<v1.1) ((x_dk q2.1).bind fun v2=>it (v2.1.1≥0) ((x_ii v2.2.1 4).bind fun v3=>cond (!v3.1) (gr 81 q0 [(v2.1.1,i6 (q1+1),v2.1.2.2)]<|L0 (q0++[(v2.1.1,i6 (q1+1),v2.1.2.2)]) v1 (i6 (q1+1)) v3.2)<|gr 81 q0 [v2.1]<|L0 (q0++[v2.1]) v1 (i6 (q1+1)) v3.2)<|gr 81 q0 [v2.1]<|L0 (q0++[v2.1]) v1 (i6 (q1+1)) v2.2)<|some (q0,q2.1,())
def x_a9.l0 (K:Nat) (a0:x_6) (a1:Int):Nat→y127:=lp4 (x_a9.l0b K a0 a1)
def x_a9.b (K:Nat) (a0:x_6) (a1:Int) (L0:y127):Option y93:=
 (x_k a0 (i6 (a1+1))).bind fun v1=>L0 [] v1 0 v1.2
def x_a9 (K:Nat) (a0:x_6) (a1:Int):Option y93:=x_a9.b K a0 a1 (x_a9.l0 K a0 a1 K)
def x_cz.l0b (K:Nat) (a0:x_d) (a1:y5) (L0:y119) (q0:y21) (q1:Int) (q2:x_ai):Option y104:=
 it (q1<a1.length) ((x_ft a0).bind fun v2=>cond v2.1 (ix q1 a1<|(x_jv K (a1.getD q1.toNat zCmd)).bind fun v3=>cond v3.1 (ix q1 a1<|(x_zi K a0 q2 (a1.getD q1.toNat zCmd)).bind fun v4=>gr 49 q0 [v4.2.1]<|L0 (q0++[v4.2.1]) (i6 (q1+1)) v4.1)<|gr 49 q0 [(0,0,ByteArray.empty,ByteArray.empty)]<|L0 (q0++[(0,0,ByteArray.empty,ByteArray.empty)]) (i6 (q1+1)) q2)<|gr 49 q0 [(0,0,ByteArray.empty,ByteArray.empty)]<|L0 (q0++[(0,0,ByteArray.empty,ByteArray.empty)]) (i6 (q1+1)) q2)<|some (q2,q0,())
def x_cz.l0 (K:Nat) (a0:x_d) (a1:y5):Nat→y119:=lp3 (x_cz.l0b K a0 a1)
def x_cz.b (K:Nat) (a0:x_d) (a1:y5) (L0:y119):Option y104:=
 (x_ci K a0).bind fun v1=>L0 [] 0 v1.1
def x_cz (K:Nat) (a0:x_d) (a1:y5):Option y104:=x_cz.b K a0 a1 (x_cz.l0 K a0 a1 K)
def x_fg (K:Nat) (a0:x_6):Option y108:=
 (x_eq a0).bind fun v1=>(x_a9 K v1.2.1 14).bind fun v2=>(x_cz K v1.1 v2.1).bind fun v3=>some (v1.1,v3.1,v2.2.1,())
def x_dv.j0 (K:Nat) (v1:y41) (p10:y22) (v2:y41) (v3:y41) (v4:y41) (v5:y41) (v6:y41) (v7:y41) (p11:y14) (v8:y49):Option (TRpc×x_6×Unit):=
 it ((i6 (1+v1.1))=5) ((x_fg K p10.1).bind fun v12=>(x_b K v12.2.1).bind fun v13=>some ((i6 (1+v1.1),v2.1,v3.1,v4.1,v5.1,v6.1,v7.1,p11,v8.1,x_jo v13.1),v12.2.2.1,()))<|some ((i6 (1+v1.1),v2.1,v3.1,v4.1,v5.1,v6.1,v7.1,p11,v8.1,ByteArray.empty),p10.1,())
def x_dv (K:Nat) (a0:x_6):Option (TRpc×x_6×Unit):=
 (x_k a0 5).bind fun v1=>(x_k v1.2.1 3).bind fun v2=>(x_k v2.2.1 3).bind fun v3=>(x_k v3.2.1 4).bind fun v4=>(x_k v4.2.1 5).bind fun v5=>(x_k v5.2.1 3).bind fun v6=>(x_k v6.2.1 4).bind fun v7=>(x_ii v7.2.1 2).bind fun v8=>it ((i6 (1+v1.1))=3) ((x_ah K v8.2.1 0 3).bind fun v9=>x_dv.j0 K v1 v9.2 v2 v3 v4 v5 v6 v7 v9.1 v8)<|x_dv.j0 K v1 v8.2 v2 v3 v4 v5 v6 v7 [] v8
def x_h2 (a0:x_6) (a1:TCmd):Option y48:=
 (x_k a0 14).bind fun v1=>it (v1.1=0) ((x_7 v1.2.1 [(-2),(-1),3,4]).bind fun v2=>some ((v2.1,a1.2),v2.2.1,()))<|it (v1.1=1) ((x_7 v1.2.1 [0,(-1),100000,100001]).bind fun v3=>some ((a1.1,v3.1,a1.2.2),v3.2.1,()))<|it (v1.1=2) ((x_7 v1.2.1 [(-1),0,10,11]).bind fun v4=>some ((a1.1,a1.2.1,v4.1,a1.2.2.2),v4.2.1,()))<|it (v1.1=3) ((x_7 v1.2.1 [(-1),100000,100001,(-9223372036854775808)]).bind fun v5=>some ((a1.1,a1.2.1,a1.2.2.1,v5.1,a1.2.2.2.2),v5.2.1,()))<|it (v1.1=4) ((x_lj v1.2.1 [(bs [65]),(bs [48,49,50,51,52,53,54,55,56,57,48,49,50,51,52,53,54,55,56,57,48,49,50,51,52,53,54,55,56,57,48])]).bind fun v6=>some ((a1.1,a1.2.1,a1.2.2.1,a1.2.2.2.1,a1.2.2.2.2.1,a1.2.2.2.2.2.1,v6.1,a1.2.2.2.2.2.2.2),v6.2.1,()))<|some (a1,v1.2.1,())
def x_wx (K:Nat) (a0:x_d) (a1:y5):Option y18:=
 (x_cz K a0 a1).bind fun v1=>some (v1.1,())
def x_ag.j0 (K:Nat) (L0:y125) (p10:Bool) (v9:y49) (v1:y57) (q2:y19) (v4:y29) (q0:Int) (v5:y41) (v6:y41):Option y109:=
 cond p10 ((x_a9 K v9.2.1 3).bind fun v11=>(x_wx K v1.1 v11.1).bind fun v12=>(x_b K v12.1).bind fun v13=>(x_g8 K v1.1 q2.1 (3,v4.2.1,0,v4.1,[],x_jo v13.1)).bind fun v17=>L0 (i6 (q0+1)) v11.2 v1 v17)<|(x_g8 K v1.1 q2.1 (1,i6 (q2.1.1+v5.1),i6 (v6.1-1),0,[],ByteArray.empty)).bind fun v18=>L0 (i6 (q0+1)) v9.2 v1 v18
def x_ag.l0b (K:Nat) (a0:x_6) (L0:y125) (q0:Int) (q1:y22) (v1:y57) (q2:y19):Option y109:=
 (x_k q1.1 7).bind fun v3=>it (q0<v3.1) ((x_ed q2.1.2.2.1).bind fun v4=>(x_k v3.2.1 2).bind fun v5=>(x_k v5.2.1 4).bind fun v6=>(x_k v6.2.1 3).bind fun v7=>it (v7.1=0) ((x_dk v7.2.1).bind fun v8=>(x_g8 K v1.1 q2.1 (2,v4.2.1,0,v4.1,[(q2.1.1,v8.1)],ByteArray.empty)).bind fun v14=>L0 (i6 (q0+1)) v8.2 v1 v14)<|it (v7.1=1) ((x_ii v7.2.1 3).bind fun v9=>cond v9.1 (x_ag.j0 K L0 (decide (v4.1>0)) v9 v1 q2 v4 q0 v5 v6)<|x_ag.j0 K L0 false v9 v1 q2 v4 q0 v5 v6)<|(x_g8 K v1.1 q2.1 (1,i6 (q2.1.1+v5.1),i6 (v6.1-1),0,[],ByteArray.empty)).bind fun v19=>L0 (i6 (q0+1)) v7.2 v1 v19)<|some (v1.1,q2.1,v3.2.1,())
def x_ag.l0 (K:Nat) (a0:x_6):Nat→y125:=lp4 (x_ag.l0b K a0)
def x_ag.b (K:Nat) (a0:x_6) (L0:y125):Option y109:=
 (x_eq a0).bind fun v1=>(x_g6 K v1.1).bind fun v2=>L0 0 v1.2 v1 v2
def x_ag (K:Nat) (a0:x_6):Option y109:=x_ag.b K a0 (x_ag.l0 K a0 K)
def x_io (K:Nat) (a0:x_6):Option (TLog×x_6×Unit):=
 (x_k a0 3).bind fun v1=>(x_k v1.2.1 2).bind fun v2=>(x_ah K v2.2.1 v2.1 6).bind fun v3=>some ((v1.1,v2.1,v3.1),v3.2.1,())
def x_rg (K:Nat) (a0:x_6):Option (TLog×x_6×Unit):=
 (x_io K a0).bind fun v1=>(x_k v1.2.1 14).bind fun v2=>it (v2.1=0) ((x_7 v2.2.1 [(-1),299,300,301,(-9223372036854775808)]).bind fun v3=>some ((v3.1,v1.1.2),v3.2.1,()))<|it (v2.1=1) ((x_7 v2.2.1 [(-1),2,300,301]).bind fun v4=>some ((v1.1.1,v4.1,v1.1.2.2),v4.2.1,()))<|it (v2.1=2) ((x_k v2.2.1 5).bind fun v5=>(x_dk v5.2.1).bind fun v6=>(x_h2 v6.2.1 v6.1).bind fun v7=>gr 89 v1.1.2.2 [(v5.1,v7.1)]<|some ((v1.1.1,v1.1.2.1,v1.1.2.2++[(v5.1,v7.1)]),v7.2.1,()))<|some (v1.1,v2.2.1,())
def x_ro (a0:x_6):Option y57:=
 (x_eq a0).bind fun v1=>(x_k v1.2.1 12).bind fun v2=>it (v2.1=0) ((x_7 v2.2.1 [(-1),0,4,5]).bind fun v3=>some ((v3.1,v1.1.2),v3.2.1,()))<|it (v2.1=1) ((x_7 v2.2.1 [0,6]).bind fun v4=>some ((v1.1.1,v4.1,v1.1.2.2),v4.2.1,()))<|it (v2.1=2) ((x_7 v2.2.1 [0,9]).bind fun v5=>some ((v1.1.1,v1.1.2.1,v5.1,v1.1.2.2.2),v5.2.1,()))<|it (v2.1=3) ((x_7 v2.2.1 [(-1),60,61]).bind fun v6=>some ((v1.1.1,v1.1.2.1,v1.1.2.2.1,v6.1),v6.2.1,()))<|some (v1.1,v2.2.1,())
def x_a4.l0b (K:Nat) (a0:x_6) (L0:y140) (v1:y41) (q0:Int) (q1:y41) (q2:Int) (q3:Int) (q4:y8):Option y52:=
 it (q0<v1.1) ((x_fa q1.2.1).bind fun v2=>(x_fa v2.2.1).bind fun v3=>(x_k v3.2.1 4).bind fun v4=>(x_l0 K (q2,q3,q4) v2.1 v3.1 v4.1 q0).bind fun v5=>(x_k v4.2.1 12).bind fun v6=>it (v6.1=0) ((x_k v6.2.1 3).bind fun v7=>(x_k v7.2.1 4).bind fun v8=>(x_a0 K v5.1 (i6 (1+v7.1)) v8.1).bind fun v9=>L0 v1 (i6 (q0+1)) v8 v9.1.1 v9.1.2.1 v9.1.2.2)<|it (v6.1=1) ((x_k v6.2.1 3).bind fun v10=>(x_c5 K v5.1 (i6 (1+v10.1))).bind fun v11=>L0 v1 (i6 (q0+1)) v10 v11.1.1 v11.1.2.1 v11.1.2.2)<|L0 v1 (i6 (q0+1)) v6 v5.1.1 v5.1.2.1 v5.1.2.2)<|some ((q2,q3,q4),q1.2.1,())
def x_a4.l0 (K:Nat) (a0:x_6):Nat→y140:=lp6 (x_a4.l0b K a0)
def x_a4.b (K:Nat) (a0:x_6) (L0:y140):Option y52:=
 (x_k a0 14).bind fun v1=>L0 v1 0 v1 0 0 []
def x_a4 (K:Nat) (a0:x_6):Option y52:=x_a4.b K a0 (x_a4.l0 K a0 K)
def x_dx.l0b (K:Nat) (a0:x_6) (L0:y89) (v2:y41) (q0:TRow):Option y52:=
 it ((q0.2.2.length:Int)<80) ((x_l0 K q0 ByteArray.empty ByteArray.empty 0 0).bind fun v7=>L0 v2 v7.1)<|some (q0,v2.2.1,())
def x_dx.l0 (K:Nat) (a0:x_6):Nat→y89:=lp2 (x_dx.l0b K a0)
def x_dx.b (K:Nat) (a0:x_6) (L0:y89):Option y52:=
 (x_a4 K a0).bind fun v1=>(x_k v1.2.1 14).bind fun v2=>it (v2.1=0) ((x_7 v2.2.1 [(-1),0,1,99]).bind fun v3=>some ((v3.1,v1.1.2),v3.2.1,()))<|it (v2.1=1) ((x_7 v2.2.1 [0,3,100000,100001]).bind fun v4=>some ((v1.1.1,v4.1,v1.1.2.2),v4.2.1,()))<|it (v2.1=2) ((x_k v2.2.1 20).bind fun v5=>(x_lj v5.2.1 [(bs [97]),(bs [65])]).bind fun v6=>gr 57 v1.1.2.2 [(v5.1,v6.1,ByteArray.empty,0,0)]<|some ((v1.1.1,v1.1.2.1,v1.1.2.2++[(v5.1,v6.1,ByteArray.empty,0,0)]),v6.2.1,()))<|it (v2.1=3) (L0 v2 v1.1)<|some (v1.1,v2.2.1,())
def x_dx (K:Nat) (a0:x_6):Option y52:=x_dx.b K a0 (x_dx.l0 K a0 K)
def x_a3.l0b (K:Nat) (a0:x_6) (L0:y147) (q0:Int) (q1:y41) (q2:Int) (q3:Int) (q4:Int) (q5:Int) (q6:y9):Option y64:=
 (x_k q1.2.1 8).bind fun v3=>it (q0<v3.1) ((x_k v3.2.1 9).bind fun v4=>it ((i6 (q4+(i6 (Int.tdiv v4.1 8))))>q4) ((x_k v4.2.1 3).bind fun v5=>(x_ef K (q2,q3,q4,q5,q6) (i6 (1+v5.1)) (i6 (q4+(i6 (Int.tdiv v4.1 8)))) 0 (i6 (2*q0))).bind fun v6=>L0 (i6 (q0+1)) v5 v6.1.1 v6.1.2.1 v6.1.2.2.1 v6.1.2.2.2.1 v6.1.2.2.2.2)<|(x_k v4.2.1 3).bind fun v7=>(x_ef K (q2,q3,q4,q5,q6) (i6 (1+v7.1)) (i6 (q4+(i6 (Int.tdiv v4.1 8)))) (i6 (q5+1)) (i6 (2*q0))).bind fun v8=>L0 (i6 (q0+1)) v7 v8.1.1 v8.1.2.1 v8.1.2.2.1 v8.1.2.2.2.1 v8.1.2.2.2.2)<|some ((q2,q3,q4,q5,q6),v3.2.1,())
def x_a3.l0 (K:Nat) (a0:x_6):Nat→y147:=lp7 (x_a3.l0b K a0)
def x_a3.b (K:Nat) (a0:x_6) (L0:y147):Option y64:=
 (x_k a0 3).bind fun v1=>(x_k v1.2.1 4).bind fun v2=>L0 0 v2 v1.1 v2.1 0 (-1) []
def x_a3 (K:Nat) (a0:x_6):Option y64:=x_a3.b K a0 (x_a3.l0 K a0 K)
def x_q8 (K:Nat) (a0:x_6):Option y64:=
 (x_a3 K a0).bind fun v1=>(x_k v1.2.1 12).bind fun v2=>it (v2.1=0) ((x_7 v2.2.1 [(-2),(-1),5,100000,9223372036854775807,(-9223372036854775808)]).bind fun v3=>some ((v1.1.1,v1.1.2.1,v1.1.2.2.1,v3.1,v1.1.2.2.2.2),v3.2.1,()))<|it (v2.1=1) ((x_7 v2.2.1 [(-1),0,2]).bind fun v4=>some ((v1.1.1,v1.1.2.1,v4.1,v1.1.2.2.2),v4.2.1,()))<|it (v2.1=2) ((x_k v2.2.1 9).bind fun v5=>(x_k v5.2.1 9).bind fun v6=>gr 17 v1.1.2.2.2.2 [(v5.1,v6.1)]<|some ((v1.1.1,v1.1.2.1,v1.1.2.2.1,v1.1.2.2.2.1,v1.1.2.2.2.2++[(v5.1,v6.1)]),v6.2.1,()))<|it (v2.1=3) ((x_7 v2.2.1 [(-1),3,4]).bind fun v7=>some ((v7.1,v1.1.2),v7.2.1,()))<|some (v1.1,v2.2.1,())
def x_a6.l0b (K:Nat) (a0:x_6) (L0:y137) (v1:y41) (q0:Int) (q1:Int) (q2:y41) (q3:x_ar):Option y96:=
 (x_k q2.2.1 7).bind fun v3=>it (q1<v3.1) ((x_7 v3.2.1 [0,10,60]).bind fun v4=>(x_k v4.2.1 5).bind fun v5=>it (v5.1=0) ((x_k v5.2.1 4).bind fun v6=>(x_gn K q3 v6.1).bind fun v7=>L0 v1 (i6 (q0+v4.1)) (i6 (q1+1)) v6 v7.1)<|it (v5.1=1) ((x_bl K q3 (i6 (q0+v4.1))).bind fun v8=>L0 v1 (i6 (q0+v4.1)) (i6 (q1+1)) v5 v8.1)<|it (v5.1=2) ((x_k v5.2.1 4).bind fun v9=>(x_k v9.2.1 (i6 (1+v1.1))).bind fun v10=>(x_k v10.2.1 9).bind fun v11=>(x_hl q3 v9.1 q3.1 v10.1 v11.1).bind fun v12=>L0 v1 (i6 (q0+v4.1)) (i6 (q1+1)) v11 v12.1)<|(x_k v5.2.1 4).bind fun v13=>(x_a5 K q3 v13.1 (i6 (q0+v4.1))).bind fun v14=>L0 v1 (i6 (q0+v4.1)) (i6 (q1+1)) v13 v14.1)<|some (q3,i6 (1+v1.1),v3.2.1,())
def x_a6.l0 (K:Nat) (a0:x_6):Nat→y137:=lp5 (x_a6.l0b K a0)
def x_a6.b (K:Nat) (a0:x_6) (L0:y137):Option y96:=
 (x_k a0 3).bind fun v1=>(x_im (i6 (1+v1.1))).bind fun v2=>L0 v1 0 0 v1 v2.1
def x_a6 (K:Nat) (a0:x_6):Option y96:=x_a6.b K a0 (x_a6.l0 K a0 K)
def x_oc (K:Nat) (a0:x_6):Option y96:=
 (x_a6 K a0).bind fun v1=>(x_k v1.2.2.1 12).bind fun v2=>it (v2.1=0) ((x_7 v2.2.1 [(-1),100000,100001]).bind fun v3=>some ((v3.1,v1.1.2),v1.2.1,v3.2.1,()))<|it (v2.1=1) ((x_k v2.2.1 5).bind fun v4=>gr 9 v1.1.2.1 [v4.1]<|some ((v1.1.1,v1.1.2.1++[v4.1],v1.1.2.2),v1.2.1,v4.2.1,()))<|it (v2.1=2) ((x_7 v2.2.1 [0,(-1),(-9223372036854775808)]).bind fun v5=>gr 9 v1.1.2.2.1 [v5.1]<|some ((v1.1.1,v1.1.2.1,v1.1.2.2.1++[v5.1],v1.1.2.2.2),v1.2.1,v5.2.1,()))<|it (v2.1=3) ((x_k v2.2.1 5).bind fun v6=>some (v1.1,v6.1,v6.2.1,()))<|it (v2.1=4) ((x_7 v2.2.1 [(-1),100001]).bind fun v7=>ck (0<(v1.1.2.2.2.length:Int))<|some ((v1.1.1,v1.1.2.1,v1.1.2.2.1,v1.1.2.2.2.set 0 v7.1),v1.2.1,v7.2.1,()))<|some (v1.1,v1.2.1,v2.2.1,())
def x_qm (K:Nat) (a0:x_6):Option y108:=
 (x_fg K a0).bind fun v1=>(x_k v1.2.2.1 16).bind fun v2=>it (v2.1=0) ((x_ro v2.2.1).bind fun v3=>some (v3.1,v1.2.1,v3.2.1,()))<|it (v2.1=1) ((x_dx K v2.2.1).bind fun v4=>ck (0<(v1.2.1.1.length:Int))<|some (v1.1,(v1.2.1.1.set 0 v4.1,v1.2.1.2),v4.2.1,()))<|it (v2.1=2) ((x_q8 K v2.2.1).bind fun v5=>gr 57 v1.2.1.2.1 [v5.1]<|some (v1.1,(v1.2.1.1,v1.2.1.2.1++[v5.1],v1.2.1.2.2),v5.2.1,()))<|it (v2.1=3) ((x_oc K v2.2.1).bind fun v6=>ck (0<(v1.2.1.2.2.1.length:Int))<|some (v1.1,(v1.2.1.1,v1.2.1.2.1,v1.2.1.2.2.1.set 0 v6.1,v1.2.1.2.2.2),v6.2.2.1,()))<|it (v2.1=4) ((x_7 v2.2.1 [(-1),100000,100001]).bind fun v7=>ck (0<(v1.2.1.2.2.2.2.1.length:Int))<|some (v1.1,(v1.2.1.1,v1.2.1.2.1,v1.2.1.2.2.1,v1.2.1.2.2.2.1,v1.2.1.2.2.2.2.1.set 0 v7.1,v1.2.1.2.2.2.2.2),v7.2.1,()))<|it (v2.1=5) ((x_k v2.2.1 12).bind fun v8=>(x_7 v8.2.1 [(-2),0,100001]).bind fun v9=>ck (1<(v1.2.1.2.2.2.2.2.length:Int))<|some (v1.1,(v1.2.1.1,v1.2.1.2.1,v1.2.1.2.2.1,v1.2.1.2.2.2.1,v1.2.1.2.2.2.2.1,v1.2.1.2.2.2.2.2.set 1 (i6 (v8.1-1),v9.1,ByteArray.empty,ByteArray.empty)),v9.2.1,()))<|it (v2.1=6) ((x_7 v2.2.1 [(-1),100000,100001]).bind fun v10=>some (v1.1,(v1.2.1.1,v1.2.1.2.1,v1.2.1.2.2.1,v10.1,v1.2.1.2.2.2.2),v10.2.1,()))<|some (v1.1,v1.2.1,v2.2.1,())
def x_mt (K:Nat) (a0:x_6):Option y109:=
 (x_ag K a0).bind fun v1=>(x_k v1.2.2.1 14).bind fun v2=>it (v2.1=0) ((x_7 v2.2.1 [(-1),0,300,301]).bind fun v3=>some (v1.1,(v3.1,v1.2.1.2),v3.2.1,()))<|it (v2.1=1) ((x_7 v2.2.1 [(-2),4,5]).bind fun v4=>some (v1.1,(v1.2.1.1,v4.1,v1.2.1.2.2),v4.2.1,()))<|it (v2.1=2) ((x_rg K v2.2.1).bind fun v5=>some (v1.1,(v1.2.1.1,v1.2.1.2.1,v5.1,v1.2.1.2.2.2),v5.2.1,()))<|it (v2.1=3) ((x_qm K v2.2.1).bind fun v6=>some (v1.1,(v1.2.1.1,v1.2.1.2.1,v1.2.1.2.2.1,v6.2.1),v6.2.2.1,()))<|some (v1.1,v1.2.1,v2.2.1,())
def x_g5 (K:Nat) (a0:x_6):Option (x_df×x_6×Unit):=
 (x_k a0 4).bind fun v1=>it (v1.1=0) ((x_k v1.2.1 6).bind fun v2=>(x_k v2.2.1 4).bind fun v3=>some ((1,v2.1,i6 (v3.1-1),0,[],ByteArray.empty),v3.2.1,()))<|it (v1.1=1) ((x_fg K v1.2.1).bind fun v4=>(x_k v4.2.2.1 3).bind fun v5=>(x_k v5.2.1 5).bind fun v6=>(x_b K v4.2.1).bind fun v7=>some ((3,v5.1,0,v6.1,[],x_jo v7.1),v6.2.1,()))<|(x_k v1.2.1 2).bind fun v8=>(x_k v8.2.1 3).bind fun v9=>(x_ah K v9.2.1 1 4).bind fun v10=>some ((2,v8.1,0,v9.1,v10.1,ByteArray.empty),v10.2.1,())
def x_a7.l0b (K:Nat) (a0:x_6) (L0:y120) (q0:y0) (q1:Int) (q2:x_6):Option y92:=
 (x_k q2 4).bind fun v1=>it (q1<v1.1) ((x_g5 K v1.2.1).bind fun v2=>(x_eh K v2.1).bind fun v3=>gr 2 q0 v3.1<|L0 (q0++v3.1) (i6 (q1+1)) v2.2.1)<|some (q0,v1.2.1,())
def x_a7.l0 (K:Nat) (a0:x_6):Nat→y120:=lp3 (x_a7.l0b K a0)
def x_a7.b (K:Nat) (a0:x_6) (L0:y120):Option y92:=
 L0 [] 0 a0
def x_a7 (K:Nat) (a0:x_6):Option y92:=x_a7.b K a0 (x_a7.l0 K a0 K)
def x_mx (K:Nat) (a0:x_6):Option (x_pu×x_6×Unit):=
 (x_a7 K a0).bind fun v1=>(x_k v1.2.1 (i6 ((v1.1.length:Int)+1))).bind fun v2=>(x_k v2.2.1 14).bind fun v3=>it (v3.1=0) ((x_7 v3.2.1 [(-1),i6 ((v1.1.length:Int)+1)]).bind fun v4=>some ((v1.1,v4.1),v4.2.1,()))<|it (v3.1=1) ((x_k v3.2.1 2).bind fun v5=>ck ((i6 (80000+v5.1))=(i6 (80000+v5.1)))<|ck (0≤(i6 (80000+v5.1)))<|ck (((i6 (80000+v5.1)).toNat)*2≤x_en)<|some ((List.replicate ((i6 (80000+v5.1)).toNat) 0,v2.1),v5.2.1,()))<|some ((v1.1,v2.1),v3.2.1,())
def x_m3 (K:Nat) (a0:x_6):Option (x_d×x_bq×Int×x_6×Unit):=
 (x_fo K a0).bind fun v1=>it ((v1.1.2.2.1.length:Int)=0) (some (v1.1.1,(0,(0,0,(0,0,[]),[],[],[],0,[],[]),0,[],[],[],0,([],[],[],0,[],[]),([],0),[]),1,v1.2.1,()))<|(x_k v1.2.1 (v1.1.2.2.1.length:Int)).bind fun v2=>ix v2.1 v1.1.2.2.1<|(x_ae K (v1.1.2.2.1.getD v2.1.toNat x_bx)).bind fun v3=>(x_k v2.2.1 18).bind fun v4=>it (v4.1=0) ((x_7 v4.2.1 [(-1),0,1,5]).bind fun v5=>some (v1.1.1,(v5.1,v3.1.2),v1.1.2.1,v5.2.1,()))<|it (v4.1=1) ((x_mt K v4.2.1).bind fun v6=>some (v1.1.1,(v3.1.1,v6.2.1,v3.1.2.2),v1.1.2.1,v6.2.2.1,()))<|it (v4.1=2) ((x_7 v4.2.1 [(-1),0,1,300]).bind fun v7=>some (v1.1.1,(v3.1.1,v3.1.2.1,v3.1.2.2.1,v3.1.2.2.2.1,v3.1.2.2.2.2.1,v3.1.2.2.2.2.2.1,v7.1,v3.1.2.2.2.2.2.2.2),v1.1.2.1,v7.2.1,()))<|it (v4.1=3) ((x_7 v4.2.1 [0,1,2,300]).bind fun v8=>ck (0<(v3.1.2.2.2.2.1.length:Int))<|some (v1.1.1,(v3.1.1,v3.1.2.1,v3.1.2.2.1,v3.1.2.2.2.1,v3.1.2.2.2.2.1.set 0 v8.1,v3.1.2.2.2.2.2),v1.1.2.1,v8.2.1,()))<|it (v4.1=4) ((x_mx K v4.2.1).bind fun v9=>some (v1.1.1,(v3.1.1,v3.1.2.1,v3.1.2.2.1,v3.1.2.2.2.1,v3.1.2.2.2.2.1,v3.1.2.2.2.2.2.1,v3.1.2.2.2.2.2.2.1,v3.1.2.2.2.2.2.2.2.1,v9.1,v3.1.2.2.2.2.2.2.2.2.2),v1.1.2.1,v9.2.1,()))<|it (v4.1=5) ((x_k v4.2.1 5).bind fun v10=>some (v1.1.1,(v3.1.1,v3.1.2.1,i6 (v10.1-1),v3.1.2.2.2),v1.1.2.1,v10.2.1,()))<|it (v4.1=6) ((x_dv K v4.2.1).bind fun v11=>gr 105 v3.1.2.2.2.2.2.2.2.2.2 [v11.1]<|some (v1.1.1,(v3.1.1,v3.1.2.1,v3.1.2.2.1,v3.1.2.2.2.1,v3.1.2.2.2.2.1,v3.1.2.2.2.2.2.1,v3.1.2.2.2.2.2.2.1,v3.1.2.2.2.2.2.2.2.1,v3.1.2.2.2.2.2.2.2.2.1,v3.1.2.2.2.2.2.2.2.2.2++[v11.1]),v1.1.2.1,v11.2.1,()))<|some (v1.1.1,v3.1,v1.1.2.1,v4.2.1,())
def x_m6 (K:Nat) (a0:x_6):Option (x_u×x_6×Unit):=
 (x_fo K a0).bind fun v1=>(x_k v1.2.1 18).bind fun v2=>it (v2.1=0) ((x_k v2.2.1 7).bind fun v3=>some ((v1.1.1,v3.1,v1.1.2.2),v3.2.1,()))<|it (v2.1=1) ((x_dv K v2.2.1).bind fun v4=>gr 105 v1.1.2.2.2.1 [v4.1]<|some ((v1.1.1,v1.1.2.1,v1.1.2.2.1,v1.1.2.2.2.1++[v4.1],v1.1.2.2.2.2),v4.2.1,()))<|it (v2.1=2) ((x_k v2.2.1 5).bind fun v5=>(x_k v5.2.1 4).bind fun v6=>(x_k v6.2.1 9).bind fun v7=>gr 81 v1.1.2.2.2.2.2.2.1 [(v5.1,v6.1,(0,0,ByteArray.empty,ByteArray.empty),0,v7.1)]<|some ((v1.1.1,v1.1.2.1,v1.1.2.2.1,v1.1.2.2.2.1,v1.1.2.2.2.2.1,v1.1.2.2.2.2.2.1,v1.1.2.2.2.2.2.2.1++[(v5.1,v6.1,(0,0,ByteArray.empty,ByteArray.empty),0,v7.1)],v1.1.2.2.2.2.2.2.2),v7.2.1,()))<|it (v2.1=3) ((x_dk v2.2.1).bind fun v8=>(x_h2 v8.2.1 v8.1).bind fun v9=>ck (0<(v1.1.2.2.2.2.1.length:Int))<|some ((v1.1.1,v1.1.2.1,v1.1.2.2.1,v1.1.2.2.2.1,v1.1.2.2.2.2.1.set 0 v9.1,v1.1.2.2.2.2.2),v9.2.1,()))<|it (v2.1=4) ((x_dk v2.2.1).bind fun v10=>(x_h2 v10.2.1 v10.1).bind fun v11=>gr 81 v1.1.2.2.2.2.2.2.2 [v11.1]<|some ((v1.1.1,v1.1.2.1,v1.1.2.2.1,v1.1.2.2.2.1,v1.1.2.2.2.2.1,v1.1.2.2.2.2.2.1,v1.1.2.2.2.2.2.2.1,v1.1.2.2.2.2.2.2.2++[v11.1]),v11.2.1,()))<|it (v2.1=5) ((x_m3 K v2.2.1).bind fun v12=>ck (0<(v1.1.2.2.1.length:Int))<|some ((v1.1.1,v1.1.2.1,v1.1.2.2.1.set 0 v12.2.1,v1.1.2.2.2),v12.2.2.2.1,()))<|it (v2.1=6) ((x_7 v2.2.1 [(-1),0,300,301]).bind fun v13=>ck (1<(v1.1.2.2.2.2.2.1.length:Int))<|some ((v1.1.1,v1.1.2.1,v1.1.2.2.1,v1.1.2.2.2.1,v1.1.2.2.2.2.1,v1.1.2.2.2.2.2.1.set 1 v13.1,v1.1.2.2.2.2.2.2),v13.2.1,()))<|some (v1.1,v2.2.1,())
def x_kt (a0:x_6) (a1:x_kc):Option y53:=
 (x_k a0 15).bind fun v1=>it (v1.1=0) ((x_k v1.2.1 14).bind fun v2=>some ((i6 (v2.1-1),a1.2),v2.2.1,()))<|it (v1.1=1) ((x_7 v1.2.1 [(-1),5,9223372036854775807]).bind fun v3=>some ((a1.1,v3.1,a1.2.2),v3.2.1,()))<|it (v1.1=2) ((x_7 v1.2.1 [(-1),5,9223372036854775807,(-9223372036854775808)]).bind fun v4=>some ((a1.1,a1.2.1,v4.1,a1.2.2.2),v4.2.1,()))<|it (v1.1=3) ((x_dk v1.2.1).bind fun v5=>(x_h2 v5.2.1 v5.1).bind fun v6=>some ((a1.1,a1.2.1,a1.2.2.1,v6.1),v6.2.1,()))<|some (a1,v1.2.1,())
def x_qo (K:Nat) (a0:y0):Option (x_u×x_kc×Unit):=
 (x_fe K a0).bind fun v1=>(x_m6 K v1.1).bind fun v2=>(x_y K v2.2.1 v2.1).bind fun v3=>(x_kt v3.2.1 v3.1).bind fun v4=>some (v2.1,v4.1,())
def l_at (a0:y0) (a1:Int):Option y7:=
 it (a1<a0.length) (ix a1 a0<|some (i6 (a0.getD a1.toNat 0),()))<|some (Int.tmod (i6 ((i6 (a1*7))+(a0.length:Int))) 256,())
def x_aa (a0:Int) (a1:Int) (a2:Int):Option y11:=
 it (a0≥a1) (some (decide (a0≤a2),()))<|some (false,())
def x_g4 (a0:x_d):Option y11:=
 (x_aa a0.1 1 4).bind fun v1=>cond v1.1 ((x_aa a0.2.1 1 5).bind fun v2=>cond v2.1 ((x_aa a0.2.2.1 1 8).bind fun v3=>cond v3.1 ((x_aa a0.2.2.2 0 60).bind fun v4=>some (v4.1,()))<|some (false,()))<|some (false,()))<|some (false,())
def x_ih (a0:Int) (a1:Int) (a2:Int):Option (Bool×Int×Int×Unit):=
 (x_aa a0 a1 a2).bind fun v1=>some (!v1.1,a1,a2,())
def x_l.l0b (K:Nat) (a0:y0) (a1:Int) (a2:Int) (L0:y110) (q0:Int) (q1:Int) (q2:Int):Option y65:=
 it (q0<a0.length) (ix q0 a0<|(x_ih (a0.getD q0.toNat 0) q1 q2).bind fun v1=>cond v1.1 (some (q0,v1.2.1,v1.2.2.1,()))<|L0 (i6 (q0+1)) v1.2.1 v1.2.2.1)<|some ((-1),q1,q2,())
def x_l.l0 (K:Nat) (a0:y0) (a1:Int) (a2:Int):Nat→y110:=lp3 (x_l.l0b K a0 a1 a2)
def x_l.b (K:Nat) (a0:y0) (a1:Int) (a2:Int) (L0:y110):Option y65:=
 L0 0 a1 a2
def x_l (K:Nat) (a0:y0) (a1:Int) (a2:Int):Option y65:=x_l.b K a0 a1 a2 (x_l.l0 K a0 a1 a2 K)
def x_dj (K:Nat) (a0:y0) (a1:Int) (a2:Int):Option (Bool×Int×Int×Unit):=
 (x_l K a0 a1 a2).bind fun v1=>some (decide (v1.1≥0),v1.2.1,v1.2.2.1,())
def x_er (K:Nat) (a0:y0) (a1:Int) (a2:Int):Option y11:=
 (x_dj K a0 a1 a2).bind fun v1=>some (!v1.1,())
def x_qy (a0:TLog):Option y29:=
 it ((a0.2.2.length:Int)>0) (ix (i6 ((a0.2.2.length:Int)-1)) a0.2.2<|some (i6 (a0.1+(a0.2.2.length:Int)),(a0.2.2.getD ((i6 ((a0.2.2.length:Int)-1)).toNat) x_ay).1,()))<|some (a0.1,a0.2.1,())
def x_bo.l0b (K:Nat) (a0:y2) (L0:y30) (q0:Int):Option y11:=
 it (q0<((a0.size:Nat):Int)) (ck (0≤q0)<|ck (q0<((a0.size:Nat):Int))<|it ((x_fc a0 q0)<97) (it ((x_fc a0 q0)<48) (nit ((x_fc a0 q0)=32) (some (false,()))<|L0 (i6 (q0+1)))<|it ((x_fc a0 q0)>57) (nit ((x_fc a0 q0)=32) (some (false,()))<|L0 (i6 (q0+1)))<|L0 (i6 (q0+1)))<|it ((x_fc a0 q0)>122) (it ((x_fc a0 q0)<48) (nit ((x_fc a0 q0)=32) (some (false,()))<|L0 (i6 (q0+1)))<|it ((x_fc a0 q0)>57) (nit ((x_fc a0 q0)=32) (some (false,()))<|L0 (i6 (q0+1)))<|L0 (i6 (q0+1)))<|L0 (i6 (q0+1)))<|some (decide (((a0.size:Nat):Int)≤30),())
def x_bo.l0 (K:Nat) (a0:y2):Nat→y30:=lp1 (x_bo.l0b K a0)
def x_bo.b (K:Nat) (a0:y2) (L0:y30):Option y11:=
 L0 0
def x_bo (K:Nat) (a0:y2):Option y11:=x_bo.b K a0 (x_bo.l0 K a0 K)
def x_jt (K:Nat) (a0:TCmd):Option y11:=
 it (a0.1=(-1)) (some (qCmd a0 ((-1),0,0,0,0,0,ByteArray.empty,ByteArray.empty),()))<|(x_aa a0.1 0 3).bind fun v1=>cond v1.1 ((x_aa a0.2.1 1 100000).bind fun v2=>cond v2.1 ((x_aa a0.2.2.1 1 10).bind fun v3=>cond v3.1 ((x_aa a0.2.2.2.1 0 100000).bind fun v4=>cond v4.1 ((x_aa a0.2.2.2.2.1 0 100000).bind fun v5=>cond v5.1 ((x_aa a0.2.2.2.2.2.1 0 100000).bind fun v6=>cond v6.1 ((x_bo K a0.2.2.2.2.2.2.1).bind fun v7=>cond v7.1 ((x_bo K a0.2.2.2.2.2.2.2).bind fun v8=>some (v8.1,()))<|some (false,()))<|some (false,()))<|some (false,()))<|some (false,()))<|some (false,()))<|some (false,()))<|some (false,())
def x_et.l0b (K:Nat) (a0:TLog) (L0:y59) (q0:Int) (q1:Int):Option y11:=
 it (q1<a0.2.2.length) (ix q1 a0.2.2<|(x_aa (a0.2.2.getD q1.toNat x_ay).1 q0 300).bind fun v3=>cond (!v3.1) (some (false,()))<|(x_jt K (a0.2.2.getD q1.toNat x_ay).2).bind fun v4=>cond (!v4.1) (some (false,()))<|L0 (a0.2.2.getD q1.toNat x_ay).1 (i6 (q1+1)))<|some (true,())
def x_et.l0 (K:Nat) (a0:TLog):Nat→y59:=lp2 (x_et.l0b K a0)
def x_et.b (K:Nat) (a0:TLog) (L0:y59):Option y11:=
 (x_aa a0.1 0 300).bind fun v1=>cond (!v1.1) (some (false,()))<|(x_aa a0.2.1 0 300).bind fun v2=>cond (!v2.1) (some (false,()))<|it (a0.2.2.length>(i6 (300-a0.1))) (some (false,()))<|L0 a0.2.1 0
def x_et (K:Nat) (a0:TLog):Option y11:=x_et.b K a0 (x_et.l0 K a0 K)
def x_c0.l0b (K:Nat) (a0:x_at) (a1:Int) (L0:y30) (q0:Int):Option y11:=
 it (q0<a0.2.2.2.2.length) (ix q0 a0.2.2.2.2<|nit ((a0.2.2.2.2.getD q0.toNat x_ie).1=(i6 ((i6 ((i6 (a0.2.2.2.1-(a0.2.2.2.2.length:Int)))+1))+q0))) (some (false,()))<|(x_aa (a0.2.2.2.2.getD q0.toNat x_ie).2 0 100000).bind fun v5=>cond (!v5.1) (some (false,()))<|it (q0>0) (ix (i6 (q0-1)) a0.2.2.2.2<|it ((a0.2.2.2.2.getD ((i6 (q0-1)).toNat) x_ie).2≥(a0.2.2.2.2.getD q0.toNat x_ie).2) (some (false,()))<|L0 (i6 (q0+1)))<|L0 (i6 (q0+1)))<|some (true,())
def x_c0.l0 (K:Nat) (a0:x_at) (a1:Int):Nat→y30:=lp1 (x_c0.l0b K a0 a1)
def x_c0.b (K:Nat) (a0:x_at) (a1:Int) (L0:y30):Option y11:=
 (x_aa a0.1 0 3).bind fun v1=>cond (!v1.1) (some (false,()))<|(x_aa a0.2.1 0 3).bind fun v2=>cond (!v2.1) (some (false,()))<|(x_aa a0.2.2.1 0 100000).bind fun v3=>cond (!v3.1) (some (false,()))<|(x_aa a0.2.2.2.1 (-1) 100000).bind fun v4=>cond (!v4.1) (some (false,()))<|it (a0.2.2.2.2.length>a1) (some (false,()))<|cond (!((decide (a0.2.2.2.1=(-1))) == (decide ((a0.2.2.2.2.length:Int)=0)))) (some (false,()))<|L0 0
def x_c0 (K:Nat) (a0:x_at) (a1:Int):Option y11:=x_c0.b K a0 a1 (x_c0.l0 K a0 a1 K)
def x_e0.l0b (K:Nat) (a0:TRow) (L0:y30) (q0:Int):Option y11:=
 it (q0<a0.2.2.length) (ix q0 a0.2.2<|(x_aa (a0.2.2.getD q0.toNat x_ce).1 a0.1 (i6 (a0.2.1-1))).bind fun v2=>cond (!v2.1) (some (false,()))<|it (q0>0) (ix (i6 (q0-1)) a0.2.2<|it ((a0.2.2.getD ((i6 (q0-1)).toNat) x_ce).1≥(a0.2.2.getD q0.toNat x_ce).1) (some (false,()))<|(x_bo K (a0.2.2.getD q0.toNat x_ce).2.1).bind fun v3=>cond (!v3.1) (some (false,()))<|(x_bo K (a0.2.2.getD q0.toNat x_ce).2.2.1).bind fun v4=>cond (!v4.1) (some (false,()))<|(x_aa (a0.2.2.getD q0.toNat x_ce).2.2.2.1 0 3).bind fun v5=>cond (!v5.1) (some (false,()))<|(x_aa (a0.2.2.getD q0.toNat x_ce).2.2.2.2 0 100000).bind fun v6=>cond (!v6.1) (some (false,()))<|L0 (i6 (q0+1)))<|(x_bo K (a0.2.2.getD q0.toNat x_ce).2.1).bind fun v7=>cond (!v7.1) (some (false,()))<|(x_bo K (a0.2.2.getD q0.toNat x_ce).2.2.1).bind fun v8=>cond (!v8.1) (some (false,()))<|(x_aa (a0.2.2.getD q0.toNat x_ce).2.2.2.1 0 3).bind fun v9=>cond (!v9.1) (some (false,()))<|(x_aa (a0.2.2.getD q0.toNat x_ce).2.2.2.2 0 100000).bind fun v10=>cond (!v10.1) (some (false,()))<|L0 (i6 (q0+1)))<|some (true,())
def x_e0.l0 (K:Nat) (a0:TRow):Nat→y30:=lp1 (x_e0.l0b K a0)
def x_e0.b (K:Nat) (a0:TRow) (L0:y30):Option y11:=
 (x_aa a0.1 0 a0.2.1).bind fun v1=>cond (!v1.1) (some (false,()))<|it (a0.2.1>100000) (some (false,()))<|it ((a0.2.2.length:Int)>80) (some (false,()))<|L0 0
def x_e0 (K:Nat) (a0:TRow):Option y11:=x_e0.b K a0 (x_e0.l0 K a0 K)
def x_n0 (K:Nat) (a0:TRow):Option y11:=
 (x_e0 K a0).bind fun v1=>some (!v1.1,())
def x_3.l0b (K:Nat) (a0:y4) (L0:y32) (q0:Int):Option y7:=
 it (q0<a0.length) (ix q0 a0<|(x_n0 K (a0.getD q0.toNat zRow)).bind fun v1=>cond v1.1 (some (q0,()))<|L0 (i6 (q0+1)))<|some ((-1),())
def x_3.l0 (K:Nat) (a0:y4):Nat→y32:=lp1 (x_3.l0b K a0)
def x_3.b (K:Nat) (a0:y4) (L0:y32):Option y7:=
 L0 0
def x_3 (K:Nat) (a0:y4):Option y7:=x_3.b K a0 (x_3.l0 K a0 K)
def x_cu (K:Nat) (a0:y4):Option y11:=
 (x_3 K a0).bind fun v1=>some (decide (v1.1≥0),())
def x_f8 (a0:Int):Option y11:=
 (x_aa a0 0 3).bind fun v1=>some (v1.1,())
def x_cw.l0b (K:Nat) (a0:x_ar) (a1:Int) (L0:y30) (q0:Int):Option y11:=
 it (q0<a0.2.1.length) (ix q0 a0.2.1<|(x_f8 (a0.2.1.getD q0.toNat 0)).bind fun v1=>cond (!v1.1) (some (false,()))<|it (q0>0) (ix (i6 (q0-1)) a0.2.1<|it ((a0.2.1.getD ((i6 (q0-1)).toNat) 0)≥(a0.2.1.getD q0.toNat 0)) (some (false,()))<|L0 (i6 (q0+1)))<|L0 (i6 (q0+1)))<|(x_aa a0.1 0 100000).bind fun v2=>cond v2.1 (it ((a0.2.2.1.length:Int)=a0.2.1.length) ((x_er K a0.2.2.1 0 100000).bind fun v3=>cond v3.1 (it (a0.2.2.2.length=a1) ((x_er K a0.2.2.2 0 100000).bind fun v4=>some (v4.1,()))<|some (false,()))<|some (false,()))<|some (false,()))<|some (false,())
def x_cw.l0 (K:Nat) (a0:x_ar) (a1:Int):Nat→y30:=lp1 (x_cw.l0b K a0 a1)
def x_cw.b (K:Nat) (a0:x_ar) (a1:Int) (L0:y30):Option y11:=
 L0 0
def x_cw (K:Nat) (a0:x_ar) (a1:Int):Option y11:=x_cw.b K a0 a1 (x_cw.l0 K a0 a1 K)
def x_nm (K:Nat) (a0:x_ar) (a1:x_d):Option (Bool×x_d×Unit):=
 (x_cw K a0 a1.1).bind fun v1=>some (!v1.1,a1,())
def x_z.l0b (K:Nat) (a0:y12) (a1:x_d) (L0:y94) (q0:Int) (q1:x_d):Option y45:=
 it (q0<a0.length) (ix q0 a0<|(x_nm K (a0.getD q0.toNat x_bv) q1).bind fun v1=>cond v1.1 (some (q0,v1.2.1,()))<|L0 (i6 (q0+1)) v1.2.1)<|some ((-1),q1,())
def x_z.l0 (K:Nat) (a0:y12) (a1:x_d):Nat→y94:=lp2 (x_z.l0b K a0 a1)
def x_z.b (K:Nat) (a0:y12) (a1:x_d) (L0:y94):Option y45:=
 L0 0 a1
def x_z (K:Nat) (a0:y12) (a1:x_d):Option y45:=x_z.b K a0 a1 (x_z.l0 K a0 a1 K)
def x_c1 (K:Nat) (a0:y12) (a1:x_d):Option (Bool×x_d×Unit):=
 (x_z K a0 a1).bind fun v1=>some (decide (v1.1≥0),v1.2.1,())
def x_in (K:Nat) (a0:x_dl):Option y11:=
 (x_aa a0.1 0 9).bind fun v1=>cond v1.1 ((x_aa a0.2.1 (-1) 100000).bind fun v2=>cond v2.1 ((x_bo K a0.2.2.1).bind fun v3=>cond v3.1 ((x_bo K a0.2.2.2).bind fun v4=>some (v4.1,()))<|some (false,()))<|some (false,()))<|some (false,())
def x_nz (K:Nat) (a0:x_dl):Option y11:=
 (x_in K a0).bind fun v1=>some (!v1.1,())
def x_0.l0b (K:Nat) (a0:y21) (L0:y32) (q0:Int):Option y7:=
 it (q0<a0.length) (ix q0 a0<|(x_nz K (a0.getD q0.toNat x_b7)).bind fun v1=>cond v1.1 (some (q0,()))<|L0 (i6 (q0+1)))<|some ((-1),())
def x_0.l0 (K:Nat) (a0:y21):Nat→y32:=lp1 (x_0.l0b K a0)
def x_0.b (K:Nat) (a0:y21) (L0:y32):Option y7:=
 L0 0
def x_0 (K:Nat) (a0:y21):Option y7:=x_0.b K a0 (x_0.l0 K a0 K)
def x_cr (K:Nat) (a0:y21):Option y11:=
 (x_0 K a0).bind fun v1=>some (decide (v1.1≥0),())
def x_di.l0b (K:Nat) (a0:x_d) (a1:x_ai) (L0:y30) (q0:Int):Option y11:=
 it (q0<a1.2.1.length) (ix q0 a1.2.1<|(x_c0 K (a1.2.1.getD q0.toNat x_bb) a0.2.1).bind fun v4=>cond (!v4.1) (some (false,()))<|it ((a1.2.1.getD q0.toNat x_bb).1≥a0.1) (some (false,()))<|it (q0>0) (ix (i6 (q0-1)) a1.2.1<|it ((a1.2.1.getD ((i6 (q0-1)).toNat) x_bb).1>(a1.2.1.getD q0.toNat x_bb).1) (some (false,()))<|ix (i6 (q0-1)) a1.2.1<|it ((a1.2.1.getD ((i6 (q0-1)).toNat) x_bb).1=(a1.2.1.getD q0.toNat x_bb).1) (ix (i6 (q0-1)) a1.2.1<|it ((a1.2.1.getD ((i6 (q0-1)).toNat) x_bb).2.1≥(a1.2.1.getD q0.toNat x_bb).2.1) (some (false,()))<|L0 (i6 (q0+1)))<|L0 (i6 (q0+1)))<|L0 (i6 (q0+1)))<|(x_cu K a1.1).bind fun v5=>(x_c1 K a1.2.2.1 a0).bind fun v6=>(x_cr K a1.2.2.2.2.2).bind fun v7=>cond (!v5.1) (cond (!v6.1) (some (!v7.1,()))<|some (false,()))<|some (false,())
def x_di.l0 (K:Nat) (a0:x_d) (a1:x_ai):Nat→y30:=lp1 (x_di.l0b K a0 a1)
def x_di.b (K:Nat) (a0:x_d) (a1:x_ai) (L0:y30):Option y11:=
 (x_g4 a0).bind fun v1=>cond (!v1.1) (some (false,()))<|nit (a1.1.length=a0.1) (some (false,()))<|nit ((a1.2.2.1.length:Int)=2) (some (false,()))<|(x_aa a1.2.2.2.1 0 100000).bind fun v2=>cond (!v2.1) (some (false,()))<|nit ((a1.2.2.2.2.1.length:Int)=4) (some (false,()))<|(x_er K a1.2.2.2.2.1 0 100000).bind fun v3=>cond (!v3.1) (some (false,()))<|nit ((a1.2.2.2.2.2.length:Int)=4) (some (false,()))<|L0 0
def x_di (K:Nat) (a0:x_d) (a1:x_ai):Option y11:=x_di.b K a0 a1 (x_di.l0 K a0 a1 K)
def x_iw (K:Nat) (a0:x_d) (a1:x_dh):Option y11:=
 (x_qy a1.2.2.1).bind fun v1=>(x_aa a1.1 0 300).bind fun v2=>cond v2.1 ((x_aa a1.2.1 (-1) 4).bind fun v3=>cond v3.1 ((x_et K a1.2.2.1).bind fun v4=>cond v4.1 (it (v1.2.1≤a1.1) ((x_di K a0 a1.2.2.2).bind fun v5=>some (v5.1,()))<|some (false,()))<|some (false,()))<|some (false,()))<|some (false,())
def i_last (a0:TLog):Option y7:=
 some (i6 (a0.1+(a0.2.2.length:Int)),())
def x_rj (a0:x_pu):Option y11:=
 it ((a0.1.length:Int)≤80000) ((x_aa a0.2 0 (a0.1.length:Int)).bind fun v1=>some (v1.1,()))<|some (false,())
def x_rb (K:Nat) (a0:x_c6) (a1:TRpc):Option (Bool×TRpc×Unit):=
 (x_aa a0.1 0 a1.2.2.2.1).bind fun v1=>cond (!v1.1) (some (true,a1,()))<|(x_jt K a0.2).bind fun v2=>some (!v2.1,a1,())
def x_4.l0b (K:Nat) (a0:y14) (a1:TRpc) (L0:y90) (q0:Int) (q1:TRpc):Option y37:=
 it (q0<a0.length) (ix q0 a0<|(x_rb K (a0.getD q0.toNat x_ay) q1).bind fun v1=>cond v1.1 (some (q0,v1.2.1,()))<|L0 (i6 (q0+1)) v1.2.1)<|some ((-1),q1,())
def x_4.l0 (K:Nat) (a0:y14) (a1:TRpc):Nat→y90:=lp2 (x_4.l0b K a0 a1)
def x_4.b (K:Nat) (a0:y14) (a1:TRpc) (L0:y90):Option y37:=
 L0 0 a1
def x_4 (K:Nat) (a0:y14) (a1:TRpc):Option y37:=x_4.b K a0 a1 (x_4.l0 K a0 a1 K)
def x_db (K:Nat) (a0:y14) (a1:TRpc):Option (Bool×TRpc×Unit):=
 (x_4 K a0 a1).bind fun v1=>some (decide (v1.1≥0),v1.2.1,())
def x_sc (K:Nat) (a0:TRpc) (a1:Int):Option y11:=
 (x_aa a1 1 5).bind fun v1=>cond (!v1.1) (some (false,()))<|(x_aa a0.1 1 5).bind fun v2=>cond (!v2.1) (some (false,()))<|(x_aa a0.2.1 0 (i6 (a1-1))).bind fun v3=>cond (!v3.1) (some (false,()))<|(x_aa a0.2.2.1 0 (i6 (a1-1))).bind fun v4=>cond (!v4.1) (some (false,()))<|it (a0.2.1=a0.2.2.1) (some (false,()))<|(x_aa a0.2.2.2.1 0 300).bind fun v5=>cond (!v5.1) (some (false,()))<|(x_aa a0.2.2.2.2.1 0 300).bind fun v6=>cond (!v6.1) (some (false,()))<|(x_aa a0.2.2.2.2.2.1 0 300).bind fun v7=>cond (!v7.1) (some (false,()))<|(x_aa a0.2.2.2.2.2.2.1 0 300).bind fun v8=>cond (!v8.1) (some (false,()))<|it ((a0.2.2.2.2.2.2.2.1.length:Int)>40) (some (false,()))<|it (((a0.2.2.2.2.2.2.2.2.2.size:Nat):Int)>30000) (some (false,()))<|(x_db K a0.2.2.2.2.2.2.2.1 a0).bind fun v9=>some (!v9.1,())
def x_o2 (K:Nat) (a0:TRpc) (a1:Int) (a2:x_bq):Option (Bool×Int×x_bq×Unit):=
 (x_sc K a0 a1).bind fun v1=>cond (!v1.1) (some (true,a1,a2,()))<|some (!(decide (a0.2.1=a2.1)),a1,a2,())
def x_1.l0b (K:Nat) (a0:y3) (a1:Int) (a2:x_bq) (L0:y118) (q0:Int) (q1:Int) (q2:x_bq):Option y83:=
 it (q0<a0.length) (ix q0 a0<|(x_o2 K (a0.getD q0.toNat zRpc) q1 q2).bind fun v1=>cond v1.1 (some (q0,v1.2.1,v1.2.2.1,()))<|L0 (i6 (q0+1)) v1.2.1 v1.2.2.1)<|some ((-1),q1,q2,())
def x_1.l0 (K:Nat) (a0:y3) (a1:Int) (a2:x_bq):Nat→y118:=lp3 (x_1.l0b K a0 a1 a2)
def x_1.b (K:Nat) (a0:y3) (a1:Int) (a2:x_bq) (L0:y118):Option y83:=
 L0 0 a1 a2
def x_1 (K:Nat) (a0:y3) (a1:Int) (a2:x_bq):Option y83:=x_1.b K a0 a1 a2 (x_1.l0 K a0 a1 a2 K)
def x_c2 (K:Nat) (a0:y3) (a1:Int) (a2:x_bq):Option (Bool×Int×x_bq×Unit):=
 (x_1 K a0 a1 a2).bind fun v1=>some (decide (v1.1≥0),v1.2.1,v1.2.2.1,())
def x_qu (K:Nat) (a0:x_d) (a1:x_bq) (a2:Int):Option y11:=
 (x_aa a2 1 5).bind fun v1=>cond (!v1.1) (some (false,()))<|(x_aa a1.1 0 (i6 (a2-1))).bind fun v2=>cond (!v2.1) (some (false,()))<|(x_iw K a0 a1.2.1).bind fun v3=>cond (!v3.1) (some (false,()))<|it (a1.2.1.2.1≥a2) (some (false,()))<|(x_aa a1.2.2.1 0 2).bind fun v4=>cond (!v4.1) (some (false,()))<|(i_last a1.2.1.2.2.1).bind fun v5=>nit (a1.2.2.2.1.length=a2) (some (false,()))<|nit (a1.2.2.2.2.1.length=a2) (some (false,()))<|(x_er K a1.2.2.2.2.1 1 (i6 (v5.1+1))).bind fun v6=>cond (!v6.1) (some (false,()))<|nit (a1.2.2.2.2.2.1.length=a2) (some (false,()))<|(x_er K a1.2.2.2.2.2.1 0 v5.1).bind fun v7=>cond (!v7.1) (some (false,()))<|(x_aa a1.2.2.2.2.2.2.1 a1.2.1.2.2.1.1 v5.1).bind fun v8=>cond (!v8.1) (some (false,()))<|(x_di K a0 a1.2.2.2.2.2.2.2.1).bind fun v9=>cond (!v9.1) (some (false,()))<|(x_rj a1.2.2.2.2.2.2.2.2.1).bind fun v10=>cond (!v10.1) (some (false,()))<|it ((a1.2.2.2.2.2.2.2.2.2.length:Int)>40) (some (false,()))<|(x_c2 K a1.2.2.2.2.2.2.2.2.2 a2 a1).bind fun v11=>some (!v11.1,())
def x_ln (K:Nat) (a0:TRpc) (a1:x_u):Option (Bool×x_u×Unit):=
 (x_sc K a0 a1.2.1).bind fun v1=>some (!v1.1,a1,())
def x_v.l0b (K:Nat) (a0:y3) (a1:x_u) (L0:y95) (q0:Int) (q1:x_u):Option y46:=
 it (q0<a0.length) (ix q0 a0<|(x_ln K (a0.getD q0.toNat zRpc) q1).bind fun v1=>cond v1.1 (some (q0,v1.2.1,()))<|L0 (i6 (q0+1)) v1.2.1)<|some ((-1),q1,())
def x_v.l0 (K:Nat) (a0:y3) (a1:x_u):Nat→y95:=lp2 (x_v.l0b K a0 a1)
def x_v.b (K:Nat) (a0:y3) (a1:x_u) (L0:y95):Option y46:=
 L0 0 a1
def x_v (K:Nat) (a0:y3) (a1:x_u):Option y46:=x_v.b K a0 a1 (x_v.l0 K a0 a1 K)
def x_cg (K:Nat) (a0:y3) (a1:x_u):Option (Bool×x_u×Unit):=
 (x_v K a0 a1).bind fun v1=>some (decide (v1.1≥0),v1.2.1,())
def x_jl (K:Nat) (a0:x_sz):Option y11:=
 (x_f8 a0.1).bind fun v1=>cond (!v1.1) (some (true,()))<|(x_aa a0.2.1 1 100000).bind fun v2=>cond (!v2.1) (some (true,()))<|(x_aa a0.2.2.2.1 0 300).bind fun v3=>cond (!v3.1) (some (true,()))<|(x_aa a0.2.2.2.2 0 300).bind fun v4=>cond (!v4.1) (some (true,()))<|(x_in K a0.2.2.1).bind fun v5=>some (!v5.1,())
def x_w.l0b (K:Nat) (a0:y17) (L0:y32) (q0:Int):Option y7:=
 it (q0<a0.length) (ix q0 a0<|(x_jl K (a0.getD q0.toNat x_ik)).bind fun v1=>cond v1.1 (some (q0,()))<|L0 (i6 (q0+1)))<|some ((-1),())
def x_w.l0 (K:Nat) (a0:y17):Nat→y32:=lp1 (x_w.l0b K a0)
def x_w.b (K:Nat) (a0:y17) (L0:y32):Option y7:=
 L0 0
def x_w (K:Nat) (a0:y17):Option y7:=x_w.b K a0 (x_w.l0 K a0 K)
def x_cl (K:Nat) (a0:y17):Option y11:=
 (x_w K a0).bind fun v1=>some (decide (v1.1≥0),())
def x_je (K:Nat) (a0:TCmd):Option y11:=
 (x_jt K a0).bind fun v1=>some (!v1.1,())
def x_x.l0b (K:Nat) (a0:y5) (L0:y32) (q0:Int):Option y7:=
 it (q0<a0.length) (ix q0 a0<|(x_je K (a0.getD q0.toNat zCmd)).bind fun v1=>cond v1.1 (some (q0,()))<|L0 (i6 (q0+1)))<|some ((-1),())
def x_x.l0 (K:Nat) (a0:y5):Nat→y32:=lp1 (x_x.l0b K a0)
def x_x.b (K:Nat) (a0:y5) (L0:y32):Option y7:=
 L0 0
def x_x (K:Nat) (a0:y5):Option y7:=x_x.b K a0 (x_x.l0 K a0 K)
def x_cj (K:Nat) (a0:y5):Option y11:=
 (x_x K a0).bind fun v1=>some (decide (v1.1≥0),())
def x_a2.l0b (K:Nat) (a0:x_u) (L0:y30) (L1:y30) (q0:Int):Option y11:=
 it (q0<a0.2.2.1.length) (ix q0 a0.2.2.1<|nit ((a0.2.2.1.getD q0.toNat x_bx).1=q0) (some (false,()))<|(x_qu K a0.1 (a0.2.2.1.getD q0.toNat x_bx) a0.2.1).bind fun v4=>cond (!v4.1) (some (false,()))<|L0 (i6 (q0+1)))<|L1 0
def x_a2.l1b (K:Nat) (a0:x_u) (L1:y30) (q1:Int):Option y11:=
 it (q1<a0.2.2.2.2.1.length) (ix q1 a0.2.2.2.2.1<|cond (!(qCmd (a0.2.2.2.2.1.getD q1.toNat zCmd) (0,0,0,0,0,0,ByteArray.empty,ByteArray.empty))) ((x_jt K (a0.2.2.2.2.1.getD q1.toNat zCmd)).bind fun v5=>cond (!v5.1) (some (false,()))<|nit ((a0.2.2.2.2.1.getD q1.toNat zCmd).1=q1) (some (false,()))<|L1 (i6 (q1+1)))<|L1 (i6 (q1+1)))<|(x_cg K a0.2.2.2.1 a0).bind fun v6=>(x_cl K v6.2.1.2.2.2.2.2.2.1).bind fun v7=>(x_cj K v6.2.1.2.2.2.2.2.2.2).bind fun v8=>cond (!v6.1) (cond (!v7.1) (some (!v8.1,()))<|some (false,()))<|some (false,())
def x_a2.l1 (K:Nat) (a0:x_u):Nat→y30:=lp1 (x_a2.l1b K a0)
def x_a2.l0 (K:Nat) (a0:x_u):Nat→y30:=lp1 fun r=>x_a2.l0b K a0 r (x_a2.l1 K a0 K)
def x_a2.b (K:Nat) (a0:x_u) (L0:y30):Option y11:=
 (x_g4 a0.1).bind fun v1=>cond (!v1.1) (some (false,()))<|(x_aa a0.2.1 1 5).bind fun v2=>cond (!v2.1) (some (false,()))<|nit (a0.2.2.1.length=a0.2.1) (some (false,()))<|it ((a0.2.2.2.1.length:Int)>40) (some (false,()))<|nit ((a0.2.2.2.2.1.length:Int)=4) (some (false,()))<|nit ((a0.2.2.2.2.2.1.length:Int)=4) (some (false,()))<|(x_er K a0.2.2.2.2.2.1 0 300).bind fun v3=>cond (!v3.1) (some (false,()))<|it ((a0.2.2.2.2.2.2.1.length:Int)>300) (some (false,()))<|it ((a0.2.2.2.2.2.2.2.length:Int)>300) (some (false,()))<|L0 0
def x_a2 (K:Nat) (a0:x_u):Option y11:=x_a2.b K a0 (x_a2.l0 K a0 K)
def x_h5.j0 (K:Nat) (a1:x_kc) (a0:x_u):Option y11:=
 (x_aa a1.2.1 0 (i6 (a0.2.1-1))).bind fun v6=>cond (!v6.1) (some (true,()))<|(x_f8 a1.2.2.1).bind fun v7=>some (!v7.1,())
def x_h5 (K:Nat) (a0:x_u) (a1:x_kc):Option y11:=
 it (a1.1=4) ((x_aa a1.2.1 0 (i6 ((a0.2.2.2.1.length:Int)-1))).bind fun v1=>some (!v1.1,()))<|it (a1.1=5) ((x_aa a1.2.1 0 (i6 ((a0.2.2.2.1.length:Int)-1))).bind fun v2=>some (!v2.1,()))<|it (a1.1=6) ((x_aa a1.2.1 0 (i6 ((a0.2.2.2.1.length:Int)-1))).bind fun v3=>some (!v3.1,()))<|it (a1.1=2) ((x_aa a1.2.1 0 (i6 (a0.2.1-1))).bind fun v4=>cond (!v4.1) (some (true,()))<|(x_aa a1.2.2.1 0 (i6 (a0.2.1-1))).bind fun v5=>some (!v5.1,()))<|it (a1.1=7) (x_h5.j0 K a1 a0)<|it (a1.1=8) (x_h5.j0 K a1 a0)<|it (a1.1=11) ((x_aa a1.2.1 0 (i6 (a0.2.1-1))).bind fun v8=>cond (!v8.1) (some (true,()))<|(x_f8 a1.2.2.1).bind fun v9=>some (!v9.1,()))<|(x_aa a1.2.1 0 (i6 (a0.2.1-1))).bind fun v10=>some (!v10.1,())
def x_fs (a0:TLog):Option y15:=
 gr 89 [] a0.2.2<|some ((a0.1,a0.2.1,[]++a0.2.2),())
def x_mv (a0:TRow):Option y16:=
 gr 57 [] a0.2.2<|some ((a0.1,a0.2.1,[]++a0.2.2),())
def x_e2 (a0:y0):Option y31:=
 gr 9 [] a0<|some ([]++a0,())
def x_i5 (a0:x_ar):Option y23:=
 (x_e2 a0.2.1).bind fun v1=>(x_e2 a0.2.2.1).bind fun v2=>(x_e2 a0.2.2.2).bind fun v3=>some ((a0.1,v1.1,v2.1,v3.1),())
def x_jj (a0:x_at):Option y24:=
 gr 17 [] a0.2.2.2.2<|some ((a0.1,a0.2.1,a0.2.2.1,a0.2.2.2.1,[]++a0.2.2.2.2),())
def x_bg.l0b (K:Nat) (a0:y13) (L0:y84) (q0:y13) (q1:Int):Option y51:=
 it (q1<a0.length) (ix q1 a0<|(x_jj (a0.getD q1.toNat x_bb)).bind fun v1=>gr 57 q0 [v1.1]<|L0 (q0++[v1.1]) (i6 (q1+1)))<|some (q0,())
def x_bg.l0 (K:Nat) (a0:y13):Nat→y84:=lp2 (x_bg.l0b K a0)
def x_bg.b (K:Nat) (a0:y13) (L0:y84):Option y51:=
 L0 [] 0
def x_bg (K:Nat) (a0:y13):Option y51:=x_bg.b K a0 (x_bg.l0 K a0 K)
def x_an.l0b (K:Nat) (a0:x_ai) (L0:y70) (L1:y105) (q0:Int) (q1:y4):Option y18:=
 it (q0<a0.1.length) (ix q0 a0.1<|(x_mv (a0.1.getD q0.toNat zRow)).bind fun v1=>gr 41 q1 [v1.1]<|L0 (i6 (q0+1)) (q1++[v1.1]))<|L1 0 q1 []
def x_an.l1b (K:Nat) (a0:x_ai) (L1:y105) (q2:Int) (q1:y4) (q3:y12):Option y18:=
 it (q2<a0.2.2.1.length) (ix q2 a0.2.2.1<|(x_i5 (a0.2.2.1.getD q2.toNat x_bv)).bind fun v2=>gr 81 q3 [v2.1]<|L1 (i6 (q2+1)) q1 (q3++[v2.1]))<|(x_bg K a0.2.1).bind fun v3=>(x_e2 a0.2.2.2.2.1).bind fun v4=>gr 49 [] a0.2.2.2.2.2<|some ((q1,v3.1,q3,a0.2.2.2.1,v4.1,[]++a0.2.2.2.2.2),())
def x_an.l1 (K:Nat) (a0:x_ai):Nat→y105:=lp3 (x_an.l1b K a0)
def x_an.l0 (K:Nat) (a0:x_ai):Nat→y70:=lp2 fun r=>x_an.l0b K a0 r (x_an.l1 K a0 K)
def x_an.b (K:Nat) (a0:x_ai) (L0:y70):Option y18:=
 L0 0 []
def x_an (K:Nat) (a0:x_ai):Option y18:=x_an.b K a0 (x_an.l0 K a0 K)
def x_fw (K:Nat) (a0:x_dh):Option y19:=
 (x_fs a0.2.2.1).bind fun v1=>(x_an K a0.2.2.2).bind fun v2=>some ((a0.1,a0.2.1,v1.1,v2.1),())
def x_ku (a0:x_pu):Option y20:=
 gr 2 [] a0.1<|some (([]++a0.1,a0.2),())
def x_b4.l0b (K:Nat) (a0:y3) (L0:y81) (q0:y3) (q1:Int):Option y38:=
 it (q1<a0.length) (ix q1 a0<|gr 89 [] (a0.getD q1.toNat zRpc).2.2.2.2.2.2.2.1<|gr 105 q0 [((a0.getD q1.toNat zRpc).1,(a0.getD q1.toNat zRpc).2.1,(a0.getD q1.toNat zRpc).2.2.1,(a0.getD q1.toNat zRpc).2.2.2.1,(a0.getD q1.toNat zRpc).2.2.2.2.1,(a0.getD q1.toNat zRpc).2.2.2.2.2.1,(a0.getD q1.toNat zRpc).2.2.2.2.2.2.1,[]++(a0.getD q1.toNat zRpc).2.2.2.2.2.2.2.1,(a0.getD q1.toNat zRpc).2.2.2.2.2.2.2.2)]<|L0 (q0++[((a0.getD q1.toNat zRpc).1,(a0.getD q1.toNat zRpc).2.1,(a0.getD q1.toNat zRpc).2.2.1,(a0.getD q1.toNat zRpc).2.2.2.1,(a0.getD q1.toNat zRpc).2.2.2.2.1,(a0.getD q1.toNat zRpc).2.2.2.2.2.1,(a0.getD q1.toNat zRpc).2.2.2.2.2.2.1,[]++(a0.getD q1.toNat zRpc).2.2.2.2.2.2.2.1,(a0.getD q1.toNat zRpc).2.2.2.2.2.2.2.2)]) (i6 (q1+1)))<|some (q0,())
def x_b4.l0 (K:Nat) (a0:y3):Nat→y81:=lp2 (x_b4.l0b K a0)
def x_b4.b (K:Nat) (a0:y3) (L0:y81):Option y38:=
 L0 [] 0
def x_b4 (K:Nat) (a0:y3):Option y38:=x_b4.b K a0 (x_b4.l0 K a0 K)
def x_km (K:Nat) (a0:x_bq):Option (x_bq×Unit):=
 (x_fw K a0.2.1).bind fun v1=>(x_an K a0.2.2.2.2.2.2.2.1).bind fun v2=>(x_ku a0.2.2.2.2.2.2.2.2.1).bind fun v3=>(x_b4 K a0.2.2.2.2.2.2.2.2.2).bind fun v4=>gr 2 [] a0.2.2.2.1<|(x_e2 a0.2.2.2.2.1).bind fun v5=>(x_e2 a0.2.2.2.2.2.1).bind fun v6=>some ((a0.1,v1.1,a0.2.2.1,[]++a0.2.2.2.1,v5.1,v6.1,a0.2.2.2.2.2.2.1,v2.1,v3.1,v4.1),())
def x_bc.l0b (K:Nat) (a0:x_u) (L0:y85) (q0:Int) (q1:y6):Option y25:=
 it (q0<a0.2.2.1.length) (ix q0 a0.2.2.1<|(x_km K (a0.2.2.1.getD q0.toNat x_bx)).bind fun v1=>gr 465 q1 [v1.1]<|L0 (i6 (q0+1)) (q1++[v1.1]))<|(x_b4 K a0.2.2.2.1).bind fun v2=>gr 81 [] a0.2.2.2.2.1<|gr 81 [] a0.2.2.2.2.2.2.2<|(x_e2 a0.2.2.2.2.2.1).bind fun v3=>gr 81 [] a0.2.2.2.2.2.2.1<|some ((a0.1,a0.2.1,q1,v2.1,[]++a0.2.2.2.2.1,v3.1,[]++a0.2.2.2.2.2.2.1,[]++a0.2.2.2.2.2.2.2),())
def x_bc.l0 (K:Nat) (a0:x_u):Nat→y85:=lp2 (x_bc.l0b K a0)
def x_bc.b (K:Nat) (a0:x_u) (L0:y85):Option y25:=
 L0 0 []
def x_bc (K:Nat) (a0:x_u):Option y25:=x_bc.b K a0 (x_bc.l0 K a0 K)
def x_ow (a0:TLog) (a1:Int):Option y15:=
 (x_aa a0.1 0 300).bind fun v1=>cond (!v1.1) ((x_fs a0).bind fun v3=>some (v3.1,()))<|(x_aa a1 0 300).bind fun v2=>cond (!v2.1) ((x_fs a0).bind fun v4=>some (v4.1,()))<|it (a1≤a0.1) ((x_fs a0).bind fun v5=>some (v5.1,()))<|it ((i6 (a1-a0.1))>a0.2.2.length) ((x_fs a0).bind fun v6=>some (v6.1,()))<|ix (i6 ((i6 (a1-a0.1))-1)) a0.2.2<|ck ((a0.2.2.length:Int)=(a0.2.2.length:Int))<|ck (0≤(i6 (a1-a0.1)))<|ck ((i6 (a1-a0.1))≤a0.2.2.length)<|ck ((a0.2.2.length:Int)≤a0.2.2.length)<|gr 89 [] ((a0.2.2.take ((a0.2.2.length:Int).toNat)).drop ((i6 (a1-a0.1)).toNat))<|some ((a1,(a0.2.2.getD ((i6 ((i6 (a1-a0.1))-1)).toNat) x_ay).1,[]++((a0.2.2.take ((a0.2.2.length:Int).toNat)).drop ((i6 (a1-a0.1)).toNat))),())
def x_og (K:Nat) (a0:x_c6):Option y11:=
 (x_aa a0.1 0 300).bind fun v1=>cond (!v1.1) (some (true,()))<|(x_jt K a0.2).bind fun v2=>some (!v2.1,())
def x_2.l0b (K:Nat) (a0:y14) (L0:y32) (q0:Int):Option y7:=
 it (q0<a0.length) (ix q0 a0<|(x_og K (a0.getD q0.toNat x_ay)).bind fun v1=>cond v1.1 (some (q0,()))<|L0 (i6 (q0+1)))<|some ((-1),())
def x_2.l0 (K:Nat) (a0:y14):Nat→y32:=lp1 (x_2.l0b K a0)
def x_2.b (K:Nat) (a0:y14) (L0:y32):Option y7:=
 L0 0
def x_2 (K:Nat) (a0:y14):Option y7:=x_2.b K a0 (x_2.l0 K a0 K)
def x_cv (K:Nat) (a0:y14):Option y11:=
 (x_2 K a0).bind fun v1=>some (decide (v1.1≥0),())
def x_ly (K:Nat) (a0:x_df):Option y11:=
 (x_aa a0.2.1 0 300).bind fun v1=>cond (!v1.1) (some (false,()))<|(x_aa a0.2.2.2.1 0 300).bind fun v2=>cond (!v2.1) (some (false,()))<|it ((a0.2.2.2.2.1.length:Int)>40) (some (false,()))<|it (((a0.2.2.2.2.2.size:Nat):Int)>30000) (some (false,()))<|(x_cv K a0.2.2.2.2.1).bind fun v3=>cond v3.1 (some (false,()))<|it (a0.1=1) ((x_aa a0.2.2.1 (-1) 4).bind fun v4=>cond v4.1 (it (a0.2.2.2.1=0) (it ((a0.2.2.2.2.1.length:Int)=0) (some (decide (a0.2.2.2.2.2.data.toList=ByteArray.empty.data.toList),()))<|some (false,()))<|some (false,()))<|some (false,()))<|it (a0.1=2) (it (a0.2.2.1=0) (some (decide (a0.2.2.2.2.2.data.toList=ByteArray.empty.data.toList),()))<|some (false,()))<|it (a0.1=3) (it (a0.2.2.1=0) (some (decide ((a0.2.2.2.2.1.length:Int)=0),()))<|some (false,()))<|some (false,())
def x_dw.l0b (K:Nat) (a0:Int) (L0:y71) (q0:Int) (q1:y0):Option y31:=
 it (q0>127) (gr 2 q1 [IntKind.u8.wrap ((BitVec.ofInt (IntKind.bits .u8) (IntKind.u8.wrap (i6 (ban q0 127))) ||| BitVec.ofInt (IntKind.bits .u8) 128).toNat:Int)]<|L0 (Int.fdiv q0 (2 ^ 7)) (q1++[IntKind.u8.wrap ((BitVec.ofInt (IntKind.bits .u8) (IntKind.u8.wrap (i6 (ban q0 127))) ||| BitVec.ofInt (IntKind.bits .u8) 128).toNat:Int)]))<|gr 2 q1 [IntKind.u8.wrap q0]<|some (q1++[IntKind.u8.wrap q0],())
def x_dw.l0 (K:Nat) (a0:Int):Nat→y71:=lp2 (x_dw.l0b K a0)
def x_dw.b (K:Nat) (a0:Int) (L0:y71):Option y31:=
 (x_aa a0 0 2147483647).bind fun v1=>cond (!v1.1) (some ([],()))<|L0 a0 []
def x_dw (K:Nat) (a0:Int):Option y31:=x_dw.b K a0 (x_dw.l0 K a0 K)
def x_el.l0b (K:Nat) (a0:y0) (L0:y68) (q0:y0) (q1:Int):Option y31:=
 it (q1<a0.length) (ix q1 a0<|(x_dw K (a0.getD q1.toNat 0)).bind fun v1=>gr 2 q0 v1.1<|L0 (q0++v1.1) (i6 (q1+1)))<|some (q0,())
def x_el.l0 (K:Nat) (a0:y0):Nat→y68:=lp2 (x_el.l0b K a0)
def x_el.b (K:Nat) (a0:y0) (L0:y68):Option y31:=
 L0 [] 0
def x_el (K:Nat) (a0:y0):Option y31:=x_el.b K a0 (x_el.l0 K a0 K)
def x_fl (K:Nat) (a0:y2):Option y31:=
 (x_dw K ((a0.size:Nat):Int)).bind fun v1=>gr 2 v1.1 (x_co a0)<|some (v1.1++(x_co a0),())
def x_z6 (a1:Int):Option y31:=
 it (a1<0) none<|it ((i6 (a1-0))>0) (ck (0≤(i6 (a1-0)))<|gr 2 [] (List.replicate ((i6 (a1-0)).toNat) (0:Int))<|ck (0≤(([]++(List.replicate ((i6 (a1-0)).toNat) (0:Int))).length:Int))<|some ((([]++(List.replicate ((i6 (a1-0)).toNat) (0:Int))).take 0).drop 0,()))<|some ([],())
def x_av.l0b (K:Nat) (a0:y28) (L0:y77) (L1:y68) (q0:Int) (q1:Int):Option y31:=
 it (q1<a0.length) (ix q1 a0<|it ((i6 (q0+((a0.getD q1.toNat []).length:Int)))<0) none<|L0 (i6 (q0+((a0.getD q1.toNat []).length:Int))) (i6 (q1+1)))<|(x_z6 q0).bind fun v1=>L1 v1.1 0
def x_av.l1b (K:Nat) (a0:y28) (L1:y68) (q2:y0) (q3:Int):Option y31:=
 it (q3<a0.length) (ix q3 a0<|gr 2 q2 (a0.getD q3.toNat [])<|L1 (q2++(a0.getD q3.toNat [])) (i6 (q3+1)))<|some (q2,())
def x_av.l1 (K:Nat) (a0:y28):Nat→y68:=lp2 (x_av.l1b K a0)
def x_av.l0 (K:Nat) (a0:y28):Nat→y77:=lp2 fun r=>x_av.l0b K a0 r (x_av.l1 K a0 K)
def x_av.b (K:Nat) (a0:y28) (L0:y77):Option y31:=
 L0 0 0
def x_av (K:Nat) (a0:y28):Option y31:=x_av.b K a0 (x_av.l0 K a0 K)
def x_k0 (K:Nat) (a0:TCmd):Option y31:=
 (x_jt K a0).bind fun v1=>cond (!v1.1) (some ([],()))<|(x_el K [i6 (a0.1+1),a0.2.1,a0.2.2.1,a0.2.2.2.1,a0.2.2.2.2.1,a0.2.2.2.2.2.1]).bind fun v2=>(x_fl K a0.2.2.2.2.2.2.1).bind fun v3=>(x_fl K a0.2.2.2.2.2.2.2).bind fun v4=>(x_av K [v2.1,v3.1,v4.1]).bind fun v5=>some (v5.1,())
def x_fd.l0b (K:Nat) (a0:y0) (L0:y97) (q0:Int) (q1:Int) (q2:Int):Option y7:=
 it (q2<a0.length) (ix q2 a0<|L0 (Int.tmod (i6 (q0+(i6 (a0.getD q2.toNat 0)))) 65521) (Int.tmod (i6 (q1+(Int.tmod (i6 (q0+(i6 (a0.getD q2.toNat 0)))) 65521))) 65521) (i6 (q2+1)))<|some (i6 ((i6 (q1*65536))+q0),())
def x_fd.l0 (K:Nat) (a0:y0):Nat→y97:=lp3 (x_fd.l0b K a0)
def x_fd.b (K:Nat) (a0:y0) (L0:y97):Option y7:=
 L0 1 0 0
def x_fd (K:Nat) (a0:y0):Option y7:=x_fd.b K a0 (x_fd.l0 K a0 K)
def x_a8.l0b (K:Nat) (a0:x_df) (L0:y86) (q0:y31) (q1:Int):Option y31:=
 it (q1<a0.2.2.2.2.1.length) (ix q1 a0.2.2.2.2.1<|(x_el K [(a0.2.2.2.2.1.getD q1.toNat x_ay).1]).bind fun v3=>(x_k0 K (a0.2.2.2.2.1.getD q1.toNat x_ay).2).bind fun v4=>(x_av K [q0.1,v3.1,v4.1]).bind fun v5=>L0 v5 (i6 (q1+1)))<|(x_fl K a0.2.2.2.2.2).bind fun v6=>gr 2 q0.1 v6.1<|(x_fd K (q0.1++v6.1)).bind fun v7=>(x_el K [((q0.1++v6.1).length:Int)]).bind fun v8=>(x_av K [v8.1,q0.1++v6.1,[IntKind.u8.wrap v7.1,IntKind.u8.wrap (Int.fdiv v7.1 (2 ^ 8)),IntKind.u8.wrap (Int.fdiv v7.1 (2 ^ 16)),IntKind.u8.wrap (Int.fdiv v7.1 (2 ^ 24))]]).bind fun v9=>some (v9.1,())
def x_a8.l0 (K:Nat) (a0:x_df):Nat→y86:=lp2 (x_a8.l0b K a0)
def x_a8.b (K:Nat) (a0:x_df) (L0:y86):Option y31:=
 (x_ly K a0).bind fun v1=>cond (!v1.1) (some ([],()))<|(x_el K [a0.1,a0.2.1,i6 (a0.2.2.1+1),a0.2.2.2.1,(a0.2.2.2.2.1.length:Int)]).bind fun v2=>L0 v2 0
def x_a8 (K:Nat) (a0:x_df):Option y31:=x_a8.b K a0 (x_a8.l0 K a0 K)
def x_b9.l0b (K:Nat) (a0:TRow) (L0:y86) (q0:y31) (q1:Int):Option y31:=
 it (q1<a0.2.2.length) (ix q1 a0.2.2<|(x_el K [(a0.2.2.getD q1.toNat x_ce).1]).bind fun v2=>(x_fl K (a0.2.2.getD q1.toNat x_ce).2.1).bind fun v3=>(x_fl K (a0.2.2.getD q1.toNat x_ce).2.2.1).bind fun v4=>(x_el K [(a0.2.2.getD q1.toNat x_ce).2.2.2.1,(a0.2.2.getD q1.toNat x_ce).2.2.2.2]).bind fun v5=>(x_av K [q0.1,v2.1,v3.1,v4.1,v5.1]).bind fun v6=>L0 v6 (i6 (q1+1)))<|some (q0.1,())
def x_b9.l0 (K:Nat) (a0:TRow):Nat→y86:=lp2 (x_b9.l0b K a0)
def x_b9.b (K:Nat) (a0:TRow) (L0:y86):Option y31:=
 (x_el K [a0.1,a0.2.1,(a0.2.2.length:Int)]).bind fun v1=>L0 v1 0
def x_b9 (K:Nat) (a0:TRow):Option y31:=x_b9.b K a0 (x_b9.l0 K a0 K)
def x_c.l0b (K:Nat) (a0:x_d) (a1:x_ai) (L0:y68) (L1:y68) (q0:y0) (q1:Int):Option y31:=
 it (q1<a1.1.length) (ix q1 a1.1<|(x_b9 K (a1.1.getD q1.toNat zRow)).bind fun v3=>gr 2 q0 v3.1<|L0 (q0++v3.1) (i6 (q1+1)))<|(x_el K [(a1.2.1.length:Int)]).bind fun v4=>gr 2 q0 v4.1<|L1 (q0++v4.1) 0
def x_c.l1b (K:Nat) (a0:x_d) (a1:x_ai) (L2:y102) (L3:y68) (q4:y0) (q5:Int):Option y31:=
 it (q5<a1.2.1.length) (ix q5 a1.2.1<|(x_el K [(a1.2.1.getD q5.toNat x_bb).1,(a1.2.1.getD q5.toNat x_bb).2.1,(a1.2.1.getD q5.toNat x_bb).2.2.1,i6 ((a1.2.1.getD q5.toNat x_bb).2.2.2.1+1),((a1.2.1.getD q5.toNat x_bb).2.2.2.2.length:Int)]).bind fun v5=>gr 2 q4 v5.1<|L2 (q4++v5.1) q5 0)<|(x_el K [(a1.2.2.1.length:Int)]).bind fun v7=>gr 2 q4 v7.1<|L3 (q4++v7.1) 0
def x_c.l2b (K:Nat) (a0:x_d) (a1:x_ai) (L1:y68) (L2:y102) (q6:y0) (q5:Int) (q7:Int):Option y31:=
 it (q7<(a1.2.1.getD q5.toNat x_bb).2.2.2.2.length) (ix q7 (a1.2.1.getD q5.toNat x_bb).2.2.2.2<|(x_el K [((a1.2.1.getD q5.toNat x_bb).2.2.2.2.getD q7.toNat x_ie).1,((a1.2.1.getD q5.toNat x_bb).2.2.2.2.getD q7.toNat x_ie).2]).bind fun v6=>gr 2 q6 v6.1<|L2 (q6++v6.1) q5 (i6 (q7+1)))<|L1 q6 (i6 (q5+1))
def x_c.l3b (K:Nat) (a0:x_d) (a1:x_ai) (L4:y102) (L5:y68) (q10:y0) (q11:Int):Option y31:=
 it (q11<a1.2.2.1.length) (ix q11 a1.2.2.1<|(x_el K [(a1.2.2.1.getD q11.toNat x_bv).1,((a1.2.2.1.getD q11.toNat x_bv).2.1.length:Int)]).bind fun v8=>gr 2 q10 v8.1<|L4 (q10++v8.1) q11 0)<|(x_el K [a1.2.2.2.1]).bind fun v11=>gr 2 q10 v11.1<|L5 (q10++v11.1) 0
def x_c.l4b (K:Nat) (a0:x_d) (a1:x_ai) (L3:y68) (L4:y102) (q12:y0) (q11:Int) (q13:Int):Option y31:=
 it (q13<(a1.2.2.1.getD q11.toNat x_bv).2.1.length) (ix q13 (a1.2.2.1.getD q11.toNat x_bv).2.1<|ix q13 (a1.2.2.1.getD q11.toNat x_bv).2.2.1<|(x_el K [(a1.2.2.1.getD q11.toNat x_bv).2.1.getD q13.toNat 0,(a1.2.2.1.getD q11.toNat x_bv).2.2.1.getD q13.toNat 0]).bind fun v9=>gr 2 q12 v9.1<|L4 (q12++v9.1) q11 (i6 (q13+1)))<|(x_el K (a1.2.2.1.getD q11.toNat x_bv).2.2.2).bind fun v10=>gr 2 q12 v10.1<|L3 (q12++v10.1) (i6 (q11+1))
def x_c.l5b (K:Nat) (a0:x_d) (a1:x_ai) (L5:y68) (q14:y0) (q15:Int):Option y31:=
 it (q15<a1.2.2.2.2.2.length) (ix q15 a1.2.2.2.2.2<|ix q15 a1.2.2.2.2.1<|(x_el K [a1.2.2.2.2.1.getD q15.toNat 0,(a1.2.2.2.2.2.getD q15.toNat x_b7).1,i6 ((a1.2.2.2.2.2.getD q15.toNat x_b7).2.1+1)]).bind fun v12=>(x_fl K (a1.2.2.2.2.2.getD q15.toNat x_b7).2.2.1).bind fun v13=>(x_fl K (a1.2.2.2.2.2.getD q15.toNat x_b7).2.2.2).bind fun v14=>(x_av K [q14,v12.1,v13.1,v14.1]).bind fun v15=>L5 v15.1 (i6 (q15+1)))<|some (q14,())
def x_c.l2 (K:Nat) (a0:x_d) (a1:x_ai) (L1:y68):Nat→y102:=lp3 (x_c.l2b K a0 a1 L1)
def x_c.l4 (K:Nat) (a0:x_d) (a1:x_ai) (L3:y68):Nat→y102:=lp3 (x_c.l4b K a0 a1 L3)
def x_c.l5 (K:Nat) (a0:x_d) (a1:x_ai):Nat→y68:=lp2 (x_c.l5b K a0 a1)
def x_c.l3 (K:Nat) (a0:x_d) (a1:x_ai):Nat→y68:=lp2 fun r=>x_c.l3b K a0 a1 (x_c.l4 K a0 a1 r K) (x_c.l5 K a0 a1 K)
def x_c.l1 (K:Nat) (a0:x_d) (a1:x_ai):Nat→y68:=lp2 fun r=>x_c.l1b K a0 a1 (x_c.l2 K a0 a1 r K) (x_c.l3 K a0 a1 K)
def x_c.l0 (K:Nat) (a0:x_d) (a1:x_ai):Nat→y68:=lp2 fun r=>x_c.l0b K a0 a1 r (x_c.l1 K a0 a1 K)
def x_c.b (K:Nat) (a0:x_d) (a1:x_ai) (L0:y68):Option y31:=
 (x_di K a0 a1).bind fun v1=>cond (!v1.1) (some ([],()))<|(x_el K [(a1.1.length:Int)]).bind fun v2=>L0 v2.1 0
def x_c (K:Nat) (a0:x_d) (a1:x_ai):Option y31:=x_c.b K a0 a1 (x_c.l0 K a0 a1 K)
def x_kg (a0:TLog) (a1:Int):Option y7:=
 it (a1=a0.1) (some (a0.2.1,()))<|(x_aa a0.1 0 300).bind fun v1=>cond (!v1.1) (some ((-1),()))<|(x_aa a1 0 300).bind fun v2=>cond (!v2.1) (some ((-1),()))<|(x_aa (i6 (a1-a0.1)) 1 (a0.2.2.length:Int)).bind fun v3=>cond (!v3.1) (some ((-1),()))<|ix (i6 ((i6 (a1-a0.1))-1)) a0.2.2<|some ((a0.2.2.getD ((i6 ((i6 (a1-a0.1))-1)).toNat) x_ay).1,())
def x_au.l0b (K:Nat) (a0:x_d) (a1:x_dh) (L0:y68) (q2:y0) (q3:Int):Option y31:=
 it (q3<a1.2.2.1.2.2.length) (ck ((min (i6 (q3+40)) (a1.2.2.1.2.2.length:Int))=(min (i6 (q3+40)) (a1.2.2.1.2.2.length:Int)))<|ck (0≤q3)<|ck (q3≤(min (i6 (q3+40)) (a1.2.2.1.2.2.length:Int)))<|ck ((min (i6 (q3+40)) (a1.2.2.1.2.2.length:Int))≤(a1.2.2.1.2.2.length:Int))<|(x_kg a1.2.2.1 (i6 (a1.2.2.1.1+q3))).bind fun v5=>(x_a8 K (2,v5.1,0,i6 (a1.2.2.1.1+q3),(a1.2.2.1.2.2.take ((min (i6 (q3+40)) (a1.2.2.1.2.2.length:Int)).toNat)).drop q3.toNat,ByteArray.empty)).bind fun v6=>gr 2 q2 v6.1<|L0 (q2++v6.1) (i6 (q3+40)))<|some (q2,())
def x_au.l1b (K:Nat) (a0:x_d) (a1:x_dh) (L1:y68) (q4:y0) (q5:Int):Option y31:=
 it (q5<a1.2.2.1.2.2.length) (ck ((min (i6 (q5+40)) (a1.2.2.1.2.2.length:Int))=(min (i6 (q5+40)) (a1.2.2.1.2.2.length:Int)))<|ck (0≤q5)<|ck (q5≤(min (i6 (q5+40)) (a1.2.2.1.2.2.length:Int)))<|ck ((min (i6 (q5+40)) (a1.2.2.1.2.2.length:Int))≤(a1.2.2.1.2.2.length:Int))<|(x_kg a1.2.2.1 (i6 (a1.2.2.1.1+q5))).bind fun v7=>(x_a8 K (2,v7.1,0,i6 (a1.2.2.1.1+q5),(a1.2.2.1.2.2.take ((min (i6 (q5+40)) (a1.2.2.1.2.2.length:Int)).toNat)).drop q5.toNat,ByteArray.empty)).bind fun v8=>gr 2 q4 v8.1<|L1 (q4++v8.1) (i6 (q5+40)))<|some (q4,())
def x_au.l0 (K:Nat) (a0:x_d) (a1:x_dh):Nat→y68:=lp2 (x_au.l0b K a0 a1)
def x_au.l1 (K:Nat) (a0:x_d) (a1:x_dh):Nat→y68:=lp2 (x_au.l1b K a0 a1)
def x_au.b (K:Nat) (a0:x_d) (a1:x_dh) (L0:y68) (L1:y68):Option y31:=
 (x_iw K a0 a1).bind fun v1=>cond (!v1.1) (some ([],()))<|(x_a8 K (1,a1.1,a1.2.1,0,[],ByteArray.empty)).bind fun v2=>it (a1.2.2.1.1>0) ((x_c K a0 a1.2.2.2).bind fun v3=>(x_a8 K (3,a1.2.2.1.2.1,0,a1.2.2.1.1,[],x_jo v3.1)).bind fun v4=>gr 2 v2.1 v4.1<|L0 (v2.1++v4.1) 0)<|L1 v2.1 0
def x_au (K:Nat) (a0:x_d) (a1:x_dh):Option y31:=x_au.b K a0 a1 (x_au.l0 K a0 a1 K) (x_au.l1 K a0 a1 K)
def x_i7 (K:Nat) (a0:x_u) (a1:Int):Option y46:=
 ix a1 a0.2.2.1<|nit ((a0.2.2.1.getD a1.toNat x_bx).2.2.2.2.2.2.2.2.1.2=(a0.2.2.1.getD a1.toNat x_bx).2.2.2.2.2.2.2.2.1.1.length) (some (3,a0,()))<|it ((a0.2.2.1.getD a1.toNat x_bx).2.2.2.2.2.2.1=(a0.2.2.1.getD a1.toNat x_bx).2.1.2.2.1.1) (some (3,a0,()))<|(x_ow (a0.2.2.1.getD a1.toNat x_bx).2.1.2.2.1 (a0.2.2.1.getD a1.toNat x_bx).2.2.2.2.2.2.1).bind fun v1=>(x_an K (a0.2.2.1.getD a1.toNat x_bx).2.2.2.2.2.2.2.1).bind fun v2=>(x_au K a0.1 ((a0.2.2.1.getD a1.toNat x_bx).2.1.1,(a0.2.2.1.getD a1.toNat x_bx).2.1.2.1,v1.1,v2.1)).bind fun v3=>it ((v3.1.length:Int)>80000) (some (4,a0,()))<|ix a1 a0.2.2.1<|some (0,(a0.1,a0.2.1,a0.2.2.1.set a1.toNat ((a0.2.2.1.getD a1.toNat x_bx).1,((a0.2.2.1.getD a1.toNat x_bx).2.1.1,(a0.2.2.1.getD a1.toNat x_bx).2.1.2.1,v1.1,v2.1),(a0.2.2.1.getD a1.toNat x_bx).2.2.1,(a0.2.2.1.getD a1.toNat x_bx).2.2.2.1,(a0.2.2.1.getD a1.toNat x_bx).2.2.2.2.1,(a0.2.2.1.getD a1.toNat x_bx).2.2.2.2.2.1,(a0.2.2.1.getD a1.toNat x_bx).2.2.2.2.2.2.1,(a0.2.2.1.getD a1.toNat x_bx).2.2.2.2.2.2.2.1,(v3.1,(v3.1.length:Int)),(a0.2.2.1.getD a1.toNat x_bx).2.2.2.2.2.2.2.2.2),a0.2.2.2),())
def x_h4 (K:Nat) (a0:x_u) (a1:x_kc):Option y46:=
 ix a1.2.1 a0.2.2.1<|it (a1.1=1) none<|it (a1.1=2) none<|it (a1.1=3) (it ((i6 (((a0.2.2.1.getD a1.2.1.toNat x_bx).2.2.2.2.2.2.2.2.2.length:Int)+(a0.2.2.2.1.length:Int)))>40) (some (4,a0,())) none)<|it (a1.1=9) none<|(x_i7 K a0 a1.2.1).bind fun v1=>some (v1.1,v1.2.1,())
def x_5.l0b (K:Nat) (a0:x_u) (L1:y88) (q1:Int) (q2:y5):Option y25:=
 it (q1<a0.2.2.1.length) (ix q1 a0.2.2.1<|L1 q1 q2)<|some ((a0.1,a0.2.1,a0.2.2.1,a0.2.2.2.1,a0.2.2.2.2.1,a0.2.2.2.2.2.1,a0.2.2.2.2.2.2.1,q2),())
def x_5.l1b (K:Nat) (a0:x_u) (L0:y88) (L1:y88) (q1:Int) (q3:y5):Option y25:=
 it (q3.length<(a0.2.2.1.getD q1.toNat x_bx).2.2.2.2.2.2.1) ((x_aa (i6 ((q3.length:Int)-(a0.2.2.1.getD q1.toNat x_bx).2.1.2.2.1.1)) 0 (i6 (((a0.2.2.1.getD q1.toNat x_bx).2.1.2.2.1.2.2.length:Int)-1))).bind fun v1=>cond (!v1.1) (L0 (i6 (q1+1)) q3)<|ix (i6 ((q3.length:Int)-(a0.2.2.1.getD q1.toNat x_bx).2.1.2.2.1.1)) (a0.2.2.1.getD q1.toNat x_bx).2.1.2.2.1.2.2<|gr 81 q3 [((a0.2.2.1.getD q1.toNat x_bx).2.1.2.2.1.2.2.getD ((i6 ((q3.length:Int)-(a0.2.2.1.getD q1.toNat x_bx).2.1.2.2.1.1)).toNat) x_ay).2]<|L1 q1 (q3++[((a0.2.2.1.getD q1.toNat x_bx).2.1.2.2.1.2.2.getD ((i6 ((q3.length:Int)-(a0.2.2.1.getD q1.toNat x_bx).2.1.2.2.1.1)).toNat) x_ay).2]))<|L0 (i6 (q1+1)) q3
def x_5.l1 (K:Nat) (a0:x_u) (L0:y88):Nat→y88:=lp2 (x_5.l1b K a0 L0)
def x_5.l0 (K:Nat) (a0:x_u):Nat→y88:=lp2 fun r=>x_5.l0b K a0 (x_5.l1 K a0 r K)
def x_5.b (K:Nat) (a0:x_u) (L0:y88):Option y25:=
 L0 0 a0.2.2.2.2.2.2.2
def x_5 (K:Nat) (a0:x_u):Option y25:=x_5.b K a0 (x_5.l0 K a0 K)
def x_ym (K:Nat) (a0:x_u) (a1:x_kc):Option y44:=
 (x_h5 K a0 a1).bind fun v1=>cond v1.1 ((x_bc K a0).bind fun v2=>some (v2.1,2,()))<|(x_bc K a0).bind fun v3=>it (a1.1=4) none<|it (a1.1=5) none<|it (a1.1=6) none<|it (a1.1=7) none<|it (a1.1=8) none<|it (a1.1=11) none<|(x_h4 K v3.1 a1).bind fun v4=>nit (v4.1=0) ((x_bc K a0).bind fun v5=>some (v5.1,v4.1,()))<|(x_5 K v4.2.1).bind fun v6=>(x_bc K v6.1).bind fun v7=>some (v7.1,0,())
def i_Do (K:Nat) (a0:x_u) (a1:x_kc):Option y44:=
 (x_a2 K a0).bind fun v1=>cond (!v1.1) (some (((0,0,0,0),0,[],[],[],[],[],[]),1,()))<|(x_aa a1.1 1 11).bind fun v2=>cond (!v2.1) (some (((0,0,0,0),0,[],[],[],[],[],[]),1,()))<|(x_ym K a0 a1).bind fun v3=>some (v3.1,v3.2.1,())
def x_ak.l0b (K:Nat) (a0:x_u) (L0:y30) (L1:y30) (q0:Int):Option y11:=
 it (q0<4) (ix q0 a0.2.2.2.2.1<|cond (!(qCmd (a0.2.2.2.2.1.getD q0.toNat zCmd) (0,0,0,0,0,0,ByteArray.empty,ByteArray.empty))) (ix q0 a0.2.2.2.2.1<|(x_jv K (a0.2.2.2.2.1.getD q0.toNat zCmd)).bind fun v1=>cond (!v1.1) (some (false,()))<|ix q0 a0.2.2.2.2.1<|nit ((a0.2.2.2.2.1.getD q0.toNat zCmd).1=q0) (some (false,()))<|ix q0 a0.2.2.2.2.2.1<|(x_bj (a0.2.2.2.2.2.1.getD q0.toNat 0) 0 300).bind fun v2=>cond (!v2.1) (some (false,()))<|L0 (i6 (q0+1)))<|ix q0 a0.2.2.2.2.2.1<|(x_bj (a0.2.2.2.2.2.1.getD q0.toNat 0) 0 300).bind fun v3=>cond (!v3.1) (some (false,()))<|L0 (i6 (q0+1)))<|L1 0
def x_ak.l1b (K:Nat) (a0:x_u) (L1:y30) (q1:Int):Option y11:=
 it (q1<a0.2.2.2.2.2.2.1.length) (ix q1 a0.2.2.2.2.2.2.1<|(x_bj (a0.2.2.2.2.2.2.1.getD q1.toNat x_ik).1 0 3).bind fun v4=>cond (!v4.1) (some (false,()))<|(x_bj (a0.2.2.2.2.2.2.1.getD q1.toNat x_ik).2.1 1 100000).bind fun v5=>cond (!v5.1) (some (false,()))<|(x_bj (a0.2.2.2.2.2.2.1.getD q1.toNat x_ik).2.2.2.1 0 300).bind fun v6=>cond (!v6.1) (some (false,()))<|(x_bj (a0.2.2.2.2.2.2.1.getD q1.toNat x_ik).2.2.2.2 0 300).bind fun v7=>cond (!v7.1) (some (false,()))<|(x_il K (a0.2.2.2.2.2.2.1.getD q1.toNat x_ik).2.2.1).bind fun v8=>cond (!v8.1) (some (false,()))<|L1 (i6 (q1+1)))<|some (true,())
def x_ak.l1 (K:Nat) (a0:x_u):Nat→y30:=lp1 (x_ak.l1b K a0)
def x_ak.l0 (K:Nat) (a0:x_u):Nat→y30:=lp1 fun r=>x_ak.l0b K a0 r (x_ak.l1 K a0 K)
def x_ak.b (K:Nat) (a0:x_u) (L0:y30):Option y11:=
 nit ((a0.2.2.2.2.1.length:Int)=4) (some (false,()))<|nit ((a0.2.2.2.2.2.1.length:Int)=4) (some (false,()))<|it ((a0.2.2.2.2.2.2.1.length:Int)>300) (some (false,()))<|L0 0
def x_ak (K:Nat) (a0:x_u):Option y11:=x_ak.b K a0 (x_ak.l0 K a0 K)
def x_ac.l0b (K:Nat) (a0:x_u) (L0:y30) (L1:y30) (q0:Int):Option y11:=
 it (q0<a0.2.1) (ix q0 a0.2.2.1<|nit ((a0.2.2.1.getD q0.toNat x_bx).1=q0) (some (false,()))<|ix q0 a0.2.2.1<|(x_as K a0.1 (a0.2.2.1.getD q0.toNat x_bx) a0.2.1).bind fun v4=>cond (!v4.1) (some (false,()))<|L0 (i6 (q0+1)))<|L1 0
def x_ac.l1b (K:Nat) (a0:x_u) (L1:y30) (L2:y30) (q1:Int):Option y11:=
 it (q1<a0.2.2.2.1.length) (ix q1 a0.2.2.2.1<|(x_n2 K (a0.2.2.2.1.getD q1.toNat zRpc) a0.2.1).bind fun v5=>cond (!v5.1) (some (false,()))<|L1 (i6 (q1+1)))<|L2 0
def x_ac.l2b (K:Nat) (a0:x_u) (L2:y30) (q2:Int):Option y11:=
 it (q2<a0.2.2.2.2.2.2.2.length) (ix q2 a0.2.2.2.2.2.2.2<|(x_jv K (a0.2.2.2.2.2.2.2.getD q2.toNat zCmd)).bind fun v6=>cond (!v6.1) (some (false,()))<|L2 (i6 (q2+1)))<|some (true,())
def x_ac.l2 (K:Nat) (a0:x_u):Nat→y30:=lp1 (x_ac.l2b K a0)
def x_ac.l1 (K:Nat) (a0:x_u):Nat→y30:=lp1 fun r=>x_ac.l1b K a0 r (x_ac.l2 K a0 K)
def x_ac.l0 (K:Nat) (a0:x_u):Nat→y30:=lp1 fun r=>x_ac.l0b K a0 r (x_ac.l1 K a0 K)
def x_ac.b (K:Nat) (a0:x_u) (L0:y30):Option y11:=
 (x_ft a0.1).bind fun v1=>cond (!v1.1) (some (false,()))<|(x_bj a0.2.1 1 5).bind fun v2=>cond (!v2.1) (some (false,()))<|nit (a0.2.2.1.length=a0.2.1) (some (false,()))<|it ((a0.2.2.2.1.length:Int)>40) (some (false,()))<|(x_ak K a0).bind fun v3=>cond (!v3.1) (some (false,()))<|it ((a0.2.2.2.2.2.2.2.length:Int)>300) (some (false,()))<|L0 0
def x_ac (K:Nat) (a0:x_u):Option y11:=x_ac.b K a0 (x_ac.l0 K a0 K)
def s_Do (K:Nat) (a0:x_u) (a1:x_kc):Option y44:=
 (x_ac K a0).bind fun v1=>cond (!v1.1) (some (((0,0,0,0),0,[],[],[],[],[],[]),1,()))<|(x_bj a1.1 1 11).bind fun v2=>cond (!v2.1) (some (((0,0,0,0),0,[],[],[],[],[],[]),1,()))<|(x_ch K a0).bind fun v3=>(x_i8 K v3.1 a1).bind fun v4=>nit (v4.2.1=0) ((x_ch K a0).bind fun v5=>some (v5.1,v4.2.1,()))<|some (v4.1,v4.2.1,())
def x_bf.l0b (K:Nat) (a0:y0) (a1:y0) (L0:y30) (q0:Int):Option y11:=
 it (q0<a0.length) (ix q0 a0<|ix q0 a1<|nit ((a0.getD q0.toNat 0)=(a1.getD q0.toNat 0)) (some (false,()))<|L0 (i6 (q0+1)))<|some (true,())
def x_bf.l0 (K:Nat) (a0:y0) (a1:y0):Nat→y30:=lp1 (x_bf.l0b K a0 a1)
def x_bf.b (K:Nat) (a0:y0) (a1:y0) (L0:y30):Option y11:=
 nit ((a0.length:Int)=a1.length) (some (false,()))<|L0 0
def x_bf (K:Nat) (a0:y0) (a1:y0):Option y11:=x_bf.b K a0 a1 (x_bf.l0 K a0 a1 K)
def x_am.l0b (K:Nat) (a0:y3) (a1:y3) (L1:y59) (q1:Int):Option y11:=
 it (q1<a0.length) (ix q1 a0<|ix q1 a1<|nit ((a0.getD q1.toNat zRpc).1=(a1.getD q1.toNat zRpc).1) (some (false,()))<|nit ((a0.getD q1.toNat zRpc).2.1=(a1.getD q1.toNat zRpc).2.1) (some (false,()))<|nit ((a0.getD q1.toNat zRpc).2.2.1=(a1.getD q1.toNat zRpc).2.2.1) (some (false,()))<|nit ((a0.getD q1.toNat zRpc).2.2.2.1=(a1.getD q1.toNat zRpc).2.2.2.1) (some (false,()))<|nit ((a0.getD q1.toNat zRpc).2.2.2.2.1=(a1.getD q1.toNat zRpc).2.2.2.2.1) (some (false,()))<|nit ((a0.getD q1.toNat zRpc).2.2.2.2.2.1=(a1.getD q1.toNat zRpc).2.2.2.2.2.1) (some (false,()))<|nit ((a0.getD q1.toNat zRpc).2.2.2.2.2.2.1=(a1.getD q1.toNat zRpc).2.2.2.2.2.2.1) (some (false,()))<|cond (!((a0.getD q1.toNat zRpc).2.2.2.2.2.2.2.2.1 == (a1.getD q1.toNat zRpc).2.2.2.2.2.2.2.2.1)) (some (false,()))<|nit ((a0.getD q1.toNat zRpc).2.2.2.2.2.2.2.2.2.data.toList=(a1.getD q1.toNat zRpc).2.2.2.2.2.2.2.2.2.data.toList) (some (false,()))<|nit (((a0.getD q1.toNat zRpc).2.2.2.2.2.2.2.1.length:Int)=(a1.getD q1.toNat zRpc).2.2.2.2.2.2.2.1.length) (some (false,()))<|L1 q1 0)<|some (true,())
def x_am.l1b (K:Nat) (a0:y3) (a1:y3) (L0:y30) (L1:y59) (q1:Int) (q2:Int):Option y11:=
 it (q2<(a0.getD q1.toNat zRpc).2.2.2.2.2.2.2.1.length) (ix q2 (a0.getD q1.toNat zRpc).2.2.2.2.2.2.2.1<|ix q2 (a1.getD q1.toNat zRpc).2.2.2.2.2.2.2.1<|cond (!(x_t7 ((a0.getD q1.toNat zRpc).2.2.2.2.2.2.2.1.getD q2.toNat x_ay) ((a1.getD q1.toNat zRpc).2.2.2.2.2.2.2.1.getD q2.toNat x_ay))) (some (false,()))<|L1 q1 (i6 (q2+1)))<|L0 (i6 (q1+1))
def x_am.l1 (K:Nat) (a0:y3) (a1:y3) (L0:y30):Nat→y59:=lp2 (x_am.l1b K a0 a1 L0)
def x_am.l0 (K:Nat) (a0:y3) (a1:y3):Nat→y30:=lp1 fun r=>x_am.l0b K a0 a1 (x_am.l1 K a0 a1 r K)
def x_am.b (K:Nat) (a0:y3) (a1:y3) (L0:y30):Option y11:=
 nit ((a0.length:Int)=a1.length) (some (false,()))<|L0 0
def x_am (K:Nat) (a0:y3) (a1:y3):Option y11:=x_am.b K a0 a1 (x_am.l0 K a0 a1 K)
def x_c3.l0b (K:Nat) (a0:TLog) (a1:TLog) (L0:y30) (q0:Int):Option y11:=
 it (q0<a0.2.2.length) (ix q0 a0.2.2<|ix q0 a1.2.2<|cond (!(x_t7 (a0.2.2.getD q0.toNat x_ay) (a1.2.2.getD q0.toNat x_ay))) (some (false,()))<|L0 (i6 (q0+1)))<|some (true,())
def x_c3.l0 (K:Nat) (a0:TLog) (a1:TLog):Nat→y30:=lp1 (x_c3.l0b K a0 a1)
def x_c3.b (K:Nat) (a0:TLog) (a1:TLog) (L0:y30):Option y11:=
 nit (a0.1=a1.1) (some (false,()))<|nit (a0.2.1=a1.2.1) (some (false,()))<|nit ((a0.2.2.length:Int)=a1.2.2.length) (some (false,()))<|L0 0
def x_c3 (K:Nat) (a0:TLog) (a1:TLog):Option y11:=x_c3.b K a0 a1 (x_c3.l0 K a0 a1 K)
def x_cy.l0b (K:Nat) (a0:TRow) (a1:TRow) (L0:y30) (q0:Int):Option y11:=
 it (q0<a0.2.2.length) (ix q0 a0.2.2<|ix q0 a1.2.2<|cond (!(qItem (a0.2.2.getD q0.toNat x_ce) (a1.2.2.getD q0.toNat x_ce))) (some (false,()))<|L0 (i6 (q0+1)))<|some (true,())
def x_cy.l0 (K:Nat) (a0:TRow) (a1:TRow):Nat→y30:=lp1 (x_cy.l0b K a0 a1)
def x_cy.b (K:Nat) (a0:TRow) (a1:TRow) (L0:y30):Option y11:=
 nit (a0.1=a1.1) (some (false,()))<|nit (a0.2.1=a1.2.1) (some (false,()))<|nit ((a0.2.2.length:Int)=a1.2.2.length) (some (false,()))<|L0 0
def x_cy (K:Nat) (a0:TRow) (a1:TRow):Option y11:=x_cy.b K a0 a1 (x_cy.l0 K a0 a1 K)
def x_bm.l0b (K:Nat) (a0:x_at) (a1:x_at) (L0:y30) (q0:Int):Option y11:=
 it (q0<a0.2.2.2.2.length) (ix q0 a0.2.2.2.2<|ix q0 a1.2.2.2.2<|cond (!(qMark (a0.2.2.2.2.getD q0.toNat x_ie) (a1.2.2.2.2.getD q0.toNat x_ie))) (some (false,()))<|L0 (i6 (q0+1)))<|some (true,())
def x_bm.l0 (K:Nat) (a0:x_at) (a1:x_at):Nat→y30:=lp1 (x_bm.l0b K a0 a1)
def x_bm.b (K:Nat) (a0:x_at) (a1:x_at) (L0:y30):Option y11:=
 nit (a0.1=a1.1) (some (false,()))<|nit (a0.2.1=a1.2.1) (some (false,()))<|nit (a0.2.2.1=a1.2.2.1) (some (false,()))<|nit (a0.2.2.2.1=a1.2.2.2.1) (some (false,()))<|nit ((a0.2.2.2.2.length:Int)=a1.2.2.2.2.length) (some (false,()))<|L0 0
def x_bm (K:Nat) (a0:x_at) (a1:x_at):Option y11:=x_bm.b K a0 a1 (x_bm.l0 K a0 a1 K)
def x_i4 (K:Nat) (a0:x_ar) (a1:x_ar):Option y11:=
 it (a0.1=a1.1) ((x_bf K a0.2.1 a1.2.1).bind fun v1=>cond v1.1 ((x_bf K a0.2.2.1 a1.2.2.1).bind fun v2=>cond v2.1 ((x_bf K a0.2.2.2 a1.2.2.2).bind fun v3=>some (v3.1,()))<|some (false,()))<|some (false,()))<|some (false,())
def x_t.l0b (K:Nat) (a0:x_ai) (a1:x_ai) (L0:y30) (L1:y30) (q0:Int):Option y11:=
 it (q0<a0.1.length) (ix q0 a0.1<|ix q0 a1.1<|(x_cy K (a0.1.getD q0.toNat zRow) (a1.1.getD q0.toNat zRow)).bind fun v2=>cond (!v2.1) (some (false,()))<|L0 (i6 (q0+1)))<|L1 0
def x_t.l1b (K:Nat) (a0:x_ai) (a1:x_ai) (L1:y30) (L2:y30) (q1:Int):Option y11:=
 it (q1<a0.2.1.length) (ix q1 a0.2.1<|ix q1 a1.2.1<|(x_bm K (a0.2.1.getD q1.toNat x_bb) (a1.2.1.getD q1.toNat x_bb)).bind fun v3=>cond (!v3.1) (some (false,()))<|L1 (i6 (q1+1)))<|L2 0
def x_t.l2b (K:Nat) (a0:x_ai) (a1:x_ai) (L2:y30) (L3:y30) (q2:Int):Option y11:=
 it (q2<a0.2.2.1.length) (ix q2 a0.2.2.1<|ix q2 a1.2.2.1<|(x_i4 K (a0.2.2.1.getD q2.toNat x_bv) (a1.2.2.1.getD q2.toNat x_bv)).bind fun v4=>cond (!v4.1) (some (false,()))<|L2 (i6 (q2+1)))<|L3 0
def x_t.l3b (K:Nat) (a0:x_ai) (a1:x_ai) (L3:y30) (q3:Int):Option y11:=
 it (q3<a0.2.2.2.2.2.length) (ix q3 a0.2.2.2.2.2<|ix q3 a1.2.2.2.2.2<|cond (!(x_wi (a0.2.2.2.2.2.getD q3.toNat x_b7) (a1.2.2.2.2.2.getD q3.toNat x_b7))) (some (false,()))<|L3 (i6 (q3+1)))<|some (true,())
def x_t.l3 (K:Nat) (a0:x_ai) (a1:x_ai):Nat→y30:=lp1 (x_t.l3b K a0 a1)
def x_t.l2 (K:Nat) (a0:x_ai) (a1:x_ai):Nat→y30:=lp1 fun r=>x_t.l2b K a0 a1 r (x_t.l3 K a0 a1 K)
def x_t.l1 (K:Nat) (a0:x_ai) (a1:x_ai):Nat→y30:=lp1 fun r=>x_t.l1b K a0 a1 r (x_t.l2 K a0 a1 K)
def x_t.l0 (K:Nat) (a0:x_ai) (a1:x_ai):Nat→y30:=lp1 fun r=>x_t.l0b K a0 a1 r (x_t.l1 K a0 a1 K)
def x_t.b (K:Nat) (a0:x_ai) (a1:x_ai) (L0:y30):Option y11:=
 nit (a0.2.2.2.1=a1.2.2.2.1) (some (false,()))<|(x_bf K a0.2.2.2.2.1 a1.2.2.2.2.1).bind fun v1=>cond (!v1.1) (some (false,()))<|nit ((a0.1.length:Int)=a1.1.length) (some (false,()))<|nit ((a0.2.1.length:Int)=a1.2.1.length) (some (false,()))<|nit ((a0.2.2.1.length:Int)=a1.2.2.1.length) (some (false,()))<|nit ((a0.2.2.2.2.2.length:Int)=a1.2.2.2.2.2.length) (some (false,()))<|L0 0
def x_t (K:Nat) (a0:x_ai) (a1:x_ai):Option y11:=x_t.b K a0 a1 (x_t.l0 K a0 a1 K)
def x_gi (K:Nat) (a0:x_d) (a1:x_ai) (a2:x_ai):Option y11:=
 (x_t K a1 a2).bind fun v1=>some (v1.1,())
def x_ki (K:Nat) (a0:x_d) (a1:x_dh) (a2:x_dh):Option y11:=
 it (a1.1=a2.1) (it (a1.2.1=a2.2.1) ((x_c3 K a1.2.2.1 a2.2.2.1).bind fun v1=>cond v1.1 ((x_gi K a0 a1.2.2.2 a2.2.2.2).bind fun v2=>some (v2.1,()))<|some (false,()))<|some (false,()))<|some (false,())
def x_b3.l0b (K:Nat) (a0:x_bq) (a1:x_bq) (L0:y30) (q0:Int):Option y11:=
 it (q0<a0.2.2.2.1.length) (ix q0 a0.2.2.2.1<|ix q0 a1.2.2.2.1<|cond (!((a0.2.2.2.1.getD q0.toNat false) == (a1.2.2.2.1.getD q0.toNat false))) (some (false,()))<|L0 (i6 (q0+1)))<|(x_am K a0.2.2.2.2.2.2.2.2.2 a1.2.2.2.2.2.2.2.2.2).bind fun v5=>some (v5.1,())
def x_b3.l0 (K:Nat) (a0:x_bq) (a1:x_bq):Nat→y30:=lp1 (x_b3.l0b K a0 a1)
def x_b3.b (K:Nat) (a0:x_bq) (a1:x_bq) (L0:y30):Option y11:=
 nit (a0.1=a1.1) (some (false,()))<|nit (a0.2.2.1=a1.2.2.1) (some (false,()))<|nit (a0.2.2.2.2.2.2.1=a1.2.2.2.2.2.2.1) (some (false,()))<|(x_ki K (0,0,0,0) a0.2.1 a1.2.1).bind fun v1=>cond (!v1.1) (some (false,()))<|(x_gi K (0,0,0,0) a0.2.2.2.2.2.2.2.1 a1.2.2.2.2.2.2.2.1).bind fun v2=>cond (!v2.1) (some (false,()))<|nit ((x_jo a0.2.2.2.2.2.2.2.2.1.1).data.toList=(x_jo a1.2.2.2.2.2.2.2.2.1.1).data.toList) (some (false,()))<|nit (a0.2.2.2.2.2.2.2.2.1.2=a1.2.2.2.2.2.2.2.2.1.2) (some (false,()))<|(x_bf K a0.2.2.2.2.1 a1.2.2.2.2.1).bind fun v3=>cond (!v3.1) (some (false,()))<|(x_bf K a0.2.2.2.2.2.1 a1.2.2.2.2.2.1).bind fun v4=>cond (!v4.1) (some (false,()))<|nit ((a0.2.2.2.1.length:Int)=a1.2.2.2.1.length) (some (false,()))<|L0 0
def x_b3 (K:Nat) (a0:x_bq) (a1:x_bq):Option y11:=x_b3.b K a0 a1 (x_b3.l0 K a0 a1 K)
def x_i.l0b (K:Nat) (a0:x_u) (a1:x_u) (L0:y30) (L1:y30) (q0:Int):Option y11:=
 it (q0<a0.2.2.1.length) (ix q0 a0.2.2.1<|ix q0 a1.2.2.1<|(x_b3 K (a0.2.2.1.getD q0.toNat x_bx) (a1.2.2.1.getD q0.toNat x_bx)).bind fun v3=>cond (!v3.1) (some (false,()))<|L0 (i6 (q0+1)))<|L1 0
def x_i.l1b (K:Nat) (a0:x_u) (a1:x_u) (L1:y30) (L2:y30) (q1:Int):Option y11:=
 it (q1<a0.2.2.2.2.1.length) (ix q1 a0.2.2.2.2.1<|ix q1 a1.2.2.2.2.1<|cond (!(qCmd (a0.2.2.2.2.1.getD q1.toNat zCmd) (a1.2.2.2.2.1.getD q1.toNat zCmd))) (some (false,()))<|L1 (i6 (q1+1)))<|L2 0
def x_i.l2b (K:Nat) (a0:x_u) (a1:x_u) (L2:y30) (L3:y30) (q2:Int):Option y11:=
 it (q2<a0.2.2.2.2.2.2.1.length) (ix q2 a0.2.2.2.2.2.2.1<|ix q2 a1.2.2.2.2.2.2.1<|cond (!(qHeard (a0.2.2.2.2.2.2.1.getD q2.toNat x_ik) (a1.2.2.2.2.2.2.1.getD q2.toNat x_ik))) (some (false,()))<|L2 (i6 (q2+1)))<|L3 0
def x_i.l3b (K:Nat) (a0:x_u) (a1:x_u) (L3:y30) (q3:Int):Option y11:=
 it (q3<a0.2.2.2.2.2.2.2.length) (ix q3 a0.2.2.2.2.2.2.2<|ix q3 a1.2.2.2.2.2.2.2<|cond (!(qCmd (a0.2.2.2.2.2.2.2.getD q3.toNat zCmd) (a1.2.2.2.2.2.2.2.getD q3.toNat zCmd))) (some (false,()))<|L3 (i6 (q3+1)))<|some (true,())
def x_i.l3 (K:Nat) (a0:x_u) (a1:x_u):Nat→y30:=lp1 (x_i.l3b K a0 a1)
def x_i.l2 (K:Nat) (a0:x_u) (a1:x_u):Nat→y30:=lp1 fun r=>x_i.l2b K a0 a1 r (x_i.l3 K a0 a1 K)
def x_i.l1 (K:Nat) (a0:x_u) (a1:x_u):Nat→y30:=lp1 fun r=>x_i.l1b K a0 a1 r (x_i.l2 K a0 a1 K)
def x_i.l0 (K:Nat) (a0:x_u) (a1:x_u):Nat→y30:=lp1 fun r=>x_i.l0b K a0 a1 r (x_i.l1 K a0 a1 K)
def x_i.b (K:Nat) (a0:x_u) (a1:x_u) (L0:y30):Option y11:=
 nit (a0.2.1=a1.2.1) (some (false,()))<|nit ((a0.2.2.1.length:Int)=a1.2.2.1.length) (some (false,()))<|(x_bf K a0.2.2.2.2.2.1 a1.2.2.2.2.2.1).bind fun v1=>cond (!v1.1) (some (false,()))<|nit ((a0.2.2.2.2.1.length:Int)=a1.2.2.2.2.1.length) (some (false,()))<|nit ((a0.2.2.2.2.2.2.1.length:Int)=a1.2.2.2.2.2.2.1.length) (some (false,()))<|nit ((a0.2.2.2.2.2.2.2.length:Int)=a1.2.2.2.2.2.2.2.length) (some (false,()))<|(x_am K a0.2.2.2.1 a1.2.2.2.1).bind fun v2=>cond (!v2.1) (some (false,()))<|L0 0
def x_i (K:Nat) (a0:x_u) (a1:x_u):Option y11:=x_i.b K a0 a1 (x_i.l0 K a0 a1 K)
def x_k3 (a0:Int):Option y23:=
 (x_aa a0 1 4).bind fun v1=>cond (!v1.1) (some ((0,[],[],[]),()))<|ck (a0=a0)<|ck (0≤a0)<|ck (a0.toNat*9≤x_en)<|some ((0,[],[],List.replicate a0.toNat 0),())
def x_dc.l0b (K:Nat) (a0:x_d) (L0:y58) (q0:Int) (q1:y12):Option y18:=
 it (q0<2) ((x_k3 a0.1).bind fun v2=>gr 81 q1 [v2.1]<|L0 (i6 (q0+1)) (q1++[v2.1]))<|some ((List.replicate a0.1.toNat zRow,[],q1,0,List.replicate 4 0,List.replicate 4 x_b7),())
def x_dc.l0 (K:Nat) (a0:x_d):Nat→y58:=lp2 (x_dc.l0b K a0)
def x_dc.b (K:Nat) (a0:x_d) (L0:y58):Option y18:=
 (x_g4 a0).bind fun v1=>cond (!v1.1) (some (([],[],[],0,[],[]),()))<|ck (a0.1=a0.1)<|ck (0≤a0.1)<|ck (a0.1.toNat*41≤x_en)<|L0 0 []
def x_dc (K:Nat) (a0:x_d):Option y18:=x_dc.b K a0 (x_dc.l0 K a0 K)
def x_m5 (K:Nat) (a0:x_d):Option y19:=
 (x_g4 a0).bind fun v1=>cond (!v1.1) (some ((0,0,(0,0,[]),[],[],[],0,[],[]),()))<|(x_dc K a0).bind fun v2=>some ((0,(-1),(0,0,[]),v2.1),())
def x_dq.l0b (K:Nat) (a0:y0) (a1:Int) (L0:y73) (q0:Int) (q1:Int):Option y72:=
 it (q1<a0.length) (it (q1<(i6 (a1+5))) (ix q1 a0<|ck (0≤(i6 (7*(i6 (q1-a1)))))<|ix q1 a0<|it ((a0.getD q1.toNat 0)<128) (it ((i6 (bor q0 (i6 ((i6 (IntKind.u8.wrap ((BitVec.ofInt (IntKind.bits .u8) (a0.getD q1.toNat 0) &&& BitVec.ofInt (IntKind.bits .u8) 127).toNat:Int)))*2 ^ (min ((i6 (7*(i6 (q1-a1)))).toNat) 64)))))>2147483647) (some (0,0,false,()))<|it (q1>a1) (ix q1 a0<|it ((a0.getD q1.toNat 0)=0) (some (0,0,false,()))<|some (i6 (bor q0 (i6 ((i6 (IntKind.u8.wrap ((BitVec.ofInt (IntKind.bits .u8) (a0.getD q1.toNat 0) &&& BitVec.ofInt (IntKind.bits .u8) 127).toNat:Int)))*2 ^ (min ((i6 (7*(i6 (q1-a1)))).toNat) 64)))),i6 (q1+1),true,()))<|some (i6 (bor q0 (i6 ((i6 (IntKind.u8.wrap ((BitVec.ofInt (IntKind.bits .u8) (a0.getD q1.toNat 0) &&& BitVec.ofInt (IntKind.bits .u8) 127).toNat:Int)))*2 ^ (min ((i6 (7*(i6 (q1-a1)))).toNat) 64)))),i6 (q1+1),true,()))<|L0 (i6 (bor q0 (i6 ((i6 (IntKind.u8.wrap ((BitVec.ofInt (IntKind.bits .u8) (a0.getD q1.toNat 0) &&& BitVec.ofInt (IntKind.bits .u8) 127).toNat:Int)))*2 ^ (min ((i6 (7*(i6 (q1-a1)))).toNat) 64))))) (i6 (q1+1)))<|some (0,0,false,()))<|some (0,0,false,())
def x_dq.l0 (K:Nat) (a0:y0) (a1:Int):Nat→y73:=lp2 (x_dq.l0b K a0 a1)
def x_dq.b (K:Nat) (a0:y0) (a1:Int) (L0:y73):Option y72:=
 it (a1<0) (some (0,0,false,()))<|L0 0 a1
def x_dq (K:Nat) (a0:y0) (a1:Int):Option y72:=x_dq.b K a0 a1 (x_dq.l0 K a0 a1 K)
def x_8 (K:Nat) (a0:x_h):Option y50:=
 (x_dq K a0.1 a0.2.1).bind fun v1=>cond a0.2.2 (some (0,(a0.1,a0.2.1,true),()))<|cond (!v1.2.2.1) (some (0,(a0.1,a0.2.1,true),()))<|some (v1.1,(a0.1,v1.2.1,a0.2.2),())
def x_m0 (K:Nat) (a0:y0) (a1:Int):Option y98:=
 (x_dq K a0 a1).bind fun v1=>cond (!v1.2.2.1) (some (ByteArray.empty,0,false,()))<|it (v1.1>(i6 ((a0.length:Int)-v1.2.1))) (some (ByteArray.empty,0,false,()))<|ck ((i6 (v1.2.1+v1.1))=(i6 (v1.2.1+v1.1)))<|ck (0≤v1.2.1)<|ck (v1.2.1≤(i6 (v1.2.1+v1.1)))<|ck ((i6 (v1.2.1+v1.1))≤a0.length)<|some (x_jo ((a0.take ((i6 (v1.2.1+v1.1)).toNat)).drop v1.2.1.toNat),i6 (v1.2.1+v1.1),true,())
def x_dm (K:Nat) (a0:x_h):Option (ByteArray×x_h×Unit):=
 (x_m0 K a0.1 a0.2.1).bind fun v1=>cond a0.2.2 (some (ByteArray.empty,(a0.1,a0.2.1,true),()))<|cond (!v1.2.2.1) (some (ByteArray.empty,(a0.1,a0.2.1,true),()))<|some (v1.1,(a0.1,v1.2.1,a0.2.2),())
def x_h8 (K:Nat) (a0:x_h):Option (TCmd×x_h×Unit):=
 (x_8 K a0).bind fun v1=>(x_8 K v1.2.1).bind fun v2=>(x_8 K v2.2.1).bind fun v3=>(x_8 K v3.2.1).bind fun v4=>(x_8 K v4.2.1).bind fun v5=>(x_8 K v5.2.1).bind fun v6=>(x_dm K v6.2.1).bind fun v7=>(x_dm K v7.2.1).bind fun v8=>cond v8.2.1.2.2 (some ((i6 (v1.1-1),v2.1,v3.1,v4.1,v5.1,v6.1,v7.1,v8.1),(v8.2.1.1,v8.2.1.2.1,true),()))<|(x_jt K (i6 (v1.1-1),v2.1,v3.1,v4.1,v5.1,v6.1,v7.1,v8.1)).bind fun v9=>some ((i6 (v1.1-1),v2.1,v3.1,v4.1,v5.1,v6.1,v7.1,v8.1),(v8.2.1.1,v8.2.1.2.1, !v9.1),())
def x_nl (K:Nat) (a1:x_df) (a2:x_h):Option y63:=
 (x_8 K a2).bind fun v1=>(x_h8 K v1.2.1).bind fun v2=>gr 89 a1.2.2.2.2.1 [(v1.1,v2.1)]<|some ((a1.1,a1.2.1,a1.2.2.1,a1.2.2.2.1,a1.2.2.2.2.1++[(v1.1,v2.1)],a1.2.2.2.2.2),v2.2.1,())
def x_s.l0b (K:Nat) (a0:x_h) (a2:x_df) (L0:y129) (v1:y50) (q0:Int) (q1:y26) (q2:x_df):Option y66:=
 it (q0<v1.1) (cond (!q1.1.2.2) ((x_nl K q2 q1.1).bind fun v2=>L0 v1 (i6 (q0+1)) v2.2 v2.1)<|some (q1.1,q2,()))<|some (q1.1,q2,())
def x_s.l0 (K:Nat) (a0:x_h) (a2:x_df):Nat→y129:=lp4 (x_s.l0b K a0 a2)
def x_s.b (K:Nat) (a0:x_h) (a2:x_df) (L0:y129):Option y66:=
 (x_8 K a0).bind fun v1=>L0 v1 0 v1.2 a2
def x_s (K:Nat) (a0:x_h) (a2:x_df):Option y66:=x_s.b K a0 a2 (x_s.l0 K a0 a2 K)
def x_qw (K:Nat) (a0:y0):Option (x_df×Bool×Unit):=
 (x_8 K (a0,0,false)).bind fun v1=>(x_8 K v1.2.1).bind fun v2=>(x_8 K v2.2.1).bind fun v3=>(x_8 K v3.2.1).bind fun v4=>(x_s K v4.2.1 (v1.1,v2.1,i6 (v3.1-1),v4.1,[],ByteArray.empty)).bind fun v5=>(x_dm K v5.1).bind fun v6=>cond (!v6.2.1.2.2) (it (v6.2.1.2.1=a0.length) ((x_ly K (v5.2.1.1,v5.2.1.2.1,v5.2.1.2.2.1,v5.2.1.2.2.2.1,v5.2.1.2.2.2.2.1,v6.1)).bind fun v7=>some ((v5.2.1.1,v5.2.1.2.1,v5.2.1.2.2.1,v5.2.1.2.2.2.1,v5.2.1.2.2.2.2.1,v6.1),v7.1,()))<|some ((v5.2.1.1,v5.2.1.2.1,v5.2.1.2.2.1,v5.2.1.2.2.2.1,v5.2.1.2.2.2.2.1,v6.1),false,()))<|some ((v5.2.1.1,v5.2.1.2.1,v5.2.1.2.2.1,v5.2.1.2.2.2.1,v5.2.1.2.2.2.2.1,v6.1),false,())
def x_rh (K:Nat) (a0:y0) (a1:Int):Option (x_df×Int×Bool×Unit):=
 (x_dq K a0 a1).bind fun v1=>cond (!v1.2.2.1) (some ((0,0,0,0,[],ByteArray.empty),0,false,()))<|it (v1.1>(i6 ((i6 ((a0.length:Int)-v1.2.1))-4))) (some ((0,0,0,0,[],ByteArray.empty),0,false,()))<|ck ((i6 (v1.2.1+v1.1))=(i6 (v1.2.1+v1.1)))<|ck (0≤v1.2.1)<|ck (v1.2.1≤(i6 (v1.2.1+v1.1)))<|ck ((i6 (v1.2.1+v1.1))≤a0.length)<|(x_qw K ((a0.take ((i6 (v1.2.1+v1.1)).toNat)).drop v1.2.1.toNat)).bind fun v2=>cond (!v2.2.1) (some ((0,0,0,0,[],ByteArray.empty),0,false,()))<|(x_a8 K v2.1).bind fun v3=>ck ((i6 ((i6 (v1.2.1+v1.1))+4))=(i6 ((i6 (v1.2.1+v1.1))+4)))<|ck (0≤a1)<|ck (a1≤(i6 ((i6 (v1.2.1+v1.1))+4)))<|ck ((i6 ((i6 (v1.2.1+v1.1))+4))≤a0.length)<|nit ((x_jo v3.1).data.toList=(x_jo ((a0.take ((i6 ((i6 (v1.2.1+v1.1))+4)).toNat)).drop a1.toNat)).data.toList) (some ((0,0,0,0,[],ByteArray.empty),0,false,()))<|some (v2.1,i6 ((i6 (v1.2.1+v1.1))+4),true,())
def x_fi.l0b (K:Nat) (a0:y0) (L0:y91) (q0:y10) (q1:Int):Option y87:=
 (x_rh K a0 q1).bind fun v1=>cond (!v1.2.2.1) (some (q0,q1,()))<|gr 73 q0 [v1.1]<|L0 (q0++[v1.1]) v1.2.1
def x_fi.l0 (K:Nat) (a0:y0):Nat→y91:=lp2 (x_fi.l0b K a0)
def x_fi.b (K:Nat) (a0:y0) (L0:y91):Option y87:=
 L0 [] 0
def x_fi (K:Nat) (a0:y0):Option y87:=x_fi.b K a0 (x_fi.l0 K a0 K)
def x_ea.l0b (K:Nat) (a0:TLog) (a1:Int) (a2:Int) (a3:y14) (L0:y112) (q0:Int) (v2:y15) (q1:y14):Option y39:=
 it (q0<a3.length) (ix q0 a3<|it ((i6 ((i6 (a1-a0.1))+q0))<q1.length) (ix (i6 ((i6 (a1-a0.1))+q0)) q1<|it ((q1.getD ((i6 ((i6 (a1-a0.1))+q0)).toNat) x_ay).1=(a3.getD q0.toNat x_ay).1) (L0 (i6 (q0+1)) v2 q1)<|ck ((i6 ((i6 (a1-a0.1))+q0))=(i6 ((i6 (a1-a0.1))+q0)))<|ck (0≤(i6 ((i6 (a1-a0.1))+q0)))<|ck ((i6 ((i6 (a1-a0.1))+q0))≤q1.length)<|gr 89 ((q1.take ((i6 ((i6 (a1-a0.1))+q0)).toNat)).drop 0) [a3.getD q0.toNat x_ay]<|L0 (i6 (q0+1)) v2 (((q1.take ((i6 ((i6 (a1-a0.1))+q0)).toNat)).drop 0)++[a3.getD q0.toNat x_ay]))<|ck ((i6 ((i6 (a1-a0.1))+q0))=(i6 ((i6 (a1-a0.1))+q0)))<|ck (0≤(i6 ((i6 (a1-a0.1))+q0)))<|ck ((i6 ((i6 (a1-a0.1))+q0))≤q1.length)<|gr 89 ((q1.take ((i6 ((i6 (a1-a0.1))+q0)).toNat)).drop 0) [a3.getD q0.toNat x_ay]<|L0 (i6 (q0+1)) v2 (((q1.take ((i6 ((i6 (a1-a0.1))+q0)).toNat)).drop 0)++[a3.getD q0.toNat x_ay]))<|(x_et K (v2.1.1,v2.1.2.1,q1)).bind fun v4=>cond (!v4.1) ((x_fs a0).bind fun v5=>some (v5.1,false,()))<|some ((v2.1.1,v2.1.2.1,q1),true,())
def x_ea.l0 (K:Nat) (a0:TLog) (a1:Int) (a2:Int) (a3:y14):Nat→y112:=lp3 (x_ea.l0b K a0 a1 a2 a3)
def x_ea.b (K:Nat) (a0:TLog) (a1:Int) (a2:Int) (a3:y14) (L0:y112):Option y39:=
 (x_et K a0).bind fun v1=>cond (!v1.1) (some ((0,0,[]),false,()))<|(x_fs a0).bind fun v2=>it (a2<0) (some (v2.1,false,()))<|(x_kg a0 a1).bind fun v3=>nit (v3.1=a2) (some (v2.1,false,()))<|L0 0 v2 v2.1.2.2
def x_ea (K:Nat) (a0:TLog) (a1:Int) (a2:Int) (a3:y14):Option y39:=x_ea.b K a0 a1 a2 a3 (x_ea.l0 K a0 a1 a2 a3 K)
def x_ib (K:Nat) (a1:TRow) (a2:x_h):Option y54:=
 (x_8 K a2).bind fun v1=>(x_dm K v1.2.1).bind fun v2=>(x_dm K v2.2.1).bind fun v3=>(x_8 K v3.2.1).bind fun v4=>(x_8 K v4.2.1).bind fun v5=>gr 57 a1.2.2 [(v1.1,v2.1,v3.1,v4.1,v5.1)]<|some ((a1.1,a1.2.1,a1.2.2++[(v1.1,v2.1,v3.1,v4.1,v5.1)]),v5.2.1,())
def x_g.l0b (K:Nat) (a0:x_h) (a2:TRow) (L0:y128) (v1:y50) (q0:Int) (q1:y26) (q2:TRow):Option y55:=
 it (q0<v1.1) (cond (!q1.1.2.2) ((x_ib K q2 q1.1).bind fun v2=>L0 v1 (i6 (q0+1)) v2.2 v2.1)<|some (q1.1,q2,()))<|some (q1.1,q2,())
def x_g.l0 (K:Nat) (a0:x_h) (a2:TRow):Nat→y128:=lp4 (x_g.l0b K a0 a2)
def x_g.b (K:Nat) (a0:x_h) (a2:TRow) (L0:y128):Option y55:=
 (x_8 K a0).bind fun v1=>L0 v1 0 v1.2 a2
def x_g (K:Nat) (a0:x_h) (a2:TRow):Option y55:=x_g.b K a0 a2 (x_g.l0 K a0 a2 K)
def x_hw (K:Nat) (a0:x_h):Option y54:=
 (x_8 K a0).bind fun v1=>(x_8 K v1.2.1).bind fun v2=>(x_g K v2.2.1 (v1.1,v2.1,[])).bind fun v3=>some (v3.2.1,v3.1,())
def x_op (K:Nat) (a0:x_ai) (a2:x_h):Option y60:=
 (x_hw K a2).bind fun v1=>gr 41 a0.1 [v1.1]<|some ((a0.1++[v1.1],a0.2),v1.2.1,())
def x_r.l0b (K:Nat) (a0:x_h) (a1:x_ai) (L0:y130) (v1:y50) (q0:Int) (q1:y26) (q2:x_ai):Option y67:=
 it (q0<v1.1) (cond (!q1.1.2.2) ((x_op K q2 q1.1).bind fun v2=>L0 v1 (i6 (q0+1)) v2.2 v2.1)<|some (q1.1,q2,()))<|some (q1.1,q2,())
def x_r.l0 (K:Nat) (a0:x_h) (a1:x_ai):Nat→y130:=lp4 (x_r.l0b K a0 a1)
def x_r.b (K:Nat) (a0:x_h) (a1:x_ai) (L0:y130):Option y67:=
 (x_8 K a0).bind fun v1=>L0 v1 0 v1.2 a1
def x_r (K:Nat) (a0:x_h) (a1:x_ai):Option y67:=x_r.b K a0 a1 (x_r.l0 K a0 a1 K)
def x_gm (K:Nat) (a1:x_at) (a2:x_h):Option y74:=
 (x_8 K a2).bind fun v1=>(x_8 K v1.2.1).bind fun v2=>gr 17 a1.2.2.2.2 [(v1.1,v2.1)]<|some ((a1.1,a1.2.1,a1.2.2.1,a1.2.2.2.1,a1.2.2.2.2++[(v1.1,v2.1)]),v2.2.1,())
def x_e.l0b (K:Nat) (a0:x_h) (a2:x_at) (L0:y131) (v1:y50) (q0:Int) (q1:y26) (q2:x_at):Option y78:=
 it (q0<v1.1) (cond (!q1.1.2.2) ((x_gm K q2 q1.1).bind fun v2=>L0 v1 (i6 (q0+1)) v2.2 v2.1)<|some (q1.1,q2,()))<|some (q1.1,q2,())
def x_e.l0 (K:Nat) (a0:x_h) (a2:x_at):Nat→y131:=lp4 (x_e.l0b K a0 a2)
def x_e.b (K:Nat) (a0:x_h) (a2:x_at) (L0:y131):Option y78:=
 (x_8 K a0).bind fun v1=>L0 v1 0 v1.2 a2
def x_e (K:Nat) (a0:x_h) (a2:x_at):Option y78:=x_e.b K a0 a2 (x_e.l0 K a0 a2 K)
def x_gf (K:Nat) (a0:x_h):Option y74:=
 (x_8 K a0).bind fun v1=>(x_8 K v1.2.1).bind fun v2=>(x_8 K v2.2.1).bind fun v3=>(x_8 K v3.2.1).bind fun v4=>(x_e K v4.2.1 (v1.1,v2.1,v3.1,i6 (v4.1-1),[])).bind fun v5=>some (v5.2.1,v5.1,())
def x_oi (K:Nat) (a0:x_ai) (a2:x_h):Option y60:=
 (x_gf K a2).bind fun v1=>gr 57 a0.2.1 [v1.1]<|some ((a0.1,a0.2.1++[v1.1],a0.2.2),v1.2.1,())
def x_q.l0b (K:Nat) (a0:x_h) (a1:x_ai) (L0:y130) (v1:y50) (q0:Int) (q1:y26) (q2:x_ai):Option y67:=
 it (q0<v1.1) (cond (!q1.1.2.2) ((x_oi K q2 q1.1).bind fun v2=>L0 v1 (i6 (q0+1)) v2.2 v2.1)<|some (q1.1,q2,()))<|some (q1.1,q2,())
def x_q.l0 (K:Nat) (a0:x_h) (a1:x_ai):Nat→y130:=lp4 (x_q.l0b K a0 a1)
def x_q.b (K:Nat) (a0:x_h) (a1:x_ai) (L0:y130):Option y67:=
 (x_8 K a0).bind fun v1=>L0 v1 0 v1.2 a1
def x_q (K:Nat) (a0:x_h) (a1:x_ai):Option y67:=x_q.b K a0 a1 (x_q.l0 K a0 a1 K)
def x_go (K:Nat) (a0:x_ar) (a2:x_h):Option y75:=
 (x_8 K a2).bind fun v1=>gr 9 a0.2.1 [v1.1]<|(x_8 K v1.2.1).bind fun v2=>gr 9 a0.2.2.1 [v2.1]<|some ((a0.1,a0.2.1++[v1.1],a0.2.2.1++[v2.1],a0.2.2.2),v2.2.1,())
def x_f.l0b (K:Nat) (a0:x_h) (a1:x_ar) (L0:y132) (v1:y50) (q0:Int) (q1:y26) (q2:x_ar):Option y79:=
 it (q0<v1.1) (cond (!q1.1.2.2) ((x_go K q2 q1.1).bind fun v2=>L0 v1 (i6 (q0+1)) v2.2 v2.1)<|some (q1.1,q2,()))<|some (q1.1,q2,())
def x_f.l0 (K:Nat) (a0:x_h) (a1:x_ar):Nat→y132:=lp4 (x_f.l0b K a0 a1)
def x_f.b (K:Nat) (a0:x_h) (a1:x_ar) (L0:y132):Option y79:=
 (x_8 K a0).bind fun v1=>L0 v1 0 v1.2 a1
def x_f (K:Nat) (a0:x_h) (a1:x_ar):Option y79:=x_f.b K a0 a1 (x_f.l0 K a0 a1 K)
def x_aq.l0b (K:Nat) (a0:x_h) (a1:Int) (L0:y133) (q0:Int) (q1:x_h) (v2:y79) (q2:y0):Option y75:=
 it (q0<a1) ((x_8 K q1).bind fun v3=>gr 9 q2 [v3.1]<|L0 (i6 (q0+1)) v3.2.1 v2 (q2++[v3.1]))<|some ((v2.2.1.1,v2.2.1.2.1,v2.2.1.2.2.1,q2),q1,())
def x_aq.l0 (K:Nat) (a0:x_h) (a1:Int):Nat→y133:=lp4 (x_aq.l0b K a0 a1)
def x_aq.b (K:Nat) (a0:x_h) (a1:Int) (L0:y133):Option y75:=
 (x_8 K a0).bind fun v1=>(x_f K v1.2.1 (v1.1,[],[],[])).bind fun v2=>L0 0 v2.1 v2 v2.2.1.2.2.2
def x_aq (K:Nat) (a0:x_h) (a1:Int):Option y75:=x_aq.b K a0 a1 (x_aq.l0 K a0 a1 K)
def x_oz (K:Nat) (a0:x_ai) (a2:x_d) (a3:x_h):Option (x_ai×x_d×x_h×Unit):=
 (x_aq K a3 a2.1).bind fun v1=>gr 81 a0.2.2.1 [v1.1]<|some ((a0.1,a0.2.1,a0.2.2.1++[v1.1],a0.2.2.2),a2,v1.2.1,())
def x_p.l0b (K:Nat) (a0:x_h) (a1:x_ai) (a3:x_d) (L0:y141) (v1:y50) (q0:Int) (q1:y26) (q2:x_ai) (q3:x_d):Option y115:=
 it (q0<v1.1) (cond (!q1.1.2.2) ((x_oz K q2 q3 q1.1).bind fun v2=>L0 v1 (i6 (q0+1)) v2.2.2 v2.1 v2.2.1)<|some (q1.1,q2,q3,()))<|some (q1.1,q2,q3,())
def x_p.l0 (K:Nat) (a0:x_h) (a1:x_ai) (a3:x_d):Nat→y141:=lp5 (x_p.l0b K a0 a1 a3)
def x_p.b (K:Nat) (a0:x_h) (a1:x_ai) (a3:x_d) (L0:y141):Option y115:=
 (x_8 K a0).bind fun v1=>L0 v1 0 v1.2 a1 a3
def x_p (K:Nat) (a0:x_h) (a1:x_ai) (a3:x_d):Option y115:=x_p.b K a0 a1 a3 (x_p.l0 K a0 a1 a3 K)
def x_dr.l0b (K:Nat) (a0:x_d) (a1:y0) (L0:y145) (q0:Int) (v4:y115) (v5:y50) (q1:y0) (q2:y21) (q3:y26):Option y43:=
 it (q0<4) ((x_8 K q3.1).bind fun v6=>gr 9 q1 [v6.1]<|(x_8 K v6.2.1).bind fun v7=>(x_8 K v7.2.1).bind fun v8=>(x_dm K v8.2.1).bind fun v9=>(x_dm K v9.2.1).bind fun v10=>gr 49 q2 [(v7.1,i6 (v8.1-1),v9.1,v10.1)]<|L0 (i6 (q0+1)) v4 v5 (q1++[v6.1]) (q2++[(v7.1,i6 (v8.1-1),v9.1,v10.1)]) v10.2)<|cond q3.1.2.2 (some (([],[],[],0,[],[]),false,()))<|nit (q3.1.2.1=a1.length) (some (([],[],[],0,[],[]),false,()))<|(x_di K v4.2.2.1 (v4.2.1.1,v4.2.1.2.1,v4.2.1.2.2.1,v5.1,q1,q2)).bind fun v11=>cond (!v11.1) (some (([],[],[],0,[],[]),false,()))<|some ((v4.2.1.1,v4.2.1.2.1,v4.2.1.2.2.1,v5.1,q1,q2),true,())
def x_dr.l0 (K:Nat) (a0:x_d) (a1:y0):Nat→y145:=lp6 (x_dr.l0b K a0 a1)
def x_dr.b (K:Nat) (a0:x_d) (a1:y0) (L0:y145):Option y43:=
 (x_g4 a0).bind fun v1=>cond (!v1.1) (some (([],[],[],0,[],[]),false,()))<|(x_r K (a1,0,false) ([],[],[],0,[],[])).bind fun v2=>(x_q K v2.1 v2.2.1).bind fun v3=>(x_p K v3.1 v3.2.1 a0).bind fun v4=>(x_8 K v4.1).bind fun v5=>L0 0 v4 v5 v4.2.1.2.2.2.2.1 v4.2.1.2.2.2.2.2 v5.2
def x_dr (K:Nat) (a0:x_d) (a1:y0):Option y43:=x_dr.b K a0 a1 (x_dr.l0 K a0 a1 K)
def x_gt.j0 (K:Nat) (a0:x_d) (p10:Int) (p11:Int) (p12:Int) (p13:Int) (p14:y14) (p15:x_ai) (a1:x_dh):Option y19:=
 (x_iw K a0 (p10,p11,(p12,p13,p14),p15)).bind fun v16=>cond (!v16.1) ((x_fw K a1).bind fun v17=>some (v17.1,()))<|some ((p10,p11,(p12,p13,p14),p15),())
def x_gt (K:Nat) (a0:x_d) (a1:x_dh) (a2:x_df):Option y19:=
 (x_iw K a0 a1).bind fun v1=>cond (!v1.1) ((x_fw K a1).bind fun v3=>some (v3.1,()))<|(x_ly K a2).bind fun v2=>cond (!v2.1) ((x_fw K a1).bind fun v4=>some (v4.1,()))<|(x_fw K a1).bind fun v5=>it (a2.1=1) (x_gt.j0 K a0 a2.2.1 a2.2.2.1 v5.1.2.2.1.1 v5.1.2.2.1.2.1 v5.1.2.2.1.2.2 v5.1.2.2.2 a1)<|it (a2.1=2) ((x_ea K a1.2.2.1 a2.2.2.2.1 a2.2.1 a2.2.2.2.2.1).bind fun v6=>cond v6.2.1 (x_gt.j0 K a0 v5.1.1 v5.1.2.1 v6.1.1 v6.1.2.1 v6.1.2.2 v5.1.2.2.2 a1)<|(x_iw K a0 v5.1).bind fun v18=>cond (!v18.1) ((x_fw K a1).bind fun v19=>some (v19.1,()))<|some (v5.1,()))<|(x_dr K a0 (x_co a2.2.2.2.2.2)).bind fun v7=>cond (!v7.2.1) (some (v5.1,()))<|it (a2.2.2.2.1≤a1.2.2.1.1) (some (v5.1,()))<|(x_kg a1.2.2.1 a2.2.2.2.1).bind fun v8=>it (v8.1=a2.2.1) ((x_ow a1.2.2.1 a2.2.2.2.1).bind fun v9=>x_gt.j0 K a0 v5.1.1 v5.1.2.1 v9.1.1 v9.1.2.1 v9.1.2.2 v7.1 a1)<|x_gt.j0 K a0 v5.1.1 v5.1.2.1 a2.2.2.2.1 a2.2.1 [] v7.1 a1
def x_d4.l0b (K:Nat) (a0:x_d) (a1:y0) (L0:y117) (v2:y87) (q0:Int) (q1:y19):Option y19:=
 it (q0<v2.1.length) (ix q0 v2.1<|(x_gt K a0 q1.1 (v2.1.getD q0.toNat zNote)).bind fun v3=>L0 v2 (i6 (q0+1)) v3)<|some (q1.1,())
def x_d4.l0 (K:Nat) (a0:x_d) (a1:y0):Nat→y117:=lp3 (x_d4.l0b K a0 a1)
def x_d4.b (K:Nat) (a0:x_d) (a1:y0) (L0:y117):Option y19:=
 (x_m5 K a0).bind fun v1=>(x_fi K a1).bind fun v2=>L0 v2 0 v1
def x_d4 (K:Nat) (a0:x_d) (a1:y0):Option y19:=x_d4.b K a0 a1 (x_d4.l0 K a0 a1 K)
def x_dz.l0b (K:Nat) (a0:y14) (a1:y14) (L0:y30) (q0:Int):Option y11:=
 it (q0<a0.length) (ix q0 a0<|ix q0 a1<|cond (!(x_t7 (a0.getD q0.toNat x_ay) (a1.getD q0.toNat x_ay))) (some (false,()))<|L0 (i6 (q0+1)))<|some (true,())
def x_dz.l0 (K:Nat) (a0:y14) (a1:y14):Nat→y30:=lp1 (x_dz.l0b K a0 a1)
def x_dz.b (K:Nat) (a0:y14) (a1:y14) (L0:y30):Option y11:=
 nit ((a0.length:Int)=a1.length) (some (false,()))<|L0 0
def x_dz (K:Nat) (a0:y14) (a1:y14):Option y11:=x_dz.b K a0 a1 (x_dz.l0 K a0 a1 K)
def x_ne (K:Nat) (a0:TLog) (a1:TLog):Option y11:=
 it (a0.1=a1.1) (it (a0.2.1=a1.2.1) ((x_dz K a0.2.2 a1.2.2).bind fun v1=>some (v1.1,()))<|some (false,()))<|some (false,())
def x_c4.l0b (K:Nat) (a0:y8) (a1:y8) (L0:y30) (q0:Int):Option y11:=
 it (q0<a0.length) (ix q0 a0<|ix q0 a1<|cond (!(qItem (a0.getD q0.toNat x_ce) (a1.getD q0.toNat x_ce))) (some (false,()))<|L0 (i6 (q0+1)))<|some (true,())
def x_c4.l0 (K:Nat) (a0:y8) (a1:y8):Nat→y30:=lp1 (x_c4.l0b K a0 a1)
def x_c4.b (K:Nat) (a0:y8) (a1:y8) (L0:y30):Option y11:=
 nit ((a0.length:Int)=a1.length) (some (false,()))<|L0 0
def x_c4 (K:Nat) (a0:y8) (a1:y8):Option y11:=x_c4.b K a0 a1 (x_c4.l0 K a0 a1 K)
def x_h0 (K:Nat) (a0:TRow) (a1:TRow):Option y11:=
 it (a0.1=a1.1) (it (a0.2.1=a1.2.1) ((x_c4 K a0.2.2 a1.2.2).bind fun v1=>some (v1.1,()))<|some (false,()))<|some (false,())
def x_n.l0b (K:Nat) (a0:y4) (a1:y4) (L0:y30) (q0:Int):Option y11:=
 it (q0<a0.length) (ix q0 a0<|ix q0 a1<|(x_h0 K (a0.getD q0.toNat zRow) (a1.getD q0.toNat zRow)).bind fun v1=>cond (!v1.1) (some (false,()))<|L0 (i6 (q0+1)))<|some (true,())
def x_n.l0 (K:Nat) (a0:y4) (a1:y4):Nat→y30:=lp1 (x_n.l0b K a0 a1)
def x_n.b (K:Nat) (a0:y4) (a1:y4) (L0:y30):Option y11:=
 nit ((a0.length:Int)=a1.length) (some (false,()))<|L0 0
def x_n (K:Nat) (a0:y4) (a1:y4):Option y11:=x_n.b K a0 a1 (x_n.l0 K a0 a1 K)
def x_ct.l0b (K:Nat) (a0:y9) (a1:y9) (L0:y30) (q0:Int):Option y11:=
 it (q0<a0.length) (ix q0 a0<|ix q0 a1<|cond (!(qMark (a0.getD q0.toNat x_ie) (a1.getD q0.toNat x_ie))) (some (false,()))<|L0 (i6 (q0+1)))<|some (true,())
def x_ct.l0 (K:Nat) (a0:y9) (a1:y9):Nat→y30:=lp1 (x_ct.l0b K a0 a1)
def x_ct.b (K:Nat) (a0:y9) (a1:y9) (L0:y30):Option y11:=
 nit ((a0.length:Int)=a1.length) (some (false,()))<|L0 0
def x_ct (K:Nat) (a0:y9) (a1:y9):Option y11:=x_ct.b K a0 a1 (x_ct.l0 K a0 a1 K)
def x_hx (K:Nat) (a0:x_at) (a1:x_at):Option y11:=
 it (a0.1=a1.1) (it (a0.2.1=a1.2.1) (it (a0.2.2.1=a1.2.2.1) (it (a0.2.2.2.1=a1.2.2.2.1) ((x_ct K a0.2.2.2.2 a1.2.2.2.2).bind fun v1=>some (v1.1,()))<|some (false,()))<|some (false,()))<|some (false,()))<|some (false,())
def x_m.l0b (K:Nat) (a0:y13) (a1:y13) (L0:y30) (q0:Int):Option y11:=
 it (q0<a0.length) (ix q0 a0<|ix q0 a1<|(x_hx K (a0.getD q0.toNat x_bb) (a1.getD q0.toNat x_bb)).bind fun v1=>cond (!v1.1) (some (false,()))<|L0 (i6 (q0+1)))<|some (true,())
def x_m.l0 (K:Nat) (a0:y13) (a1:y13):Nat→y30:=lp1 (x_m.l0b K a0 a1)
def x_m.b (K:Nat) (a0:y13) (a1:y13) (L0:y30):Option y11:=
 nit ((a0.length:Int)=a1.length) (some (false,()))<|L0 0
def x_m (K:Nat) (a0:y13) (a1:y13):Option y11:=x_m.b K a0 a1 (x_m.l0 K a0 a1 K)
def x_cb.l0b (K:Nat) (a0:y0) (a1:y0) (L0:y30) (q0:Int):Option y11:=
 it (q0<a0.length) (ix q0 a0<|ix q0 a1<|nit ((a0.getD q0.toNat 0)=(a1.getD q0.toNat 0)) (some (false,()))<|L0 (i6 (q0+1)))<|some (true,())
def x_cb.l0 (K:Nat) (a0:y0) (a1:y0):Nat→y30:=lp1 (x_cb.l0b K a0 a1)
def x_cb.b (K:Nat) (a0:y0) (a1:y0) (L0:y30):Option y11:=
 nit ((a0.length:Int)=a1.length) (some (false,()))<|L0 0
def x_cb (K:Nat) (a0:y0) (a1:y0):Option y11:=x_cb.b K a0 a1 (x_cb.l0 K a0 a1 K)
def x_h6 (K:Nat) (a0:x_ar) (a1:x_ar):Option y11:=
 it (a0.1=a1.1) ((x_cb K a0.2.1 a1.2.1).bind fun v1=>cond v1.1 ((x_cb K a0.2.2.1 a1.2.2.1).bind fun v2=>cond v2.1 ((x_cb K a0.2.2.2 a1.2.2.2).bind fun v3=>some (v3.1,()))<|some (false,()))<|some (false,()))<|some (false,())
def x_o.l0b (K:Nat) (a0:y12) (a1:y12) (L0:y30) (q0:Int):Option y11:=
 it (q0<a0.length) (ix q0 a0<|ix q0 a1<|(x_h6 K (a0.getD q0.toNat x_bv) (a1.getD q0.toNat x_bv)).bind fun v1=>cond (!v1.1) (some (false,()))<|L0 (i6 (q0+1)))<|some (true,())
def x_o.l0 (K:Nat) (a0:y12) (a1:y12):Nat→y30:=lp1 (x_o.l0b K a0 a1)
def x_o.b (K:Nat) (a0:y12) (a1:y12) (L0:y30):Option y11:=
 nit ((a0.length:Int)=a1.length) (some (false,()))<|L0 0
def x_o (K:Nat) (a0:y12) (a1:y12):Option y11:=x_o.b K a0 a1 (x_o.l0 K a0 a1 K)
def x_cs.l0b (K:Nat) (a0:y21) (a1:y21) (L0:y30) (q0:Int):Option y11:=
 it (q0<a0.length) (ix q0 a0<|ix q0 a1<|cond (!(x_wi (a0.getD q0.toNat x_b7) (a1.getD q0.toNat x_b7))) (some (false,()))<|L0 (i6 (q0+1)))<|some (true,())
def x_cs.l0 (K:Nat) (a0:y21) (a1:y21):Nat→y30:=lp1 (x_cs.l0b K a0 a1)
def x_cs.b (K:Nat) (a0:y21) (a1:y21) (L0:y30):Option y11:=
 nit ((a0.length:Int)=a1.length) (some (false,()))<|L0 0
def x_cs (K:Nat) (a0:y21) (a1:y21):Option y11:=x_cs.b K a0 a1 (x_cs.l0 K a0 a1 K)
def x_k4 (K:Nat) (a0:x_ai) (a1:x_ai):Option y11:=
 (x_n K a0.1 a1.1).bind fun v1=>(x_m K a0.2.1 a1.2.1).bind fun v2=>(x_o K a0.2.2.1 a1.2.2.1).bind fun v3=>cond v1.1 (cond v2.1 (cond v3.1 (it (a0.2.2.2.1=a1.2.2.2.1) ((x_cb K a0.2.2.2.2.1 a1.2.2.2.2.1).bind fun v4=>cond v4.1 ((x_cs K a0.2.2.2.2.2 a1.2.2.2.2.2).bind fun v5=>some (v5.1,()))<|some (false,()))<|some (false,()))<|some (false,()))<|some (false,()))<|some (false,())
def x_k1 (K:Nat) (a0:x_dh) (a1:x_dh):Option y11:=
 it (a0.1=a1.1) (it (a0.2.1=a1.2.1) ((x_ne K a0.2.2.1 a1.2.2.1).bind fun v1=>cond v1.1 ((x_k4 K a0.2.2.2 a1.2.2.2).bind fun v2=>some (v2.1,()))<|some (false,()))<|some (false,()))<|some (false,())
def i_Kept (K:Nat) (a0:x_d) (a1:x_bq):Option y11:=
 (x_d4 K a0 a1.2.2.2.2.2.2.2.2.1.1).bind fun v1=>(x_k1 K v1.1 a1.2.1).bind fun v2=>some (v2.1,())
def x_hy (K:Nat) (a0:y0):Option y11:=
 (l_big a0).bind fun v1=>cond v1.1 (some (true,()))<|(x_qo K a0).bind fun v2=>(l_at a0 5).bind fun v3=>(i_Do K v2.1 (10,Int.tmod v3.1 3,0,0,0,0,0,0,0,ByteArray.empty,ByteArray.empty)).bind fun v4=>(s_Do K v2.1 (10,Int.tmod v3.1 3,0,0,0,0,0,0,0,ByteArray.empty,ByteArray.empty)).bind fun v5=>nit (v4.2.1=v5.2.1) (some (false,()))<|nit (v4.2.1=0) (it (v4.2.1=1) (some (true,()))<|(x_i K v4.1 v2.1).bind fun v6=>some (v6.1,()))<|ix (Int.tmod v3.1 3) v4.1.2.2.1<|ix (Int.tmod v3.1 3) v2.1.2.2.1<|(i_Do K v4.1 (10,Int.tmod v3.1 3,0,0,0,0,0,0,0,ByteArray.empty,ByteArray.empty)).bind fun v7=>it (v7.2.1=3) (it ((v4.1.2.2.1.getD ((Int.tmod v3.1 3).toNat) x_bx).2.2.2.2.2.2.1=(v2.1.2.2.1.getD ((Int.tmod v3.1 3).toNat) x_bx).2.2.2.2.2.2.1) ((x_gi K v2.1.1 (v4.1.2.2.1.getD ((Int.tmod v3.1 3).toNat) x_bx).2.2.2.2.2.2.2.1 (v2.1.2.2.1.getD ((Int.tmod v3.1 3).toNat) x_bx).2.2.2.2.2.2.2.1).bind fun v8=>cond v8.1 (it ((v4.1.2.2.1.getD ((Int.tmod v3.1 3).toNat) x_bx).2.1.2.2.1.1=(v2.1.2.2.1.getD ((Int.tmod v3.1 3).toNat) x_bx).2.2.2.2.2.2.1) ((i_Kept K v2.1.1 (v4.1.2.2.1.getD ((Int.tmod v3.1 3).toNat) x_bx)).bind fun v9=>cond v9.1 (some (decide ((v4.1.2.2.1.getD ((Int.tmod v3.1 3).toNat) x_bx).2.1.1=(v2.1.2.2.1.getD ((Int.tmod v3.1 3).toNat) x_bx).2.1.1),()))<|some (false,()))<|some (false,()))<|some (false,()))<|some (false,()))<|some (false,())
end Go.Proofs.YtjfnlbdnfglmfaaGreat.Cu
