/- What the functions compute, over plain values. -/
import Derived.Test.YtoiamgohjmjbiaaGreatKc
set_option linter.all false
set_option maxRecDepth 100000
namespace Go.Proofs.YtoiamgohjmjbiaaGreat.Pe
open Go Go.Kn
abbrev x_ag:=Int×(List Int)×(List Int)×(List Int)
@[reducible] def x_a2:ET:=(.p (.i .i64) (.p (.sl (.i .i64)) (.p (.sl (.i .i64)) (.sl (.i .i64)))))
def x_co:x_ag:=(0,[],[],[])
abbrev x_ct:=Int×Int×ByteArray×ByteArray
@[reducible] def x_bl:ET:=(.p (.i .i64) (.p (.i .i64) (.p .s .s)))
def x_cc:x_ct:=(0,0,ByteArray.empty,ByteArray.empty)
def qAnswer (v w:x_ct):Bool:=eqv x_bl v w
abbrev TCmd:=Int×Int×Int×Int×x_ct
@[reducible] def eCmd:ET:=(.p (.i .i64) (.p (.i .i64) (.p (.i .i64) (.p (.i .i64) x_bl))))
def zCmd:TCmd:=(0,0,0,0,x_cc)
def qCmd (v w:TCmd):Bool:=eqv eCmd v w
abbrev x_cf:=Int×TCmd
@[reducible] def x_cv:ET:=(.p (.i .i64) eCmd)
def x_at:x_cf:=(0,zCmd)
def qEntry (v w:x_cf):Bool:=eqv x_cv v w
abbrev TLog:=Int×Int×(List x_cf)
@[reducible] def eLog:ET:=(.p (.i .i64) (.p (.i .i64) (.sl x_cv)))
def zLog:TLog:=(0,0,[])
abbrev x_pv:=Int×Int
@[reducible] def x_rp:ET:=(.p (.i .i64) (.i .i64))
def x_io:x_pv:=(0,0)
def qMark (v w:x_pv):Bool:=eqv x_rp v w
abbrev x_lg:=Int×ByteArray×ByteArray×x_pv
@[reducible] def x_sp:ET:=(.p (.i .i64) (.p .s (.p .s x_rp)))
def x_cb:x_lg:=(0,ByteArray.empty,ByteArray.empty,x_io)
def qItem (v w:x_lg):Bool:=eqv x_sp v w
abbrev TRow:=Int×Int×(List x_lg)
@[reducible] def eRow:ET:=(.p (.i .i64) (.p (.i .i64) (.sl x_sp)))
def zRow:TRow:=(0,0,[])
abbrev x_am:=Int×Int×Int×Int×(List x_pv)
@[reducible] def x_bf:ET:=(.p (.i .i64) (.p (.i .i64) (.p (.i .i64) (.p (.i .i64) (.sl x_rp)))))
def x_bc:x_am:=(0,0,0,0,[])
abbrev x_as:=(List TRow)×(List x_am)×(List x_ag)×Int×(List Int)×(List x_ct)
@[reducible] def x_c7:ET:=(.p (.sl eRow) (.p (.sl x_bf) (.p (.sl x_a2) (.p (.i .i64) (.p (.sl (.i .i64)) (.sl x_bl))))))
def zKeep:x_as:=([],[],[],0,[],[])
abbrev x_eh:=Int×Int×TLog×x_as
@[reducible] def x_il:ET:=(.p (.i .i64) (.p (.i .i64) (.p eLog x_c7)))
def zHard:x_eh:=(0,0,zLog,zKeep)
abbrev x_n4:=(List Int)×Int
@[reducible] def x_vb:ET:=(.p (.sl (.i .u8)) (.i .i64))
def zDisk:x_n4:=([],0)
abbrev TRpc:=Int×Int×Int×Int×Int×Int×Int×(List x_cf)×Bool×ByteArray
@[reducible] def eRpc:ET:=(.p (.i .i64) (.p (.i .i64) (.p (.i .i64) (.p (.i .i64) (.p (.i .i64) (.p (.i .i64) (.p (.i .i64) (.p (.sl x_cv) (.p .b .s)))))))))
def zRpc:TRpc:=(0,0,0,0,0,0,0,[],false,ByteArray.empty)
abbrev x_cg:=Int×x_eh×Int×(List Bool)×(List Int)×(List Int)×Int×x_as×x_n4×(List TRpc)
@[reducible] def x_gj:ET:=(.p (.i .i64) (.p x_il (.p (.i .i64) (.p (.sl .b) (.p (.sl (.i .i64)) (.p (.sl (.i .i64)) (.p (.i .i64) (.p x_c7 (.p x_vb (.sl eRpc))))))))))
def x_d2:x_cg:=(0,zHard,0,[],[],[],0,zKeep,zDisk,[])
abbrev x_no:=Int×Int×x_cf
@[reducible] def x_vq:ET:=(.p (.i .i64) (.p (.i .i64) x_cv))
abbrev THeard:=Int×Int×x_ct×x_pv
@[reducible] def eHeard:ET:=(.p (.i .i64) (.p (.i .i64) (.p x_bl x_rp)))
def zHeard:THeard:=(0,0,x_cc,x_io)
abbrev x_cw:=Int×Int×Int×Int×(List x_cf)×ByteArray
@[reducible] def x_js:ET:=(.p (.i .i64) (.p (.i .i64) (.p (.i .i64) (.p (.i .i64) (.p (.sl x_cv) .s)))))
def zNote:x_cw:=(0,0,0,0,[],ByteArray.empty)
abbrev x_z:=(List Int)×x_pv
@[reducible] def x_dt:ET:=(.p (.sl (.i .u8)) x_rp)
abbrev x_e:=Int×Int×x_pv
@[reducible] def x_a6:ET:=(.p (.i .i64) (.p (.i .i64) x_rp))
abbrev x_a0:=x_e×Int×(List x_cg)×(List TRpc)×(List TCmd)×(List Int)×(List THeard)×(List TCmd)
@[reducible] def x_c0:ET:=(.p x_a6 (.p (.i .i64) (.p (.sl x_gj) (.p (.sl eRpc) (.p (.sl eCmd) (.p (.sl (.i .i64)) (.p (.sl eHeard) (.sl eCmd))))))))
abbrev x_g:=(List Int)×Int×Bool
@[reducible] def x_cr:ET:=(.p (.sl (.i .u8)) (.p (.i .i64) .b))
abbrev x_cd:=x_e×Int×x_cg×Bool
@[reducible] def x_ee:ET:=(.p x_a6 (.p (.i .i64) (.p x_gj .b)))
abbrev y0:=List Int
abbrev y1:=x_cd
abbrev y2:=ByteArray
abbrev y3:=List TRow
abbrev y4:=List TRpc
abbrev y5:=List TCmd
abbrev y6:=Int×Unit
abbrev y7:=List x_cg
abbrev y8:=List x_lg
abbrev y9:=List x_pv
abbrev y10:=List x_cw
abbrev y11:=Bool×Unit
abbrev y12:=List x_ag
abbrev y13:=List x_cf
abbrev y14:=List x_am
abbrev y15:=TLog×Unit
abbrev y16:=TRow×Unit
abbrev y17:=x_as×Unit
abbrev y18:=x_eh×Unit
abbrev y19:=List x_ct
abbrev y20:=x_z×Unit
abbrev y21:=x_ag×Unit
abbrev y22:=x_am×Unit
abbrev y23:=x_a0×Unit
abbrev y24:=x_g×Unit
abbrev y25:=x_cd×Unit
abbrev y26:=List (List Int)
abbrev y27:=Int×Int×Unit
abbrev y28:=Int→Option y11
abbrev y29:=(List Int)×Unit
abbrev y30:=Int→Option y6
abbrev y31:=Int×TRpc×Unit
abbrev y32:=Int→Option y22
abbrev y33:=Int→Option y27
abbrev y34:=Int→Option y25
abbrev y35:=(List TRpc)×Unit
abbrev y36:=TLog×Bool×Unit
abbrev y37:=x_lg×Int×Unit
abbrev y38:=Int→Option y37
abbrev y39:=Int×x_z×Unit
abbrev y40:=Int×x_e×Unit
abbrev y41:=x_cg×Bool×Unit
abbrev y42:=x_as×Bool×Unit
abbrev y43:=x_a0×Int×Unit
abbrev y44:=x_a0×Bool×Unit
abbrev y45:=TCmd×x_z×Unit
abbrev y46:=Bool×x_z×Unit
abbrev y47:=Int×x_g×Unit
abbrev y48:=(List x_am)×Unit
abbrev y49:=TRow×x_z×Unit
abbrev y50:=x_no×x_z×Unit
abbrev y51:=TRow×x_g×Unit
abbrev y52:=x_g×TRow×Unit
abbrev y53:=Int→Int→Option y20
abbrev y54:=x_e×x_z×Unit
abbrev y55:=Int→y12→Option y17
abbrev y56:=Int→Int→Option y11
abbrev y57:=Int×Int×Int×Unit
abbrev y58:=x_as×x_g×Unit
abbrev y59:=Int→y21→Option y21
abbrev y60:=x_as×x_ct×Unit
abbrev y61:=x_cw×x_g×Unit
abbrev y62:=x_am×x_z×Unit
abbrev y63:=x_g×x_cw×Unit
abbrev y64:=x_g×x_as×Unit
abbrev y65:=y0→Int→Option y29
abbrev y66:=y27→Int→Option y11
abbrev y67:=Int→y3→Option y17
abbrev y68:=Int→y0→Option y29
abbrev y69:=Int×Int×Bool×Unit
abbrev y70:=Int→Int→Option y69
abbrev y71:=x_am×x_g×Unit
abbrev y72:=x_ag×x_g×Unit
abbrev y73:=Int→Int→Option y25
abbrev y74:=Int→Int→Option y29
abbrev y75:=x_g×x_am×Unit
abbrev y76:=x_g×x_ag×Unit
abbrev y77:=Int→TRpc→Option y31
abbrev y78:=Int×Int×x_cg×Unit
abbrev y79:=Int→y7→Option y44
abbrev y80:=y4→Int→Option y35
abbrev y81:=Int→y8→Option y16
abbrev y82:=y29→Int→Option y29
abbrev y83:=y14→Int→Option y48
abbrev y84:=(List x_cw)×Int×Unit
abbrev y85:=Int→y5→Option y23
abbrev y86:=y39→TRow→Option y49
abbrev y87:=Int→x_e→Option y40
abbrev y88:=y10→Int→Option y84
abbrev y89:=(List Int)×x_z×Unit
abbrev y90:=(List TCmd)×x_z×Unit
abbrev y91:=x_ag×Int×x_z×Unit
abbrev y92:=Int→Int→Int→Option y57
abbrev y93:=Int→Int→Int→Option y6
abbrev y94:=ByteArray×Int×Bool×Unit
abbrev y95:=Int→y0→y0→Option y25
abbrev y96:=Bool→Int→y21→Option y21
abbrev y97:=Int→Int→Int→Option y25
abbrev y98:=y0→Int→Int→Option y29
abbrev y99:=x_as×(List x_ct)×Unit
abbrev y100:=(List x_cf)×x_z×Unit
abbrev y101:=Int→y3→y12→Option y17
abbrev y102:=Int→y3→y14→Option y17
abbrev y103:=Int→y12→y6→Option y60
abbrev y104:=x_e×x_eh×x_z×Unit
abbrev y105:=x_e×x_as×x_z×Unit
abbrev y106:=Int→Int→x_cg→Option y78
abbrev y107:=Int→y7→y35→Option y23
abbrev y108:=Int→y15→y13→Option y36
abbrev y109:=y14→Bool→Int→Option y48
abbrev y110:=Int→y16→y8→Option y16
abbrev y111:=x_g×x_as×x_e×Unit
abbrev y112:=y27→Int→x_as→Option y25
abbrev y113:=y84→Int→y18→Option y18
abbrev y114:=y19→Int→x_as→Option y99
abbrev y115:=y0→Int→x_z→Option y89
abbrev y116:=y6→y39→Int→y39→Option y50
abbrev y117:=y6→y39→Int→Int→Option y50
abbrev y118:=Int→y3→y14→y12→Option y17
abbrev y119:=y8→Int→Int→y16→Option y16
abbrev y120:=Int→y20→y54→y18→Option y104
abbrev y121:=y47→Int→y24→y3→Option y58
abbrev y122:=y5→y39→Int→y20→Option y90
abbrev y123:=y47→Int→y24→TRow→Option y52
abbrev y124:=y47→Int→y24→x_cw→Option y63
abbrev y125:=y47→Int→y24→x_as→Option y64
abbrev y126:=y47→Int→y24→x_am→Option y75
abbrev y127:=y47→Int→y24→x_ag→Option y76
abbrev y128:=Int→x_g→y76→y0→Option y72
abbrev y129:=Int→y13→y39→Int→y20→Option y100
abbrev y130:=y47→Int→y24→y3→y14→Option y58
abbrev y131:=y27→Int→y25→Int→(List Bool)→Option y41
abbrev y132:=y39→Int→Int→y39→x_ag→Option y91
abbrev y133:=x_a0×(List x_no)×x_a0×x_z×Unit
abbrev y134:=Int→y47→y47→y0→y0→y0→Option y72
abbrev y135:=y39→Int→y39→Int→Int→y8→Option y49
abbrev y136:=y47→Int→y24→x_as→x_e→Option y111
abbrev y137:=y47→Int→y47→y47→y0→y0→Option y72
abbrev y138:=y47→Int→y24→y3→y14→y12→Option y58
abbrev y139:=y47→Int→y47→y47→y47→y8→Option y51
abbrev y140:=Int→y111→y47→y0→y19→y24→Option y42
abbrev y141:=y44→(List x_no)→y39→Int→y20→x_a0→Option y133
abbrev y142:=Int→y39→Int→Int→Int→Int→y9→Option y62
abbrev y143:=Int→y24→y3→y14→y12→y47→y0→y19→Option y58
abbrev y144:=y47→Int→y47→y47→y47→y47→y47→y9→Option y71
abbrev y145:=y47→Int→y24→y47→y47→y47→y47→y13→Option y61
def l_big (a0:y0):Option y11:=
 some (decide ((a0.length:Int)>1048576),())
def x_dx.l0b (K:Nat) (a0:y0) (L0:y53) (q0:Int) (q1:Int):Option y20:=
 it (q1<a0.length) (it (q1<4000) (ix q1 a0<|L0 (i6 (ban (i6 ((i6 ((i6 (q0*131))+(i6 (a0.getD q1.toNat 0))))+7)) 1073741823)) (i6 (q1+1)))<|some ((a0,0,q0),()))<|some ((a0,0,q0),())
def x_dx.l0 (K:Nat) (a0:y0):Nat→y53:=lp2 (x_dx.l0b K a0)
def x_dx.b (K:Nat) (a0:y0) (L0:y53):Option y20:=
 L0 (i6 (24548+(a0.length:Int))) 0
def x_dx (K:Nat) (a0:y0):Option y20:=x_dx.b K a0 (x_dx.l0 K a0 K)
def x_hu (a0:x_z):Option y39:=
 it (a0.2.1<a0.1.length) (ix a0.2.1 a0.1<|some (i6 (ban (i6 ((i6 (ban (i6 (bxo (Int.fdiv (i6 ((i6 (a0.2.2*6364136223846793005))+1442695040888963407)) (2 ^ 33)) (Int.fdiv (i6 ((i6 (a0.2.2*6364136223846793005))+1442695040888963407)) (2 ^ 45)))) 255))+(i6 (a0.1.getD a0.2.1.toNat 0)))) 255),(a0.1,i6 (a0.2.1+1),i6 ((i6 (a0.2.2*6364136223846793005))+1442695040888963407)),()))<|some (i6 (ban (i6 (bxo (Int.fdiv (i6 ((i6 (a0.2.2*6364136223846793005))+1442695040888963407)) (2 ^ 33)) (Int.fdiv (i6 ((i6 (a0.2.2*6364136223846793005))+1442695040888963407)) (2 ^ 45)))) 255),(a0.1,a0.2.1,i6 ((i6 (a0.2.2*6364136223846793005))+1442695040888963407)),())
def x_j (a0:x_z) (a1:Int):Option y39:=
 it (a1≤0) (some (0,a0,()))<|it (a1≤256) ((x_hu a0).bind fun v1=>ck (a1≠0)<|some (Int.tmod v1.1 a1,v1.2.1,()))<|(x_hu a0).bind fun v2=>(x_hu v2.2.1).bind fun v3=>(x_hu v3.2.1).bind fun v4=>(x_hu v4.2.1).bind fun v5=>ck (a1≠0)<|some (Int.tmod (i6 ((i6 ((i6 ((i6 (v2.1*16777216))+(i6 (v3.1*65536))))+(i6 (v4.1*256))))+v5.1)) a1,v5.2.1,())
def x_0 (a0:x_z) (a1:y0):Option y39:=
 (x_j a0 (a1.length:Int)).bind fun v1=>ix v1.1 a1<|some (a1.getD v1.1.toNat 0,v1.2.1,())
def x_dv (a0:x_z):Option y54:=
 (x_j a0 3).bind fun v1=>(x_0 v1.2.1 [1,2,5]).bind fun v2=>(x_0 v2.2.1 [1,2,3,8]).bind fun v3=>(x_0 v3.2.1 [0,1,3,10]).bind fun v4=>some ((i6 (1+v1.1),v2.1,v3.1,v4.1),v4.2.1,())
def x_na (a0:x_z):Option y54:=
 (x_dv a0).bind fun v1=>(x_j v1.2.1 12).bind fun v2=>it (v2.1=0) ((x_0 v2.2.1 [(-1),0,4,5]).bind fun v3=>some ((v3.1,v1.1.2),v3.2.1,()))<|it (v2.1=1) ((x_0 v2.2.1 [0,6]).bind fun v4=>some ((v1.1.1,v4.1,v1.1.2.2),v4.2.1,()))<|it (v2.1=2) ((x_0 v2.2.1 [0,9]).bind fun v5=>some ((v1.1.1,v1.1.2.1,v5.1,v1.1.2.2.2),v5.2.1,()))<|it (v2.1=3) ((x_0 v2.2.1 [(-1),60,61]).bind fun v6=>some ((v1.1.1,v1.1.2.1,v1.1.2.2.1,v6.1),v6.2.1,()))<|some (v1.1,v2.2.1,())
def x_f6 (K:Nat) (a0:y0):Option (x_e×Int×Int×Unit):=
 (x_dx K a0).bind fun v1=>(x_na v1.1).bind fun v2=>(x_j v2.2.1 5).bind fun v3=>(x_j v3.2.1 8).bind fun v4=>some (v2.1,i6 (v3.1-1),i6 (v4.1-1),())
def x_6 (a0:Int) (a1:Int) (a2:Int):Option y11:=
 it (a0≥a1) (some (decide (a0≤a2),()))<|some (false,())
def x_g4 (a0:x_e):Option y11:=
 (x_6 a0.1 1 4).bind fun v1=>cond v1.1 ((x_6 a0.2.1 1 5).bind fun v2=>cond v2.1 ((x_6 a0.2.2.1 1 8).bind fun v3=>cond v3.1 ((x_6 a0.2.2.2 0 60).bind fun v4=>some (v4.1,()))<|some (false,()))<|some (false,()))<|some (false,())
def x_jx (a0:Int):Option y21:=
 (x_6 a0 1 4).bind fun v1=>cond (!v1.1) (some ((0,[],[],[]),()))<|ck (a0=a0)<|ck (0≤a0)<|ck (a0.toNat*9≤x_di)<|some ((0,[],[],List.replicate a0.toNat 0),())
def x_bo.l0b (K:Nat) (a0:x_e) (L0:y55) (q0:Int) (q1:y12):Option y17:=
 it (q0<2) ((x_jx a0.1).bind fun v2=>gr 81 q1 [v2.1]<|L0 (i6 (q0+1)) (q1++[v2.1]))<|some ((List.replicate a0.1.toNat zRow,[],q1,0,List.replicate 4 0,List.replicate 4 x_cc),())
def x_bo.l0 (K:Nat) (a0:x_e):Nat→y55:=lp2 (x_bo.l0b K a0)
def x_bo.b (K:Nat) (a0:x_e) (L0:y55):Option y17:=
 (x_g4 a0).bind fun v1=>cond (!v1.1) (some (([],[],[],0,[],[]),()))<|ck (a0.1=a0.1)<|ck (0≤a0.1)<|ck (a0.1.toNat*41≤x_di)<|L0 0 []
def x_bo (K:Nat) (a0:x_e):Option y17:=x_bo.b K a0 (x_bo.l0 K a0 K)
def x_hc (K:Nat) (a0:x_e):Option y18:=
 (x_g4 a0).bind fun v1=>cond (!v1.1) (some ((0,0,(0,0,[]),[],[],[],0,[],[]),()))<|(x_bo K a0).bind fun v2=>some ((0,(-1),(0,0,[]),v2.1),())
def x_gy.l0b (K:Nat) (a0:Int) (L0:y65) (q0:y0) (q1:Int):Option y29:=
 it (q1<a0) (gr 9 q0 [1]<|L0 (q0++[1]) (i6 (q1+1)))<|some (q0,())
def x_gy.l0 (K:Nat) (a0:Int):Nat→y65:=lp2 (x_gy.l0b K a0)
def x_gy.b (K:Nat) (a0:Int) (L0:y65):Option y29:=
 L0 [] 0
def x_gy (K:Nat) (a0:Int):Option y29:=x_gy.b K a0 (x_gy.l0 K a0 K)
def x_pm (a0:TLog):Option y27:=
 it ((a0.2.2.length:Int)>0) (ix (i6 ((a0.2.2.length:Int)-1)) a0.2.2<|some (i6 (a0.1+(a0.2.2.length:Int)),(a0.2.2.getD ((i6 ((a0.2.2.length:Int)-1)).toNat) x_at).1,()))<|some (a0.1,a0.2.1,())
def x_a3.l0b (K:Nat) (a0:y2) (L0:y28) (q0:Int):Option y11:=
 it (q0<((a0.size:Nat):Int)) (ck (0≤q0)<|ck (q0<((a0.size:Nat):Int))<|it ((x_ei a0 q0)<97) (it ((x_ei a0 q0)<48) (nit ((x_ei a0 q0)=32) (some (false,()))<|L0 (i6 (q0+1)))<|it ((x_ei a0 q0)>57) (nit ((x_ei a0 q0)=32) (some (false,()))<|L0 (i6 (q0+1)))<|L0 (i6 (q0+1)))<|it ((x_ei a0 q0)>122) (it ((x_ei a0 q0)<48) (nit ((x_ei a0 q0)=32) (some (false,()))<|L0 (i6 (q0+1)))<|it ((x_ei a0 q0)>57) (nit ((x_ei a0 q0)=32) (some (false,()))<|L0 (i6 (q0+1)))<|L0 (i6 (q0+1)))<|L0 (i6 (q0+1)))<|some (decide (((a0.size:Nat):Int)≤30),())
def x_a3.l0 (K:Nat) (a0:y2):Nat→y28:=lp1 (x_a3.l0b K a0)
def x_a3.b (K:Nat) (a0:y2) (L0:y28):Option y11:=
 L0 0
def x_a3 (K:Nat) (a0:y2):Option y11:=x_a3.b K a0 (x_a3.l0 K a0 K)
def x_ks (K:Nat) (a0:TCmd):Option y11:=
 it (a0.1=(-1)) (some (qCmd a0 ((-1),0,0,0,0,0,ByteArray.empty,ByteArray.empty),()))<|(x_6 a0.1 0 3).bind fun v1=>cond v1.1 ((x_6 a0.2.1 1 100000).bind fun v2=>cond v2.1 ((x_6 a0.2.2.1 1 10).bind fun v3=>cond v3.1 ((x_6 a0.2.2.2.1 0 100000).bind fun v4=>cond v4.1 ((x_6 a0.2.2.2.2.1 0 100000).bind fun v5=>cond v5.1 ((x_6 a0.2.2.2.2.2.1 0 100000).bind fun v6=>cond v6.1 ((x_a3 K a0.2.2.2.2.2.2.1).bind fun v7=>cond v7.1 ((x_a3 K a0.2.2.2.2.2.2.2).bind fun v8=>some (v8.1,()))<|some (false,()))<|some (false,()))<|some (false,()))<|some (false,()))<|some (false,()))<|some (false,()))<|some (false,())
def x_d1.l0b (K:Nat) (a0:TLog) (L0:y56) (q0:Int) (q1:Int):Option y11:=
 it (q1<a0.2.2.length) (ix q1 a0.2.2<|(x_6 (a0.2.2.getD q1.toNat x_at).1 q0 300).bind fun v3=>cond (!v3.1) (some (false,()))<|(x_ks K (a0.2.2.getD q1.toNat x_at).2).bind fun v4=>cond (!v4.1) (some (false,()))<|L0 (a0.2.2.getD q1.toNat x_at).1 (i6 (q1+1)))<|some (true,())
def x_d1.l0 (K:Nat) (a0:TLog):Nat→y56:=lp2 (x_d1.l0b K a0)
def x_d1.b (K:Nat) (a0:TLog) (L0:y56):Option y11:=
 (x_6 a0.1 0 300).bind fun v1=>cond (!v1.1) (some (false,()))<|(x_6 a0.2.1 0 300).bind fun v2=>cond (!v2.1) (some (false,()))<|it (a0.2.2.length>(i6 (300-a0.1))) (some (false,()))<|L0 a0.2.1 0
def x_d1 (K:Nat) (a0:TLog):Option y11:=x_d1.b K a0 (x_d1.l0 K a0 K)
def x_hv (a0:Int) (a1:Int) (a2:Int):Option (Bool×Int×Int×Unit):=
 (x_6 a0 a1 a2).bind fun v1=>some (!v1.1,a1,a2,())
def x_i.l0b (K:Nat) (a0:y0) (a1:Int) (a2:Int) (L0:y92) (q0:Int) (q1:Int) (q2:Int):Option y57:=
 it (q0<a0.length) (ix q0 a0<|(x_hv (a0.getD q0.toNat 0) q1 q2).bind fun v1=>cond v1.1 (some (q0,v1.2.1,v1.2.2.1,()))<|L0 (i6 (q0+1)) v1.2.1 v1.2.2.1)<|some ((-1),q1,q2,())
def x_i.l0 (K:Nat) (a0:y0) (a1:Int) (a2:Int):Nat→y92:=lp3 (x_i.l0b K a0 a1 a2)
def x_i.b (K:Nat) (a0:y0) (a1:Int) (a2:Int) (L0:y92):Option y57:=
 L0 0 a1 a2
def x_i (K:Nat) (a0:y0) (a1:Int) (a2:Int):Option y57:=x_i.b K a0 a1 a2 (x_i.l0 K a0 a1 a2 K)
def x_cp (K:Nat) (a0:y0) (a1:Int) (a2:Int):Option (Bool×Int×Int×Unit):=
 (x_i K a0 a1 a2).bind fun v1=>some (decide (v1.1≥0),v1.2.1,v1.2.2.1,())
def x_el (K:Nat) (a0:y0) (a1:Int) (a2:Int):Option y11:=
 (x_cp K a0 a1 a2).bind fun v1=>some (!v1.1,())
def x_b5.l0b (K:Nat) (a0:x_am) (a1:Int) (L0:y28) (q0:Int):Option y11:=
 it (q0<a0.2.2.2.2.length) (ix q0 a0.2.2.2.2<|nit ((a0.2.2.2.2.getD q0.toNat x_io).1=(i6 ((i6 ((i6 (a0.2.2.2.1-(a0.2.2.2.2.length:Int)))+1))+q0))) (some (false,()))<|(x_6 (a0.2.2.2.2.getD q0.toNat x_io).2 0 100000).bind fun v5=>cond (!v5.1) (some (false,()))<|it (q0>0) (ix (i6 (q0-1)) a0.2.2.2.2<|it ((a0.2.2.2.2.getD ((i6 (q0-1)).toNat) x_io).2≥(a0.2.2.2.2.getD q0.toNat x_io).2) (some (false,()))<|L0 (i6 (q0+1)))<|L0 (i6 (q0+1)))<|some (true,())
def x_b5.l0 (K:Nat) (a0:x_am) (a1:Int):Nat→y28:=lp1 (x_b5.l0b K a0 a1)
def x_b5.b (K:Nat) (a0:x_am) (a1:Int) (L0:y28):Option y11:=
 (x_6 a0.1 0 3).bind fun v1=>cond (!v1.1) (some (false,()))<|(x_6 a0.2.1 0 3).bind fun v2=>cond (!v2.1) (some (false,()))<|(x_6 a0.2.2.1 0 100000).bind fun v3=>cond (!v3.1) (some (false,()))<|(x_6 a0.2.2.2.1 (-1) 100000).bind fun v4=>cond (!v4.1) (some (false,()))<|it (a0.2.2.2.2.length>a1) (some (false,()))<|cond (!((decide (a0.2.2.2.1=(-1))) == (decide ((a0.2.2.2.2.length:Int)=0)))) (some (false,()))<|L0 0
def x_b5 (K:Nat) (a0:x_am) (a1:Int):Option y11:=x_b5.b K a0 a1 (x_b5.l0 K a0 a1 K)
def x_d8.l0b (K:Nat) (a0:TRow) (L0:y28) (q0:Int):Option y11:=
 it (q0<a0.2.2.length) (ix q0 a0.2.2<|(x_6 (a0.2.2.getD q0.toNat x_cb).1 a0.1 (i6 (a0.2.1-1))).bind fun v2=>cond (!v2.1) (some (false,()))<|it (q0>0) (ix (i6 (q0-1)) a0.2.2<|it ((a0.2.2.getD ((i6 (q0-1)).toNat) x_cb).1≥(a0.2.2.getD q0.toNat x_cb).1) (some (false,()))<|(x_a3 K (a0.2.2.getD q0.toNat x_cb).2.1).bind fun v3=>cond (!v3.1) (some (false,()))<|(x_a3 K (a0.2.2.getD q0.toNat x_cb).2.2.1).bind fun v4=>cond (!v4.1) (some (false,()))<|(x_6 (a0.2.2.getD q0.toNat x_cb).2.2.2.1 0 3).bind fun v5=>cond (!v5.1) (some (false,()))<|(x_6 (a0.2.2.getD q0.toNat x_cb).2.2.2.2 0 100000).bind fun v6=>cond (!v6.1) (some (false,()))<|L0 (i6 (q0+1)))<|(x_a3 K (a0.2.2.getD q0.toNat x_cb).2.1).bind fun v7=>cond (!v7.1) (some (false,()))<|(x_a3 K (a0.2.2.getD q0.toNat x_cb).2.2.1).bind fun v8=>cond (!v8.1) (some (false,()))<|(x_6 (a0.2.2.getD q0.toNat x_cb).2.2.2.1 0 3).bind fun v9=>cond (!v9.1) (some (false,()))<|(x_6 (a0.2.2.getD q0.toNat x_cb).2.2.2.2 0 100000).bind fun v10=>cond (!v10.1) (some (false,()))<|L0 (i6 (q0+1)))<|some (true,())
def x_d8.l0 (K:Nat) (a0:TRow):Nat→y28:=lp1 (x_d8.l0b K a0)
def x_d8.b (K:Nat) (a0:TRow) (L0:y28):Option y11:=
 (x_6 a0.1 0 a0.2.1).bind fun v1=>cond (!v1.1) (some (false,()))<|it (a0.2.1>100000) (some (false,()))<|it ((a0.2.2.length:Int)>80) (some (false,()))<|L0 0
def x_d8 (K:Nat) (a0:TRow):Option y11:=x_d8.b K a0 (x_d8.l0 K a0 K)
def x_ly (K:Nat) (a0:TRow):Option y11:=
 (x_d8 K a0).bind fun v1=>some (!v1.1,())
def x_s.l0b (K:Nat) (a0:y3) (L0:y30) (q0:Int):Option y6:=
 it (q0<a0.length) (ix q0 a0<|(x_ly K (a0.getD q0.toNat zRow)).bind fun v1=>cond v1.1 (some (q0,()))<|L0 (i6 (q0+1)))<|some ((-1),())
def x_s.l0 (K:Nat) (a0:y3):Nat→y30:=lp1 (x_s.l0b K a0)
def x_s.b (K:Nat) (a0:y3) (L0:y30):Option y6:=
 L0 0
def x_s (K:Nat) (a0:y3):Option y6:=x_s.b K a0 (x_s.l0 K a0 K)
def x_bz (K:Nat) (a0:y3):Option y11:=
 (x_s K a0).bind fun v1=>some (decide (v1.1≥0),())
def x_nc (a0:Int):Option y11:=
 (x_6 a0 0 3).bind fun v1=>some (v1.1,())
def x_by.l0b (K:Nat) (a0:x_ag) (a1:Int) (L0:y28) (q0:Int):Option y11:=
 it (q0<a0.2.1.length) (ix q0 a0.2.1<|(x_nc (a0.2.1.getD q0.toNat 0)).bind fun v1=>cond (!v1.1) (some (false,()))<|it (q0>0) (ix (i6 (q0-1)) a0.2.1<|it ((a0.2.1.getD ((i6 (q0-1)).toNat) 0)≥(a0.2.1.getD q0.toNat 0)) (some (false,()))<|L0 (i6 (q0+1)))<|L0 (i6 (q0+1)))<|(x_6 a0.1 0 100000).bind fun v2=>cond v2.1 (it ((a0.2.2.1.length:Int)=a0.2.1.length) ((x_el K a0.2.2.1 0 100000).bind fun v3=>cond v3.1 (it (a0.2.2.2.length=a1) ((x_el K a0.2.2.2 0 100000).bind fun v4=>some (v4.1,()))<|some (false,()))<|some (false,()))<|some (false,()))<|some (false,())
def x_by.l0 (K:Nat) (a0:x_ag) (a1:Int):Nat→y28:=lp1 (x_by.l0b K a0 a1)
def x_by.b (K:Nat) (a0:x_ag) (a1:Int) (L0:y28):Option y11:=
 L0 0
def x_by (K:Nat) (a0:x_ag) (a1:Int):Option y11:=x_by.b K a0 a1 (x_by.l0 K a0 a1 K)
def x_l4 (K:Nat) (a0:x_ag) (a1:x_e):Option (Bool×x_e×Unit):=
 (x_by K a0 a1.1).bind fun v1=>some (!v1.1,a1,())
def x_u.l0b (K:Nat) (a0:y12) (a1:x_e) (L0:y87) (q0:Int) (q1:x_e):Option y40:=
 it (q0<a0.length) (ix q0 a0<|(x_l4 K (a0.getD q0.toNat x_co) q1).bind fun v1=>cond v1.1 (some (q0,v1.2.1,()))<|L0 (i6 (q0+1)) v1.2.1)<|some ((-1),q1,())
def x_u.l0 (K:Nat) (a0:y12) (a1:x_e):Nat→y87:=lp2 (x_u.l0b K a0 a1)
def x_u.b (K:Nat) (a0:y12) (a1:x_e) (L0:y87):Option y40:=
 L0 0 a1
def x_u (K:Nat) (a0:y12) (a1:x_e):Option y40:=x_u.b K a0 a1 (x_u.l0 K a0 a1 K)
def x_b4 (K:Nat) (a0:y12) (a1:x_e):Option (Bool×x_e×Unit):=
 (x_u K a0 a1).bind fun v1=>some (decide (v1.1≥0),v1.2.1,())
def x_jw (K:Nat) (a0:x_ct):Option y11:=
 (x_6 a0.1 0 9).bind fun v1=>cond v1.1 ((x_6 a0.2.1 (-1) 100000).bind fun v2=>cond v2.1 ((x_a3 K a0.2.2.1).bind fun v3=>cond v3.1 ((x_a3 K a0.2.2.2).bind fun v4=>some (v4.1,()))<|some (false,()))<|some (false,()))<|some (false,())
def x_l2 (K:Nat) (a0:x_ct):Option y11:=
 (x_jw K a0).bind fun v1=>some (!v1.1,())
def x_v.l0b (K:Nat) (a0:y19) (L0:y30) (q0:Int):Option y6:=
 it (q0<a0.length) (ix q0 a0<|(x_l2 K (a0.getD q0.toNat x_cc)).bind fun v1=>cond v1.1 (some (q0,()))<|L0 (i6 (q0+1)))<|some ((-1),())
def x_v.l0 (K:Nat) (a0:y19):Nat→y30:=lp1 (x_v.l0b K a0)
def x_v.b (K:Nat) (a0:y19) (L0:y30):Option y6:=
 L0 0
def x_v (K:Nat) (a0:y19):Option y6:=x_v.b K a0 (x_v.l0 K a0 K)
def x_b0 (K:Nat) (a0:y19):Option y11:=
 (x_v K a0).bind fun v1=>some (decide (v1.1≥0),())
def x_cs.l0b (K:Nat) (a0:x_e) (a1:x_as) (L0:y28) (q0:Int):Option y11:=
 it (q0<a1.2.1.length) (ix q0 a1.2.1<|(x_b5 K (a1.2.1.getD q0.toNat x_bc) a0.2.1).bind fun v4=>cond (!v4.1) (some (false,()))<|it ((a1.2.1.getD q0.toNat x_bc).1≥a0.1) (some (false,()))<|it (q0>0) (ix (i6 (q0-1)) a1.2.1<|it ((a1.2.1.getD ((i6 (q0-1)).toNat) x_bc).1>(a1.2.1.getD q0.toNat x_bc).1) (some (false,()))<|ix (i6 (q0-1)) a1.2.1<|it ((a1.2.1.getD ((i6 (q0-1)).toNat) x_bc).1=(a1.2.1.getD q0.toNat x_bc).1) (ix (i6 (q0-1)) a1.2.1<|it ((a1.2.1.getD ((i6 (q0-1)).toNat) x_bc).2.1≥(a1.2.1.getD q0.toNat x_bc).2.1) (some (false,()))<|L0 (i6 (q0+1)))<|L0 (i6 (q0+1)))<|L0 (i6 (q0+1)))<|(x_bz K a1.1).bind fun v5=>(x_b4 K a1.2.2.1 a0).bind fun v6=>(x_b0 K a1.2.2.2.2.2).bind fun v7=>cond (!v5.1) (cond (!v6.1) (some (!v7.1,()))<|some (false,()))<|some (false,())
def x_cs.l0 (K:Nat) (a0:x_e) (a1:x_as):Nat→y28:=lp1 (x_cs.l0b K a0 a1)
def x_cs.b (K:Nat) (a0:x_e) (a1:x_as) (L0:y28):Option y11:=
 (x_g4 a0).bind fun v1=>cond (!v1.1) (some (false,()))<|nit (a1.1.length=a0.1) (some (false,()))<|nit ((a1.2.2.1.length:Int)=2) (some (false,()))<|(x_6 a1.2.2.2.1 0 100000).bind fun v2=>cond (!v2.1) (some (false,()))<|nit ((a1.2.2.2.2.1.length:Int)=4) (some (false,()))<|(x_el K a1.2.2.2.2.1 0 100000).bind fun v3=>cond (!v3.1) (some (false,()))<|nit ((a1.2.2.2.2.2.length:Int)=4) (some (false,()))<|L0 0
def x_cs (K:Nat) (a0:x_e) (a1:x_as):Option y11:=x_cs.b K a0 a1 (x_cs.l0 K a0 a1 K)
def x_iw (K:Nat) (a0:x_e) (a1:x_eh):Option y11:=
 (x_pm a1.2.2.1).bind fun v1=>(x_6 a1.1 0 300).bind fun v2=>cond v2.1 ((x_6 a1.2.1 (-1) 4).bind fun v3=>cond v3.1 ((x_d1 K a1.2.2.1).bind fun v4=>cond v4.1 (it (v1.2.1≤a1.1) ((x_cs K a0 a1.2.2.2).bind fun v5=>some (v5.1,()))<|some (false,()))<|some (false,()))<|some (false,()))<|some (false,())
def i_last (a0:TLog):Option y6:=
 some (i6 (a0.1+(a0.2.2.length:Int)),())
def x_oz (a0:x_n4):Option y11:=
 it ((a0.1.length:Int)≤80000) ((x_6 a0.2 0 (a0.1.length:Int)).bind fun v1=>some (v1.1,()))<|some (false,())
def x_oj (K:Nat) (a0:x_cf) (a1:TRpc):Option (Bool×TRpc×Unit):=
 (x_6 a0.1 0 a1.2.2.2.1).bind fun v1=>cond (!v1.1) (some (true,a1,()))<|(x_ks K a0.2).bind fun v2=>some (!v2.1,a1,())
def x_x.l0b (K:Nat) (a0:y13) (a1:TRpc) (L0:y77) (q0:Int) (q1:TRpc):Option y31:=
 it (q0<a0.length) (ix q0 a0<|(x_oj K (a0.getD q0.toNat x_at) q1).bind fun v1=>cond v1.1 (some (q0,v1.2.1,()))<|L0 (i6 (q0+1)) v1.2.1)<|some ((-1),q1,())
def x_x.l0 (K:Nat) (a0:y13) (a1:TRpc):Nat→y77:=lp2 (x_x.l0b K a0 a1)
def x_x.b (K:Nat) (a0:y13) (a1:TRpc) (L0:y77):Option y31:=
 L0 0 a1
def x_x (K:Nat) (a0:y13) (a1:TRpc):Option y31:=x_x.b K a0 a1 (x_x.l0 K a0 a1 K)
def x_cj (K:Nat) (a0:y13) (a1:TRpc):Option (Bool×TRpc×Unit):=
 (x_x K a0 a1).bind fun v1=>some (decide (v1.1≥0),v1.2.1,())
def x_th (K:Nat) (a0:TRpc) (a1:Int):Option y11:=
 (x_6 a1 1 5).bind fun v1=>cond (!v1.1) (some (false,()))<|(x_6 a0.1 1 5).bind fun v2=>cond (!v2.1) (some (false,()))<|(x_6 a0.2.1 0 (i6 (a1-1))).bind fun v3=>cond (!v3.1) (some (false,()))<|(x_6 a0.2.2.1 0 (i6 (a1-1))).bind fun v4=>cond (!v4.1) (some (false,()))<|it (a0.2.1=a0.2.2.1) (some (false,()))<|(x_6 a0.2.2.2.1 0 300).bind fun v5=>cond (!v5.1) (some (false,()))<|(x_6 a0.2.2.2.2.1 0 300).bind fun v6=>cond (!v6.1) (some (false,()))<|(x_6 a0.2.2.2.2.2.1 0 300).bind fun v7=>cond (!v7.1) (some (false,()))<|(x_6 a0.2.2.2.2.2.2.1 0 300).bind fun v8=>cond (!v8.1) (some (false,()))<|it ((a0.2.2.2.2.2.2.2.1.length:Int)>40) (some (false,()))<|it (((a0.2.2.2.2.2.2.2.2.2.size:Nat):Int)>30000) (some (false,()))<|(x_cj K a0.2.2.2.2.2.2.2.1 a0).bind fun v9=>some (!v9.1,())
def x_mo (K:Nat) (a0:TRpc) (a1:Int) (a2:x_cg):Option (Bool×Int×x_cg×Unit):=
 (x_th K a0 a1).bind fun v1=>cond (!v1.1) (some (true,a1,a2,()))<|some (!(decide (a0.2.1=a2.1)),a1,a2,())
def x_t.l0b (K:Nat) (a0:y4) (a1:Int) (a2:x_cg) (L0:y106) (q0:Int) (q1:Int) (q2:x_cg):Option y78:=
 it (q0<a0.length) (ix q0 a0<|(x_mo K (a0.getD q0.toNat zRpc) q1 q2).bind fun v1=>cond v1.1 (some (q0,v1.2.1,v1.2.2.1,()))<|L0 (i6 (q0+1)) v1.2.1 v1.2.2.1)<|some ((-1),q1,q2,())
def x_t.l0 (K:Nat) (a0:y4) (a1:Int) (a2:x_cg):Nat→y106:=lp3 (x_t.l0b K a0 a1 a2)
def x_t.b (K:Nat) (a0:y4) (a1:Int) (a2:x_cg) (L0:y106):Option y78:=
 L0 0 a1 a2
def x_t (K:Nat) (a0:y4) (a1:Int) (a2:x_cg):Option y78:=x_t.b K a0 a1 a2 (x_t.l0 K a0 a1 a2 K)
def x_b7 (K:Nat) (a0:y4) (a1:Int) (a2:x_cg):Option (Bool×Int×x_cg×Unit):=
 (x_t K a0 a1 a2).bind fun v1=>some (decide (v1.1≥0),v1.2.1,v1.2.2.1,())
def x_kd (K:Nat) (a0:x_e) (a1:x_cg) (a2:Int):Option y11:=
 (x_6 a2 1 5).bind fun v1=>cond (!v1.1) (some (false,()))<|(x_6 a1.1 0 (i6 (a2-1))).bind fun v2=>cond (!v2.1) (some (false,()))<|(x_iw K a0 a1.2.1).bind fun v3=>cond (!v3.1) (some (false,()))<|it (a1.2.1.2.1≥a2) (some (false,()))<|(x_6 a1.2.2.1 0 2).bind fun v4=>cond (!v4.1) (some (false,()))<|(i_last a1.2.1.2.2.1).bind fun v5=>nit (a1.2.2.2.1.length=a2) (some (false,()))<|nit (a1.2.2.2.2.1.length=a2) (some (false,()))<|(x_el K a1.2.2.2.2.1 1 (i6 (v5.1+1))).bind fun v6=>cond (!v6.1) (some (false,()))<|nit (a1.2.2.2.2.2.1.length=a2) (some (false,()))<|(x_el K a1.2.2.2.2.2.1 0 v5.1).bind fun v7=>cond (!v7.1) (some (false,()))<|(x_6 a1.2.2.2.2.2.2.1 a1.2.1.2.2.1.1 v5.1).bind fun v8=>cond (!v8.1) (some (false,()))<|(x_cs K a0 a1.2.2.2.2.2.2.2.1).bind fun v9=>cond (!v9.1) (some (false,()))<|(x_oz a1.2.2.2.2.2.2.2.2.1).bind fun v10=>cond (!v10.1) (some (false,()))<|it ((a1.2.2.2.2.2.2.2.2.2.length:Int)>40) (some (false,()))<|(x_b7 K a1.2.2.2.2.2.2.2.2.2 a2 a1).bind fun v11=>some (!v11.1,())
def x_li (K:Nat) (a0:x_e) (a1:Int) (a2:Int):Option y41:=
 (x_6 a2 1 5).bind fun v1=>cond (!v1.1) (some ((0,(0,0,(0,0,[]),[],[],[],0,[],[]),0,[],[],[],0,([],[],[],0,[],[]),([],0),[]),false,()))<|(x_hc K a0).bind fun v2=>ck (a2=a2)<|ck (0≤a2)<|ck (a2.toNat*2≤x_di)<|(x_gy K a2).bind fun v3=>ck (a2=a2)<|ck (0≤a2)<|ck (a2.toNat*9≤x_di)<|(x_bo K a0).bind fun v4=>(x_kd K a0 (a1,v2.1,0,List.replicate a2.toNat false,v3.1,List.replicate a2.toNat 0,0,v4.1,([],0),[]) a2).bind fun v5=>cond (!v5.1) (some ((0,(0,0,(0,0,[]),[],[],[],0,[],[]),0,[],[],[],0,([],[],[],0,[],[]),([],0),[]),false,()))<|some ((a1,v2.1,0,List.replicate a2.toNat false,v3.1,List.replicate a2.toNat 0,0,v4.1,([],0),[]),true,())
def x_bb (a0:Int) (a1:Int) (a2:Int):Option y11:=
 it (a0≥a1) (some (decide (a0≤a2),()))<|some (false,())
def x_e6 (a0:x_e):Option y11:=
 (x_bb a0.1 1 4).bind fun v1=>cond v1.1 ((x_bb a0.2.1 1 5).bind fun v2=>cond v2.1 ((x_bb a0.2.2.1 1 8).bind fun v3=>cond v3.1 ((x_bb a0.2.2.2 0 60).bind fun v4=>some (v4.1,()))<|some (false,()))<|some (false,()))<|some (false,())
def x_hr (a0:Int):Option y21:=
 (x_bb a0 1 4).bind fun v1=>cond (!v1.1) (some ((0,[],[],[]),()))<|ck (a0=a0)<|ck (0≤a0)<|ck (a0.toNat*9≤x_di)<|some ((0,[],[],List.replicate a0.toNat 0),())
def x_br.l0b (K:Nat) (a0:x_e) (L0:y55) (q0:Int) (q1:y12):Option y17:=
 it (q0<2) ((x_hr a0.1).bind fun v2=>gr 81 q1 [v2.1]<|L0 (i6 (q0+1)) (q1++[v2.1]))<|some ((List.replicate a0.1.toNat zRow,[],q1,0,List.replicate 4 0,List.replicate 4 x_cc),())
def x_br.l0 (K:Nat) (a0:x_e):Nat→y55:=lp2 (x_br.l0b K a0)
def x_br.b (K:Nat) (a0:x_e) (L0:y55):Option y17:=
 (x_e6 a0).bind fun v1=>cond (!v1.1) (some (([],[],[],0,[],[]),()))<|ck (a0.1=a0.1)<|ck (0≤a0.1)<|ck (a0.1.toNat*41≤x_di)<|L0 0 []
def x_br (K:Nat) (a0:x_e):Option y17:=x_br.b K a0 (x_br.l0 K a0 K)
def x_f5 (K:Nat) (a0:x_e):Option y18:=
 (x_e6 a0).bind fun v1=>cond (!v1.1) (some ((0,0,(0,0,[]),[],[],[],0,[],[]),()))<|(x_br K a0).bind fun v2=>some ((0,(-1),(0,0,[]),v2.1),())
def x_bt.l0b (K:Nat) (a0:Int) (a1:Int) (L0:y65) (q0:y0) (q1:Int):Option y29:=
 it (q1<a0) (gr 9 q0 [a1]<|L0 (q0++[a1]) (i6 (q1+1)))<|some (q0,())
def x_bt.l0 (K:Nat) (a0:Int) (a1:Int):Nat→y65:=lp2 (x_bt.l0b K a0 a1)
def x_bt.b (K:Nat) (a0:Int) (a1:Int) (L0:y65):Option y29:=
 L0 [] 0
def x_bt (K:Nat) (a0:Int) (a1:Int):Option y29:=x_bt.b K a0 a1 (x_bt.l0 K a0 a1 K)
def x_dk (a0:TLog):Option y27:=
 it ((a0.2.2.length:Int)=0) (some (a0.1,a0.2.1,()))<|ix (i6 ((a0.2.2.length:Int)-1)) a0.2.2<|some (i6 (a0.1+(a0.2.2.length:Int)),(a0.2.2.getD ((i6 ((a0.2.2.length:Int)-1)).toNat) x_at).1,())
def x_cm.l0b (K:Nat) (a0:y2) (L0:y28) (q0:Int):Option y11:=
 it (q0<((a0.size:Nat):Int)) (ck (0≤q0)<|ck (q0<((a0.size:Nat):Int))<|it ((x_ei a0 q0)≥97) (it ((x_ei a0 q0)≤122) (L0 (i6 (q0+1)))<|it ((x_ei a0 q0)≥48) (it ((x_ei a0 q0)≤57) (L0 (i6 (q0+1)))<|nit ((x_ei a0 q0)=32) (some (false,()))<|L0 (i6 (q0+1)))<|nit ((x_ei a0 q0)=32) (some (false,()))<|L0 (i6 (q0+1)))<|it ((x_ei a0 q0)≥48) (it ((x_ei a0 q0)≤57) (L0 (i6 (q0+1)))<|nit ((x_ei a0 q0)=32) (some (false,()))<|L0 (i6 (q0+1)))<|nit ((x_ei a0 q0)=32) (some (false,()))<|L0 (i6 (q0+1)))<|some (decide (((a0.size:Nat):Int)≤30),())
def x_cm.l0 (K:Nat) (a0:y2):Nat→y28:=lp1 (x_cm.l0b K a0)
def x_cm.b (K:Nat) (a0:y2) (L0:y28):Option y11:=
 L0 0
def x_cm (K:Nat) (a0:y2):Option y11:=x_cm.b K a0 (x_cm.l0 K a0 K)
def x_km (K:Nat) (a0:TCmd):Option y11:=
 it (a0.1=(-1)) (some (qCmd a0 ((-1),0,0,0,0,0,ByteArray.empty,ByteArray.empty),()))<|(x_bb a0.1 0 3).bind fun v1=>cond v1.1 ((x_bb a0.2.1 1 100000).bind fun v2=>cond v2.1 ((x_bb a0.2.2.1 1 10).bind fun v3=>cond v3.1 ((x_bb a0.2.2.2.1 0 100000).bind fun v4=>cond v4.1 ((x_bb a0.2.2.2.2.1 0 100000).bind fun v5=>cond v5.1 ((x_bb a0.2.2.2.2.2.1 0 100000).bind fun v6=>cond v6.1 ((x_cm K a0.2.2.2.2.2.2.1).bind fun v7=>cond v7.1 ((x_cm K a0.2.2.2.2.2.2.2).bind fun v8=>some (v8.1,()))<|some (false,()))<|some (false,()))<|some (false,()))<|some (false,()))<|some (false,()))<|some (false,()))<|some (false,())
def x_d3.l0b (K:Nat) (a0:TLog) (L0:y56) (q0:Int) (q1:Int):Option y11:=
 it (q1<a0.2.2.length) (ix q1 a0.2.2<|(x_bb (a0.2.2.getD q1.toNat x_at).1 q0 300).bind fun v3=>cond (!v3.1) (some (false,()))<|ix q1 a0.2.2<|(x_km K (a0.2.2.getD q1.toNat x_at).2).bind fun v4=>cond (!v4.1) (some (false,()))<|ix q1 a0.2.2<|L0 (a0.2.2.getD q1.toNat x_at).1 (i6 (q1+1)))<|some (true,())
def x_d3.l0 (K:Nat) (a0:TLog):Nat→y56:=lp2 (x_d3.l0b K a0)
def x_d3.b (K:Nat) (a0:TLog) (L0:y56):Option y11:=
 (x_bb a0.1 0 300).bind fun v1=>cond (!v1.1) (some (false,()))<|(x_bb a0.2.1 0 300).bind fun v2=>cond (!v2.1) (some (false,()))<|it (a0.2.2.length>(i6 (300-a0.1))) (some (false,()))<|L0 a0.2.1 0
def x_d3 (K:Nat) (a0:TLog):Option y11:=x_d3.b K a0 (x_d3.l0 K a0 K)
def x_be.j0 (K:Nat) (a0:x_am):Option y11:=
 (x_bb a0.1 0 3).bind fun v2=>cond v2.1 ((x_bb a0.2.1 0 3).bind fun v3=>cond v3.1 ((x_bb a0.2.2.1 0 100000).bind fun v4=>cond v4.1 ((x_bb a0.2.2.2.1 (-1) 100000).bind fun v5=>some (v5.1,()))<|some (false,()))<|some (false,()))<|some (false,())
def x_be.l0b (K:Nat) (a0:x_am) (a1:Int) (L0:y28) (q0:Int):Option y11:=
 it (q0<a0.2.2.2.2.length) (ix q0 a0.2.2.2.2<|(x_bb (a0.2.2.2.2.getD q0.toNat x_io).2 0 100000).bind fun v1=>cond (!v1.1) (some (false,()))<|ix q0 a0.2.2.2.2<|nit ((a0.2.2.2.2.getD q0.toNat x_io).1=(i6 (a0.2.2.2.1-(i6 ((i6 ((a0.2.2.2.2.length:Int)-1))-q0))))) (some (false,()))<|it (q0>0) (ix (i6 (q0-1)) a0.2.2.2.2<|ix q0 a0.2.2.2.2<|it ((a0.2.2.2.2.getD ((i6 (q0-1)).toNat) x_io).2≥(a0.2.2.2.2.getD q0.toNat x_io).2) (some (false,()))<|L0 (i6 (q0+1)))<|L0 (i6 (q0+1)))<|it (a0.2.2.2.2.length>a1) (some (false,()))<|it (a0.2.2.2.2.length>(i6 (a0.2.2.2.1+1))) (some (false,()))<|it (a0.2.2.2.1≥0) (it ((a0.2.2.2.2.length:Int)=0) (some (false,()))<|x_be.j0 K a0)<|x_be.j0 K a0
def x_be.l0 (K:Nat) (a0:x_am) (a1:Int):Nat→y28:=lp1 (x_be.l0b K a0 a1)
def x_be.b (K:Nat) (a0:x_am) (a1:Int) (L0:y28):Option y11:=
 L0 0
def x_be (K:Nat) (a0:x_am) (a1:Int):Option y11:=x_be.b K a0 a1 (x_be.l0 K a0 a1 K)
def x_bg.l0b (K:Nat) (a0:x_e) (a1:y14) (L0:y28) (q0:Int):Option y11:=
 it (q0<a1.length) (ix q0 a1<|(x_be K (a1.getD q0.toNat x_bc) a0.2.1).bind fun v1=>cond (!v1.1) (some (false,()))<|it ((a1.getD q0.toNat x_bc).1≥a0.1) (some (false,()))<|it (q0>0) (ix (i6 (q0-1)) a1<|it ((a1.getD ((i6 (q0-1)).toNat) x_bc).1>(a1.getD q0.toNat x_bc).1) (some (false,()))<|ix (i6 (q0-1)) a1<|it ((a1.getD ((i6 (q0-1)).toNat) x_bc).1=(a1.getD q0.toNat x_bc).1) (ix (i6 (q0-1)) a1<|it ((a1.getD ((i6 (q0-1)).toNat) x_bc).2.1≥(a1.getD q0.toNat x_bc).2.1) (some (false,()))<|L0 (i6 (q0+1)))<|L0 (i6 (q0+1)))<|L0 (i6 (q0+1)))<|some (true,())
def x_bg.l0 (K:Nat) (a0:x_e) (a1:y14):Nat→y28:=lp1 (x_bg.l0b K a0 a1)
def x_bg.b (K:Nat) (a0:x_e) (a1:y14) (L0:y28):Option y11:=
 L0 0
def x_bg (K:Nat) (a0:x_e) (a1:y14):Option y11:=x_bg.b K a0 a1 (x_bg.l0 K a0 a1 K)
def x_oq (K:Nat) (a0:x_lg):Option y11:=
 (x_cm K a0.2.1).bind fun v1=>cond v1.1 ((x_cm K a0.2.2.1).bind fun v2=>cond v2.1 ((x_bb a0.2.2.2.1 0 3).bind fun v3=>cond v3.1 ((x_bb a0.2.2.2.2 0 100000).bind fun v4=>some (v4.1,()))<|some (false,()))<|some (false,()))<|some (false,())
def x_dj.l0b (K:Nat) (a0:TRow) (L0:y28) (q0:Int):Option y11:=
 it (q0<a0.2.2.length) (ix q0 a0.2.2<|(x_oq K (a0.2.2.getD q0.toNat x_cb)).bind fun v1=>cond (!v1.1) (some (false,()))<|ix q0 a0.2.2<|(x_bb (a0.2.2.getD q0.toNat x_cb).1 a0.1 (i6 (a0.2.1-1))).bind fun v2=>cond (!v2.1) (some (false,()))<|it (q0>0) (ix (i6 (q0-1)) a0.2.2<|ix q0 a0.2.2<|it ((a0.2.2.getD ((i6 (q0-1)).toNat) x_cb).1≥(a0.2.2.getD q0.toNat x_cb).1) (some (false,()))<|L0 (i6 (q0+1)))<|L0 (i6 (q0+1)))<|(x_bb a0.1 0 a0.2.1).bind fun v3=>cond v3.1 (it (a0.2.1≤100000) (some (decide ((a0.2.2.length:Int)≤80),()))<|some (false,()))<|some (false,())
def x_dj.l0 (K:Nat) (a0:TRow):Nat→y28:=lp1 (x_dj.l0b K a0)
def x_dj.b (K:Nat) (a0:TRow) (L0:y28):Option y11:=
 L0 0
def x_dj (K:Nat) (a0:TRow):Option y11:=x_dj.b K a0 (x_dj.l0 K a0 K)
def x_aj.l0b (K:Nat) (a0:x_ag) (a1:Int) (L0:y28) (L1:y28) (q0:Int):Option y11:=
 it (q0<a0.2.1.length) (ix q0 a0.2.1<|(x_bb (a0.2.1.getD q0.toNat 0) 0 3).bind fun v2=>cond (!v2.1) (some (false,()))<|it (q0>0) (ix (i6 (q0-1)) a0.2.1<|ix q0 a0.2.1<|it ((a0.2.1.getD ((i6 (q0-1)).toNat) 0)≥(a0.2.1.getD q0.toNat 0)) (some (false,()))<|ix q0 a0.2.2.1<|(x_bb (a0.2.2.1.getD q0.toNat 0) 0 100000).bind fun v3=>cond (!v3.1) (some (false,()))<|L0 (i6 (q0+1)))<|ix q0 a0.2.2.1<|(x_bb (a0.2.2.1.getD q0.toNat 0) 0 100000).bind fun v4=>cond (!v4.1) (some (false,()))<|L0 (i6 (q0+1)))<|L1 0
def x_aj.l1b (K:Nat) (a0:x_ag) (a1:Int) (L1:y28) (q1:Int):Option y11:=
 it (q1<a0.2.2.2.length) (ix q1 a0.2.2.2<|(x_bb (a0.2.2.2.getD q1.toNat 0) 0 100000).bind fun v5=>cond (!v5.1) (some (false,()))<|L1 (i6 (q1+1)))<|some (true,())
def x_aj.l1 (K:Nat) (a0:x_ag) (a1:Int):Nat→y28:=lp1 (x_aj.l1b K a0 a1)
def x_aj.l0 (K:Nat) (a0:x_ag) (a1:Int):Nat→y28:=lp1 fun r=>x_aj.l0b K a0 a1 r (x_aj.l1 K a0 a1 K)
def x_aj.b (K:Nat) (a0:x_ag) (a1:Int) (L0:y28):Option y11:=
 nit ((a0.2.2.1.length:Int)=a0.2.1.length) (some (false,()))<|nit (a0.2.2.2.length=a1) (some (false,()))<|(x_bb a0.1 0 100000).bind fun v1=>cond (!v1.1) (some (false,()))<|L0 0
def x_aj (K:Nat) (a0:x_ag) (a1:Int):Option y11:=x_aj.b K a0 a1 (x_aj.l0 K a0 a1 K)
def x_ji (K:Nat) (a0:x_ct):Option y11:=
 (x_bb a0.1 0 9).bind fun v1=>cond v1.1 ((x_bb a0.2.1 (-1) 100000).bind fun v2=>cond v2.1 ((x_cm K a0.2.2.1).bind fun v3=>cond v3.1 ((x_cm K a0.2.2.2).bind fun v4=>some (v4.1,()))<|some (false,()))<|some (false,()))<|some (false,())
def x_aa.l0b (K:Nat) (a0:x_e) (a1:x_as) (L0:y28) (L1:y28) (q0:Int):Option y11:=
 it (q0<a0.1) (ix q0 a1.1<|(x_dj K (a1.1.getD q0.toNat zRow)).bind fun v4=>cond (!v4.1) (some (false,()))<|L0 (i6 (q0+1)))<|L1 0
def x_aa.l1b (K:Nat) (a0:x_e) (a1:x_as) (L1:y28) (L2:y28) (q1:Int):Option y11:=
 it (q1<2) (ix q1 a1.2.2.1<|(x_aj K (a1.2.2.1.getD q1.toNat x_co) a0.1).bind fun v5=>cond (!v5.1) (some (false,()))<|L1 (i6 (q1+1)))<|L2 0
def x_aa.l2b (K:Nat) (a0:x_e) (a1:x_as) (L2:y28) (q2:Int):Option y11:=
 it (q2<4) (ix q2 a1.2.2.2.2.1<|(x_bb (a1.2.2.2.2.1.getD q2.toNat 0) 0 100000).bind fun v6=>cond (!v6.1) (some (false,()))<|ix q2 a1.2.2.2.2.2<|(x_ji K (a1.2.2.2.2.2.getD q2.toNat x_cc)).bind fun v7=>cond (!v7.1) (some (false,()))<|L2 (i6 (q2+1)))<|some (true,())
def x_aa.l2 (K:Nat) (a0:x_e) (a1:x_as):Nat→y28:=lp1 (x_aa.l2b K a0 a1)
def x_aa.l1 (K:Nat) (a0:x_e) (a1:x_as):Nat→y28:=lp1 fun r=>x_aa.l1b K a0 a1 r (x_aa.l2 K a0 a1 K)
def x_aa.l0 (K:Nat) (a0:x_e) (a1:x_as):Nat→y28:=lp1 fun r=>x_aa.l0b K a0 a1 r (x_aa.l1 K a0 a1 K)
def x_aa.b (K:Nat) (a0:x_e) (a1:x_as) (L0:y28):Option y11:=
 (x_e6 a0).bind fun v1=>cond (!v1.1) (some (false,()))<|nit (a1.1.length=a0.1) (some (false,()))<|nit ((a1.2.2.1.length:Int)=2) (some (false,()))<|nit ((a1.2.2.2.2.1.length:Int)=4) (some (false,()))<|nit ((a1.2.2.2.2.2.length:Int)=4) (some (false,()))<|(x_bb a1.2.2.2.1 0 100000).bind fun v2=>cond (!v2.1) (some (false,()))<|(x_bg K a0 a1.2.1).bind fun v3=>cond (!v3.1) (some (false,()))<|L0 0
def x_aa (K:Nat) (a0:x_e) (a1:x_as):Option y11:=x_aa.b K a0 a1 (x_aa.l0 K a0 a1 K)
def x_hx (K:Nat) (a0:x_e) (a1:x_eh):Option y11:=
 (x_dk a1.2.2.1).bind fun v1=>(x_bb a1.1 0 300).bind fun v2=>cond v2.1 ((x_bb a1.2.1 (-1) 4).bind fun v3=>cond v3.1 ((x_d3 K a1.2.2.1).bind fun v4=>cond v4.1 (it (v1.2.1≤a1.1) ((x_aa K a0 a1.2.2.2).bind fun v5=>some (v5.1,()))<|some (false,()))<|some (false,()))<|some (false,()))<|some (false,())
def x_cx.l0b (K:Nat) (a0:y13) (a1:Int) (L0:y28) (q0:Int):Option y11:=
 it (q0<a0.length) (ix q0 a0<|(x_bb (a0.getD q0.toNat x_at).1 0 a1).bind fun v1=>cond (!v1.1) (some (false,()))<|ix q0 a0<|(x_km K (a0.getD q0.toNat x_at).2).bind fun v2=>cond (!v2.1) (some (false,()))<|L0 (i6 (q0+1)))<|some (decide ((a0.length:Int)≤40),())
def x_cx.l0 (K:Nat) (a0:y13) (a1:Int):Nat→y28:=lp1 (x_cx.l0b K a0 a1)
def x_cx.b (K:Nat) (a0:y13) (a1:Int) (L0:y28):Option y11:=
 L0 0
def x_cx (K:Nat) (a0:y13) (a1:Int):Option y11:=x_cx.b K a0 a1 (x_cx.l0 K a0 a1 K)
def x_n0 (K:Nat) (a0:TRpc) (a1:Int):Option y11:=
 (x_bb a0.1 1 5).bind fun v1=>cond (!v1.1) (some (false,()))<|(x_bb a1 1 5).bind fun v2=>cond (!v2.1) (some (false,()))<|(x_bb a0.2.1 0 (i6 (a1-1))).bind fun v3=>cond (!v3.1) (some (false,()))<|(x_bb a0.2.2.1 0 (i6 (a1-1))).bind fun v4=>cond (!v4.1) (some (false,()))<|it (a0.2.1=a0.2.2.1) (some (false,()))<|(x_bb a0.2.2.2.1 0 300).bind fun v5=>cond v5.1 ((x_bb a0.2.2.2.2.1 0 300).bind fun v6=>cond v6.1 ((x_bb a0.2.2.2.2.2.1 0 300).bind fun v7=>cond v7.1 ((x_bb a0.2.2.2.2.2.2.1 0 300).bind fun v8=>cond v8.1 ((x_cx K a0.2.2.2.2.2.2.2.1 a0.2.2.2.1).bind fun v9=>cond v9.1 (some (decide (((a0.2.2.2.2.2.2.2.2.2.size:Nat):Int)≤30000),()))<|some (false,()))<|some (false,()))<|some (false,()))<|some (false,()))<|some (false,())
def x_iy (a0:x_n4):Option y11:=
 it ((a0.1.length:Int)≤80000) ((x_bb a0.2 0 (a0.1.length:Int)).bind fun v1=>some (v1.1,()))<|some (false,())
def x_ac.l0b (K:Nat) (a0:x_e) (a1:x_cg) (a2:Int) (L0:y66) (L1:y66) (v5:y27) (q0:Int):Option y11:=
 it (q0<a2) (ix q0 a1.2.2.2.2.1<|(x_bb (a1.2.2.2.2.1.getD q0.toNat 0) 1 (i6 (v5.1+1))).bind fun v6=>cond (!v6.1) (some (false,()))<|ix q0 a1.2.2.2.2.2.1<|(x_bb (a1.2.2.2.2.2.1.getD q0.toNat 0) 0 v5.1).bind fun v7=>cond (!v7.1) (some (false,()))<|L0 v5 (i6 (q0+1)))<|L1 v5 0
def x_ac.l1b (K:Nat) (a0:x_e) (a1:x_cg) (a2:Int) (L1:y66) (v5:y27) (q1:Int):Option y11:=
 it (q1<a1.2.2.2.2.2.2.2.2.2.length) (ix q1 a1.2.2.2.2.2.2.2.2.2<|(x_n0 K (a1.2.2.2.2.2.2.2.2.2.getD q1.toNat zRpc) a2).bind fun v8=>cond (!v8.1) (some (false,()))<|ix q1 a1.2.2.2.2.2.2.2.2.2<|nit ((a1.2.2.2.2.2.2.2.2.2.getD q1.toNat zRpc).2.1=a1.1) (some (false,()))<|L1 v5 (i6 (q1+1)))<|(x_bb a1.2.2.2.2.2.2.1 a1.2.1.2.2.1.1 v5.1).bind fun v9=>cond v9.1 ((x_aa K a0 a1.2.2.2.2.2.2.2.1).bind fun v10=>cond v10.1 ((x_iy a1.2.2.2.2.2.2.2.2.1).bind fun v11=>cond v11.1 (some (decide ((a1.2.2.2.2.2.2.2.2.2.length:Int)≤40),()))<|some (false,()))<|some (false,()))<|some (false,())
def x_ac.l1 (K:Nat) (a0:x_e) (a1:x_cg) (a2:Int):Nat→y66:=lp2 (x_ac.l1b K a0 a1 a2)
def x_ac.l0 (K:Nat) (a0:x_e) (a1:x_cg) (a2:Int):Nat→y66:=lp2 fun r=>x_ac.l0b K a0 a1 a2 r (x_ac.l1 K a0 a1 a2 K)
def x_ac.b (K:Nat) (a0:x_e) (a1:x_cg) (a2:Int) (L0:y66):Option y11:=
 (x_bb a2 1 5).bind fun v1=>cond (!v1.1) (some (false,()))<|(x_bb a1.1 0 (i6 (a2-1))).bind fun v2=>cond (!v2.1) (some (false,()))<|(x_hx K a0 a1.2.1).bind fun v3=>cond (!v3.1) (some (false,()))<|it (a1.2.1.2.1≥a2) (some (false,()))<|(x_bb a1.2.2.1 0 2).bind fun v4=>cond (!v4.1) (some (false,()))<|nit (a1.2.2.2.1.length=a2) (some (false,()))<|nit (a1.2.2.2.2.1.length=a2) (some (false,()))<|nit (a1.2.2.2.2.2.1.length=a2) (some (false,()))<|(x_dk a1.2.1.2.2.1).bind fun v5=>L0 v5 0
def x_ac (K:Nat) (a0:x_e) (a1:x_cg) (a2:Int):Option y11:=x_ac.b K a0 a1 a2 (x_ac.l0 K a0 a1 a2 K)
def x_g9 (K:Nat) (a0:x_e) (a1:Int) (a2:Int):Option y41:=
 (x_e6 a0).bind fun v1=>cond (!v1.1) (some ((0,(0,0,(0,0,[]),[],[],[],0,[],[]),0,[],[],[],0,([],[],[],0,[],[]),([],0),[]),false,()))<|(x_bb a2 1 5).bind fun v2=>cond (!v2.1) (some ((0,(0,0,(0,0,[]),[],[],[],0,[],[]),0,[],[],[],0,([],[],[],0,[],[]),([],0),[]),false,()))<|(x_f5 K a0).bind fun v3=>ck (a2=a2)<|ck (0≤a2)<|ck (a2.toNat*2≤x_di)<|(x_bt K a2 1).bind fun v4=>ck (a2=a2)<|ck (0≤a2)<|ck (a2.toNat*9≤x_di)<|(x_br K a0).bind fun v5=>(x_ac K a0 (a1,v3.1,0,List.replicate a2.toNat false,v4.1,List.replicate a2.toNat 0,0,v5.1,([],0),[]) a2).bind fun v6=>cond (!v6.1) (some ((0,(0,0,(0,0,[]),[],[],[],0,[],[]),0,[],[],[],0,([],[],[],0,[],[]),([],0),[]),false,()))<|some ((a1,v3.1,0,List.replicate a2.toNat false,v4.1,List.replicate a2.toNat 0,0,v5.1,([],0),[]),true,())
def x_bm.l0b (K:Nat) (a0:x_e) (a1:Int) (L0:y79) (q0:Int) (q1:y7):Option y44:=
 it (q0<a1) ((x_g9 K a0 q0 a1).bind fun v3=>cond (!v3.2.1) (some (((0,0,0,0),0,[],[],[],[],[],[]),false,()))<|gr 465 q1 [v3.1]<|L0 (i6 (q0+1)) (q1++[v3.1]))<|some ((a0,a1,q1,[],List.replicate 4 zCmd,List.replicate 4 0,[],[]),true,())
def x_bm.l0 (K:Nat) (a0:x_e) (a1:Int):Nat→y79:=lp2 (x_bm.l0b K a0 a1)
def x_bm.b (K:Nat) (a0:x_e) (a1:Int) (L0:y79):Option y44:=
 (x_e6 a0).bind fun v1=>cond (!v1.1) (some (((0,0,0,0),0,[],[],[],[],[],[]),false,()))<|(x_bb a1 1 5).bind fun v2=>cond (!v2.1) (some (((0,0,0,0),0,[],[],[],[],[],[]),false,()))<|L0 0 []
def x_bm (K:Nat) (a0:x_e) (a1:Int):Option y44:=x_bm.b K a0 a1 (x_bm.l0 K a0 a1 K)
def x_fs (a0:Int) (a1:Int):Option y6:=
 it (a0>a1) (some (a0,()))<|some (a1,())
def x_j7 (a0:x_z) (a1:List ByteArray):Option (ByteArray×x_z×Unit):=
 (x_j a0 (a1.length:Int)).bind fun v1=>ix v1.1 a1<|some (a1.getD v1.1.toNat ByteArray.empty,v1.2.1,())
def x_eg (a0:x_z):Option (ByteArray×x_z×Unit):=
 (x_j7 a0 [ByteArray.empty,(bs [97]),(bs [98]),(bs [107,32,49]),(bs [116,101,120,116])]).bind fun v1=>some (v1.1,v1.2.1,())
def x_ef (a0:x_z):Option y45:=
 (x_0 a0 [1,1,1,2,2,3,4,4,5,6,7,8,9,10]).bind fun v1=>(x_j v1.2.1 3).bind fun v2=>(x_j v2.2.1 4).bind fun v3=>(x_j v3.2.1 3).bind fun v4=>it (v1.1=1) ((x_eg v4.2.1).bind fun v5=>(x_eg v5.2.1).bind fun v6=>(x_0 v6.2.1 [0,0,0,1]).bind fun v7=>some ((0,0,v1.1,v2.1,v3.1,v7.1,v5.1,v6.1),v7.2.1,()))<|it (v1.1=8) ((x_0 v4.2.1 [0,10,60]).bind fun v8=>some ((0,0,v1.1,v8.1,v3.1,v4.1,ByteArray.empty,ByteArray.empty),v8.2.1,()))<|some ((0,0,v1.1,v2.1,v3.1,v4.1,ByteArray.empty,ByteArray.empty),v4.2.1,())
def x_hd (a0:x_z) (a1:Int):Option y46:=
 (x_j a0 a1).bind fun v1=>some (decide (v1.1=0),v1.2.1,())
def x_w.j0 (K:Nat) (L1:y116) (p11:Bool) (v1:y6) (v2:y39) (v4:y39) (q0:Int) (v3:y39) (a1:x_a0):Option y50:=
 cond p11 (L1 v1 v2 0 v4)<|it (v4.1=11) ((x_0 v4.2.1 [0,0,3,12,99999]).bind fun v12=>some ((9,v2.1,v12.1,0,0,0,0,0,0,ByteArray.empty,ByteArray.empty),v12.2.1,()))<|it (v4.1=12) (some ((10,v2.1,0,0,0,0,0,0,0,ByteArray.empty,ByteArray.empty),v4.2.1,()))<|it (v4.1=13) (some ((11,q0,v3.1,0,0,0,0,0,0,ByteArray.empty,ByteArray.empty),v4.2.1,()))<|it (v4.1=14) (some ((11,q0,v3.1,0,0,0,0,0,0,ByteArray.empty,ByteArray.empty),v4.2.1,()))<|it (v4.1=15) ((x_j v4.2.1 2).bind fun v13=>(x_fs (a1.2.2.2.1.length:Int) 1).bind fun v14=>(x_j v13.2.1 v14.1).bind fun v15=>some ((i6 (5+v13.1),v15.1,0,0,0,0,0,0,0,ByteArray.empty,ByteArray.empty),v15.2.1,()))<|it ((a1.2.2.2.1.length:Int)=0) ((x_hd v4.2.1 2).bind fun v16=>cond v16.1 (some ((1,v2.1,0,0,0,0,0,0,0,ByteArray.empty,ByteArray.empty),v16.2.1,()))<|(x_fs (a1.2.2.2.1.length:Int) 1).bind fun v17=>(x_j v16.2.1 v17.1).bind fun v18=>some ((4,v18.1,0,0,0,0,0,0,0,ByteArray.empty,ByteArray.empty),v18.2.1,()))<|(x_fs (a1.2.2.2.1.length:Int) 1).bind fun v19=>(x_j v4.2.1 v19.1).bind fun v20=>some ((4,v20.1,0,0,0,0,0,0,0,ByteArray.empty,ByteArray.empty),v20.2.1,())
def x_w.l0b (K:Nat) (a0:x_z) (a1:x_a0) (L0:y117) (L1:y116) (v1:y6) (v2:y39) (q0:Int) (q1:Int):Option y50:=
 it (q1<a1.2.2.1.length) (ix q1 a1.2.2.1<|it ((a1.2.2.1.getD q1.toNat x_d2).2.2.1=2) (L0 v1 v2 q1 (i6 (q1+1)))<|L0 v1 v2 q0 (i6 (q1+1)))<|(x_j v2.2.1 4).bind fun v3=>(x_j v3.2.1 22).bind fun v4=>it (v4.1=0) (some ((1,v2.1,0,0,0,0,0,0,0,ByteArray.empty,ByteArray.empty),v4.2.1,()))<|it (v4.1=1) ((x_ef v4.2.1).bind fun v5=>some ((7,q0,v3.1,v5.1),v5.2.1,()))<|it (v4.1=2) ((x_ef v4.2.1).bind fun v6=>some ((7,q0,v3.1,v6.1),v6.2.1,()))<|it (v4.1=3) ((x_ef v4.2.1).bind fun v7=>some ((7,q0,v3.1,v7.1),v7.2.1,()))<|it (v4.1=4) (some ((8,q0,v3.1,0,0,0,0,0,0,ByteArray.empty,ByteArray.empty),v4.2.1,()))<|it (v4.1=5) ((x_j v4.2.1 v1.1).bind fun v8=>some ((2,q0,v8.1,0,0,0,0,0,0,ByteArray.empty,ByteArray.empty),v8.2.1,()))<|it (v4.1=6) ((x_j v4.2.1 v1.1).bind fun v9=>some ((2,q0,v9.1,0,0,0,0,0,0,ByteArray.empty,ByteArray.empty),v9.2.1,()))<|it (v4.1=7) ((x_j v4.2.1 v1.1).bind fun v10=>some ((2,q0,v10.1,0,0,0,0,0,0,ByteArray.empty,ByteArray.empty),v10.2.1,()))<|it (v4.1=8) (x_w.j0 K L1 true v1 v2 v4 q0 v3 a1)<|it (v4.1=9) (x_w.j0 K L1 true v1 v2 v4 q0 v3 a1)<|x_w.j0 K L1 (decide (v4.1=10)) v1 v2 v4 q0 v3 a1
def x_w.l1b (K:Nat) (a0:x_z) (a1:x_a0) (L1:y116) (v1:y6) (v2:y39) (q3:Int) (v4:y39):Option y50:=
 it (q3<v1.1) (it (q3<a1.2.2.1.length) (ck ((a1.2.2.1.length:Int)≠0)<|ix (Int.tmod (i6 (v2.1+q3)) (a1.2.2.1.length:Int)) a1.2.2.1<|it (((a1.2.2.1.getD ((Int.tmod (i6 (v2.1+q3)) (a1.2.2.1.length:Int)).toNat) x_d2).2.2.2.2.2.2.2.2.2.length:Int)>0) (ck ((a1.2.2.1.length:Int)≠0)<|some ((3,Int.tmod (i6 (v2.1+q3)) (a1.2.2.1.length:Int),0,0,0,0,0,0,0,ByteArray.empty,ByteArray.empty),v4.2.1,()))<|L1 v1 v2 (i6 (q3+1)) v4)<|some ((3,v2.1,0,0,0,0,0,0,0,ByteArray.empty,ByteArray.empty),v4.2.1,()))<|some ((3,v2.1,0,0,0,0,0,0,0,ByteArray.empty,ByteArray.empty),v4.2.1,())
def x_w.l1 (K:Nat) (a0:x_z) (a1:x_a0):Nat→y116:=lp4 (x_w.l1b K a0 a1)
def x_w.l0 (K:Nat) (a0:x_z) (a1:x_a0):Nat→y117:=lp4 fun r=>x_w.l0b K a0 a1 r (x_w.l1 K a0 a1 K)
def x_w.b (K:Nat) (a0:x_z) (a1:x_a0) (L0:y117):Option y50:=
 (x_fs a1.2.1 1).bind fun v1=>(x_j a0 v1.1).bind fun v2=>L0 v1 v2 v2.1 0
def x_w (K:Nat) (a0:x_z) (a1:x_a0):Option y50:=x_w.b K a0 a1 (x_w.l0 K a0 a1 K)
def x_j5 (a0:TRpc):Option (TRpc×Unit):=
 gr 89 [] a0.2.2.2.2.2.2.2.1<|some ((a0.1,a0.2.1,a0.2.2.1,a0.2.2.2.1,a0.2.2.2.2.1,a0.2.2.2.2.2.1,a0.2.2.2.2.2.2.1,[]++a0.2.2.2.2.2.2.2.1,a0.2.2.2.2.2.2.2.2),())
def x_bx.l0b (K:Nat) (a0:y4) (L0:y80) (q0:y4) (q1:Int):Option y35:=
 it (q1<a0.length) (ix q1 a0<|(x_j5 (a0.getD q1.toNat zRpc)).bind fun v1=>gr 105 q0 [v1.1]<|L0 (q0++[v1.1]) (i6 (q1+1)))<|some (q0,())
def x_bx.l0 (K:Nat) (a0:y4):Nat→y80:=lp2 (x_bx.l0b K a0)
def x_bx.b (K:Nat) (a0:y4) (L0:y80):Option y35:=
 L0 [] 0
def x_bx (K:Nat) (a0:y4):Option y35:=x_bx.b K a0 (x_bx.l0 K a0 K)
def x_iv (a0:TLog):Option y15:=
 gr 89 [] a0.2.2<|some ((a0.1,a0.2.1,[]++a0.2.2),())
def x_ha (a0:TRow):Option y16:=
 gr 57 [] a0.2.2<|some ((a0.1,a0.2.1,[]++a0.2.2),())
def x_d4 (a0:x_am):Option y22:=
 gr 17 [] a0.2.2.2.2<|some ((a0.1,a0.2.1,a0.2.2.1,a0.2.2.2.1,[]++a0.2.2.2.2),())
def x_gh (a0:x_ag):Option y21:=
 gr 9 [] a0.2.1<|gr 9 [] a0.2.2.1<|gr 9 [] a0.2.2.2<|some ((a0.1,[]++a0.2.1,[]++a0.2.2.1,[]++a0.2.2.2),())
def x_8.l0b (K:Nat) (a0:x_as) (L0:y67) (L1:y102) (q0:Int) (q1:y3):Option y17:=
 it (q0<a0.1.length) (ix q0 a0.1<|(x_ha (a0.1.getD q0.toNat zRow)).bind fun v1=>gr 41 q1 [v1.1]<|L0 (i6 (q0+1)) (q1++[v1.1]))<|L1 0 q1 []
def x_8.l1b (K:Nat) (a0:x_as) (L1:y102) (L2:y118) (q2:Int) (q1:y3) (q3:y14):Option y17:=
 it (q2<a0.2.1.length) (ix q2 a0.2.1<|(x_d4 (a0.2.1.getD q2.toNat x_bc)).bind fun v2=>gr 57 q3 [v2.1]<|L1 (i6 (q2+1)) q1 (q3++[v2.1]))<|L2 0 q1 q3 []
def x_8.l2b (K:Nat) (a0:x_as) (L2:y118) (q4:Int) (q1:y3) (q3:y14) (q5:y12):Option y17:=
 it (q4<a0.2.2.1.length) (ix q4 a0.2.2.1<|(x_gh (a0.2.2.1.getD q4.toNat x_co)).bind fun v3=>gr 81 q5 [v3.1]<|L2 (i6 (q4+1)) q1 q3 (q5++[v3.1]))<|some ((q1,q3,q5,a0.2.2.2.1,[]++a0.2.2.2.2.1,[]++a0.2.2.2.2.2),())
def x_8.l2 (K:Nat) (a0:x_as):Nat→y118:=lp4 (x_8.l2b K a0)
def x_8.l1 (K:Nat) (a0:x_as):Nat→y102:=lp3 fun r=>x_8.l1b K a0 r (x_8.l2 K a0 K)
def x_8.l0 (K:Nat) (a0:x_as):Nat→y67:=lp2 fun r=>x_8.l0b K a0 r (x_8.l1 K a0 K)
def x_8.b (K:Nat) (a0:x_as) (L0:y67):Option y17:=
 gr 9 [] a0.2.2.2.2.1<|gr 49 [] a0.2.2.2.2.2<|L0 0 []
def x_8 (K:Nat) (a0:x_as):Option y17:=x_8.b K a0 (x_8.l0 K a0 K)
def x_f9 (K:Nat) (a0:x_eh):Option y18:=
 (x_iv a0.2.2.1).bind fun v1=>(x_8 K a0.2.2.2).bind fun v2=>some ((a0.1,a0.2.1,v1.1,v2.1),())
def x_he (a0:x_n4):Option (x_n4×Unit):=
 gr 2 [] a0.1<|some (([]++a0.1,a0.2),())
def x_3 (K:Nat) (a0:x_cg):Option (x_cg×Unit):=
 (x_f9 K a0.2.1).bind fun v1=>gr 2 [] a0.2.2.2.1<|gr 9 [] a0.2.2.2.2.1<|gr 9 [] a0.2.2.2.2.2.1<|(x_8 K a0.2.2.2.2.2.2.2.1).bind fun v2=>(x_he a0.2.2.2.2.2.2.2.2.1).bind fun v3=>(x_bx K a0.2.2.2.2.2.2.2.2.2).bind fun v4=>some ((a0.1,v1.1,a0.2.2.1,[]++a0.2.2.2.1,[]++a0.2.2.2.2.1,[]++a0.2.2.2.2.2.1,a0.2.2.2.2.2.2.1,v2.1,v3.1,v4.1),())
def x_ch.l0b (K:Nat) (a0:x_a0) (L0:y107) (q0:Int) (q1:y7) (v1:y35):Option y23:=
 it (q0<a0.2.2.1.length) (ix q0 a0.2.2.1<|(x_3 K (a0.2.2.1.getD q0.toNat x_d2)).bind fun v2=>gr 465 q1 [v2.1]<|L0 (i6 (q0+1)) (q1++[v2.1]) v1)<|some ((a0.1,a0.2.1,q1,v1.1,[]++a0.2.2.2.2.1,[]++a0.2.2.2.2.2.1,[]++a0.2.2.2.2.2.2.1,[]++a0.2.2.2.2.2.2.2),())
def x_ch.l0 (K:Nat) (a0:x_a0):Nat→y107:=lp3 (x_ch.l0b K a0)
def x_ch.b (K:Nat) (a0:x_a0) (L0:y107):Option y23:=
 (x_bx K a0.2.2.2.1).bind fun v1=>gr 81 [] a0.2.2.2.2.1<|gr 9 [] a0.2.2.2.2.2.1<|gr 81 [] a0.2.2.2.2.2.2.1<|gr 81 [] a0.2.2.2.2.2.2.2<|L0 0 [] v1
def x_ch (K:Nat) (a0:x_a0):Option y23:=x_ch.b K a0 (x_ch.l0 K a0 K)
def x_ir (K:Nat) (a0:x_cw):Option y11:=
 (x_bb a0.2.1 0 300).bind fun v1=>cond (!v1.1) (some (false,()))<|(x_bb a0.2.2.2.1 0 300).bind fun v2=>cond (!v2.1) (some (false,()))<|(x_cx K a0.2.2.2.2.1 300).bind fun v3=>cond (!v3.1) (some (false,()))<|it (((a0.2.2.2.2.2.size:Nat):Int)>30000) (some (false,()))<|it (a0.1=1) ((x_bb a0.2.2.1 (-1) 4).bind fun v4=>cond v4.1 (it (a0.2.2.2.1=0) (it ((a0.2.2.2.2.1.length:Int)=0) (some (decide (a0.2.2.2.2.2.data.toList=ByteArray.empty.data.toList),()))<|some (false,()))<|some (false,()))<|some (false,()))<|it (a0.1=2) (it (a0.2.2.1=0) (some (decide (a0.2.2.2.2.2.data.toList=ByteArray.empty.data.toList),()))<|some (false,()))<|it (a0.1=3) (it (a0.2.2.1=0) (some (decide ((a0.2.2.2.2.1.length:Int)=0),()))<|some (false,()))<|some (false,())
def x_ba.l0b (K:Nat) (a0:Int) (L0:y68) (q0:Int) (q1:y0):Option y29:=
 it (q0>127) (gr 2 q1 [IntKind.u8.wrap (i6 ((Int.tmod q0 128)+128))]<|L0 (i6 (Int.tdiv q0 128)) (q1++[IntKind.u8.wrap (i6 ((Int.tmod q0 128)+128))]))<|gr 2 q1 [IntKind.u8.wrap q0]<|some (q1++[IntKind.u8.wrap q0],())
def x_ba.l0 (K:Nat) (a0:Int):Nat→y68:=lp2 (x_ba.l0b K a0)
def x_ba.b (K:Nat) (a0:Int) (L0:y68):Option y29:=
 (x_bb a0 0 2147483647).bind fun v1=>cond (!v1.1) (some ([],()))<|L0 a0 []
def x_ba (K:Nat) (a0:Int):Option y29:=x_ba.b K a0 (x_ba.l0 K a0 K)
def x_bq.l0b (K:Nat) (a0:y0) (L0:y65) (q0:y0) (q1:Int):Option y29:=
 it (q1<a0.length) (ix q1 a0<|(x_ba K (a0.getD q1.toNat 0)).bind fun v1=>gr 2 q0 v1.1<|L0 (q0++v1.1) (i6 (q1+1)))<|some (q0,())
def x_bq.l0 (K:Nat) (a0:y0):Nat→y65:=lp2 (x_bq.l0b K a0)
def x_bq.b (K:Nat) (a0:y0) (L0:y65):Option y29:=
 L0 [] 0
def x_bq (K:Nat) (a0:y0):Option y29:=x_bq.b K a0 (x_bq.l0 K a0 K)
def x_d9 (K:Nat) (a0:y2):Option y29:=
 (x_ba K ((a0.size:Nat):Int)).bind fun v1=>gr 2 v1.1 (x_ck a0)<|some (v1.1++(x_ck a0),())
def x_jc (K:Nat) (a0:TCmd):Option y29:=
 (x_km K a0).bind fun v1=>cond (!v1.1) (some ([],()))<|(x_bq K [i6 (a0.1+1),a0.2.1,a0.2.2.1,a0.2.2.2.1,a0.2.2.2.2.1,a0.2.2.2.2.2.1]).bind fun v2=>(x_d9 K a0.2.2.2.2.2.2.1).bind fun v3=>gr 2 v2.1 v3.1<|(x_d9 K a0.2.2.2.2.2.2.2).bind fun v4=>gr 2 (v2.1++v3.1) v4.1<|some ((v2.1++v3.1)++v4.1,())
def x_da.l0b (K:Nat) (a0:x_cw) (L0:y65) (q0:y0) (q1:Int):Option y29:=
 it (q1<a0.2.2.2.2.1.length) (ix q1 a0.2.2.2.2.1<|(x_ba K (a0.2.2.2.2.1.getD q1.toNat x_at).1).bind fun v6=>gr 2 q0 v6.1<|(x_jc K (a0.2.2.2.2.1.getD q1.toNat x_at).2).bind fun v7=>gr 2 (q0++v6.1) v7.1<|L0 ((q0++v6.1)++v7.1) (i6 (q1+1)))<|(x_d9 K a0.2.2.2.2.2).bind fun v8=>gr 2 q0 v8.1<|some (q0++v8.1,())
def x_da.l0 (K:Nat) (a0:x_cw):Nat→y65:=lp2 (x_da.l0b K a0)
def x_da.b (K:Nat) (a0:x_cw) (L0:y65):Option y29:=
 (x_ba K a0.1).bind fun v1=>(x_ba K a0.2.1).bind fun v2=>gr 2 v1.1 v2.1<|(x_ba K (i6 (a0.2.2.1+1))).bind fun v3=>gr 2 (v1.1++v2.1) v3.1<|(x_ba K a0.2.2.2.1).bind fun v4=>gr 2 ((v1.1++v2.1)++v3.1) v4.1<|(x_ba K (a0.2.2.2.2.1.length:Int)).bind fun v5=>gr 2 (((v1.1++v2.1)++v3.1)++v4.1) v5.1<|L0 ((((v1.1++v2.1)++v3.1)++v4.1)++v5.1) 0
def x_da (K:Nat) (a0:x_cw):Option y29:=x_da.b K a0 (x_da.l0 K a0 K)
def x_dn.l0b (K:Nat) (a0:y0) (L0:y93) (q0:Int) (q1:Int) (q2:Int):Option y6:=
 it (q2<a0.length) (ix q2 a0<|L0 (Int.tmod (i6 (q0+(i6 (a0.getD q2.toNat 0)))) 65521) (Int.tmod (i6 (q1+(Int.tmod (i6 (q0+(i6 (a0.getD q2.toNat 0)))) 65521))) 65521) (i6 (q2+1)))<|some (i6 ((i6 (q1*65536))+q0),())
def x_dn.l0 (K:Nat) (a0:y0):Nat→y93:=lp3 (x_dn.l0b K a0)
def x_dn.b (K:Nat) (a0:y0) (L0:y93):Option y6:=
 L0 1 0 0
def x_dn (K:Nat) (a0:y0):Option y6:=x_dn.b K a0 (x_dn.l0 K a0 K)
def x_ne (K:Nat) (a0:y0):Option y29:=
 (x_dn K a0).bind fun v1=>some ([IntKind.u8.wrap v1.1,IntKind.u8.wrap (Int.fdiv v1.1 (2 ^ 8)),IntKind.u8.wrap (Int.fdiv v1.1 (2 ^ 16)),IntKind.u8.wrap (Int.fdiv v1.1 (2 ^ 24))],())
def x_eo (K:Nat) (a0:x_cw):Option y29:=
 (x_ir K a0).bind fun v1=>cond (!v1.1) (some ([],()))<|(x_da K a0).bind fun v2=>(x_ba K (v2.1.length:Int)).bind fun v3=>gr 2 v3.1 v2.1<|(x_ne K v2.1).bind fun v4=>gr 2 (v3.1++v2.1) v4.1<|some ((v3.1++v2.1)++v4.1,())
def x_pl (a0:x_n4) (a1:y0):Option (x_n4×Bool×Unit):=
 (x_he a0).bind fun v1=>(x_iy a0).bind fun v2=>cond (!v2.1) (some (v1.1,false,()))<|it (a1.length>(i6 (80000-(a0.1.length:Int)))) (some (v1.1,false,()))<|gr 2 v1.1.1 a1<|some ((v1.1.1++a1,v1.1.2),true,())
def x_vp (a0:TLog) (a1:Int):Option y6:=
 it (a1≤a0.1) (some ((-1),()))<|it (a1>300) (some ((-1),()))<|it (a0.1<0) (some ((-1),()))<|it ((i6 ((i6 (a1-a0.1))-1))≥a0.2.2.length) (some ((-1),()))<|some (i6 ((i6 (a1-a0.1))-1),())
def x_fw (a0:TLog) (a1:Int):Option y6:=
 it (a1=a0.1) (some (a0.2.1,()))<|(x_vp a0 a1).bind fun v1=>it (v1.1<0) (some ((-1),()))<|ix v1.1 a0.2.2<|some ((a0.2.2.getD v1.1.toNat x_at).1,())
def x_c2.l0b (K:Nat) (a0:TLog) (a1:Int) (a2:Int) (a3:y13) (L0:y108) (q0:Int) (v2:y15) (q1:y13):Option y36:=
 it (q0<a3.length) (it ((i6 ((i6 (a1-a0.1))+q0))<q1.length) (ix (i6 ((i6 (a1-a0.1))+q0)) q1<|ix q0 a3<|it ((q1.getD ((i6 ((i6 (a1-a0.1))+q0)).toNat) x_at).1=(a3.getD q0.toNat x_at).1) (L0 (i6 (q0+1)) v2 q1)<|ck ((i6 ((i6 (a1-a0.1))+q0))=(i6 ((i6 (a1-a0.1))+q0)))<|ck (0≤(i6 ((i6 (a1-a0.1))+q0)))<|ck ((i6 ((i6 (a1-a0.1))+q0))≤q1.length)<|gr 89 [] ((q1.take ((i6 ((i6 (a1-a0.1))+q0)).toNat)).drop 0)<|ix q0 a3<|gr 89 ([]++((q1.take ((i6 ((i6 (a1-a0.1))+q0)).toNat)).drop 0)) [a3.getD q0.toNat x_at]<|L0 (i6 (q0+1)) v2 (([]++((q1.take ((i6 ((i6 (a1-a0.1))+q0)).toNat)).drop 0))++[a3.getD q0.toNat x_at]))<|ix q0 a3<|gr 89 q1 [a3.getD q0.toNat x_at]<|L0 (i6 (q0+1)) v2 (q1++[a3.getD q0.toNat x_at]))<|(x_d3 K (v2.1.1,v2.1.2.1,q1)).bind fun v4=>cond (!v4.1) ((x_iv a0).bind fun v5=>some (v5.1,false,()))<|some ((v2.1.1,v2.1.2.1,q1),true,())
def x_c2.l0 (K:Nat) (a0:TLog) (a1:Int) (a2:Int) (a3:y13):Nat→y108:=lp3 (x_c2.l0b K a0 a1 a2 a3)
def x_c2.b (K:Nat) (a0:TLog) (a1:Int) (a2:Int) (a3:y13) (L0:y108):Option y36:=
 (x_d3 K a0).bind fun v1=>cond (!v1.1) (some ((0,0,[]),false,()))<|(x_iv a0).bind fun v2=>it (a2<0) (some (v2.1,false,()))<|(x_fw a0 a1).bind fun v3=>nit (v3.1=a2) (some (v2.1,false,()))<|L0 0 v2 v2.1.2.2
def x_c2 (K:Nat) (a0:TLog) (a1:Int) (a2:Int) (a3:y13):Option y36:=x_c2.b K a0 a1 a2 a3 (x_c2.l0 K a0 a1 a2 a3 K)
def x_bw.l0b (K:Nat) (a0:y0) (a1:Int) (L0:y70) (q0:Int) (q1:Int):Option y69:=
 it (q1<5) (it (a1<0) (some (0,0,false,()))<|it (a1≥(i6 ((a0.length:Int)-q1))) (some (0,0,false,()))<|ix (i6 (a1+q1)) a0<|ck (0≤(i6 (7*q1)))<|it ((i6 (a0.getD ((i6 (a1+q1)).toNat) 0))<128) (it (q1>0) (it ((i6 (a0.getD ((i6 (a1+q1)).toNat) 0))=0) (some (0,0,false,()))<|it ((i6 (bor q0 (i6 ((Int.tmod (i6 (a0.getD ((i6 (a1+q1)).toNat) 0)) 128)*2 ^ (min ((i6 (7*q1)).toNat) 64)))))>2147483647) (some (0,0,false,()))<|some (i6 (bor q0 (i6 ((Int.tmod (i6 (a0.getD ((i6 (a1+q1)).toNat) 0)) 128)*2 ^ (min ((i6 (7*q1)).toNat) 64)))),i6 ((i6 (a1+q1))+1),true,()))<|it ((i6 (bor q0 (i6 ((Int.tmod (i6 (a0.getD ((i6 (a1+q1)).toNat) 0)) 128)*2 ^ (min ((i6 (7*q1)).toNat) 64)))))>2147483647) (some (0,0,false,()))<|some (i6 (bor q0 (i6 ((Int.tmod (i6 (a0.getD ((i6 (a1+q1)).toNat) 0)) 128)*2 ^ (min ((i6 (7*q1)).toNat) 64)))),i6 ((i6 (a1+q1))+1),true,()))<|L0 (i6 (bor q0 (i6 ((Int.tmod (i6 (a0.getD ((i6 (a1+q1)).toNat) 0)) 128)*2 ^ (min ((i6 (7*q1)).toNat) 64))))) (i6 (q1+1)))<|some (0,0,false,())
def x_bw.l0 (K:Nat) (a0:y0) (a1:Int):Nat→y70:=lp2 (x_bw.l0b K a0 a1)
def x_bw.b (K:Nat) (a0:y0) (a1:Int) (L0:y70):Option y69:=
 L0 0 0
def x_bw (K:Nat) (a0:y0) (a1:Int):Option y69:=x_bw.b K a0 a1 (x_bw.l0 K a0 a1 K)
def x_bk (K:Nat) (a0:x_g):Option y47:=
 (x_bw K a0.1 a0.2.1).bind fun v1=>cond (!v1.2.2.1) (some (0,(a0.1,a0.2.1,false),()))<|cond (!a0.2.2) (some (0,(a0.1,a0.2.1,false),()))<|some (v1.1,(a0.1,v1.2.1,a0.2.2),())
def x_if (K:Nat) (a0:y0) (a1:Int):Option y94:=
 (x_bw K a0 a1).bind fun v1=>cond (!v1.2.2.1) (some (ByteArray.empty,0,false,()))<|it (v1.1>(i6 ((a0.length:Int)-v1.2.1))) (some (ByteArray.empty,0,false,()))<|ck ((i6 (v1.2.1+v1.1))=(i6 (v1.2.1+v1.1)))<|ck (0≤v1.2.1)<|ck (v1.2.1≤(i6 (v1.2.1+v1.1)))<|ck ((i6 (v1.2.1+v1.1))≤a0.length)<|some (x_jp ((a0.take ((i6 (v1.2.1+v1.1)).toNat)).drop v1.2.1.toNat),i6 (v1.2.1+v1.1),true,())
def x_ed (K:Nat) (a0:x_g):Option (ByteArray×x_g×Unit):=
 (x_if K a0.1 a0.2.1).bind fun v1=>cond (!v1.2.2.1) (some (ByteArray.empty,(a0.1,a0.2.1,false),()))<|cond (!a0.2.2) (some (ByteArray.empty,(a0.1,a0.2.1,false),()))<|some (v1.1,(a0.1,v1.2.1,a0.2.2),())
def x_c6.l0b (K:Nat) (a0:x_g) (L0:y139) (v3:y47) (q0:Int) (q1:y47) (v1:y47) (v2:y47) (q2:y8):Option y51:=
 it (q0<v3.1) (cond q1.2.1.2.2 ((x_bk K q1.2.1).bind fun v4=>(x_ed K v4.2.1).bind fun v5=>(x_ed K v5.2.1).bind fun v6=>(x_bk K v6.2.1).bind fun v7=>(x_bk K v7.2.1).bind fun v8=>gr 57 q2 [(v4.1,v5.1,v6.1,v7.1,v8.1)]<|L0 v3 (i6 (q0+1)) v8 v1 v2 (q2++[(v4.1,v5.1,v6.1,v7.1,v8.1)]))<|some ((v1.1,v2.1,q2),q1.2.1,()))<|some ((v1.1,v2.1,q2),q1.2.1,())
def x_c6.l0 (K:Nat) (a0:x_g):Nat→y139:=lp6 (x_c6.l0b K a0)
def x_c6.b (K:Nat) (a0:x_g) (L0:y139):Option y51:=
 (x_bk K a0).bind fun v1=>(x_bk K v1.2.1).bind fun v2=>(x_bk K v2.2.1).bind fun v3=>L0 v3 0 v3 v1 v2 []
def x_c6 (K:Nat) (a0:x_g):Option y51:=x_c6.b K a0 (x_c6.l0 K a0 K)
def x_a9.l0b (K:Nat) (a0:x_g) (L0:y144) (v5:y47) (q0:Int) (q1:y47) (v1:y47) (v2:y47) (v3:y47) (v4:y47) (q2:y9):Option y71:=
 it (q0<v5.1) (cond q1.2.1.2.2 ((x_bk K q1.2.1).bind fun v6=>(x_bk K v6.2.1).bind fun v7=>gr 17 q2 [(v6.1,v7.1)]<|L0 v5 (i6 (q0+1)) v7 v1 v2 v3 v4 (q2++[(v6.1,v7.1)]))<|some ((v1.1,v2.1,v3.1,i6 (v4.1-1),q2),q1.2.1,()))<|some ((v1.1,v2.1,v3.1,i6 (v4.1-1),q2),q1.2.1,())
def x_a9.l0 (K:Nat) (a0:x_g):Nat→y144:=lp8 (x_a9.l0b K a0)
def x_a9.b (K:Nat) (a0:x_g) (L0:y144):Option y71:=
 (x_bk K a0).bind fun v1=>(x_bk K v1.2.1).bind fun v2=>(x_bk K v2.2.1).bind fun v3=>(x_bk K v3.2.1).bind fun v4=>(x_bk K v4.2.1).bind fun v5=>L0 v5 0 v5 v1 v2 v3 v4 []
def x_a9 (K:Nat) (a0:x_g):Option y71:=x_a9.b K a0 (x_a9.l0 K a0 K)
def x_1.j0 (K:Nat) (L1:y134) (q1:y47) (v1:y47) (q2:y0) (q3:y0):Option y72:=
 L1 0 q1 v1 q2 q3 []
def x_1.l0b (K:Nat) (a0:x_g) (a1:Int) (L0:y137) (L1:y134) (v2:y47) (q0:Int) (q1:y47) (v1:y47) (q2:y0) (q3:y0):Option y72:=
 it (q0<v2.1) (cond q1.2.1.2.2 ((x_bk K q1.2.1).bind fun v3=>(x_bk K v3.2.1).bind fun v4=>gr 9 q2 [v3.1]<|gr 9 q3 [v4.1]<|L0 v2 (i6 (q0+1)) v4 v1 (q2++[v3.1]) (q3++[v4.1]))<|x_1.j0 K L1 q1 v1 q2 q3)<|x_1.j0 K L1 q1 v1 q2 q3
def x_1.l1b (K:Nat) (a0:x_g) (a1:Int) (L1:y134) (q7:Int) (q8:y47) (v1:y47) (q2:y0) (q3:y0) (q9:y0):Option y72:=
 it (q7<a1) ((x_bk K q8.2.1).bind fun v5=>gr 9 q9 [v5.1]<|L1 (i6 (q7+1)) v5 v1 q2 q3 (q9++[v5.1]))<|some ((v1.1,q2,q3,q9),q8.2.1,())
def x_1.l1 (K:Nat) (a0:x_g) (a1:Int):Nat→y134:=lp6 (x_1.l1b K a0 a1)
def x_1.l0 (K:Nat) (a0:x_g) (a1:Int):Nat→y137:=lp6 fun r=>x_1.l0b K a0 a1 r (x_1.l1 K a0 a1 K)
def x_1.b (K:Nat) (a0:x_g) (a1:Int) (L0:y137):Option y72:=
 (x_bk K a0).bind fun v1=>(x_bk K v1.2.1).bind fun v2=>L0 v2 0 v2 v1 [] []
def x_1 (K:Nat) (a0:x_g) (a1:Int):Option y72:=x_1.b K a0 a1 (x_1.l0 K a0 a1 K)
def x_h.j2 (K:Nat) (L1:y130) (q1:y24) (q2:y3):Option y58:=
 (x_bk K q1.1).bind fun v3=>L1 v3 0 v3.2 q2 []
def x_h.j1 (K:Nat) (L2:y138) (q29:y24) (q2:y3) (q30:y14):Option y58:=
 (x_bk K q29.1).bind fun v5=>L2 v5 0 v5.2 q2 q30 []
def x_h.j0 (K:Nat) (L3:y143) (q43:y24) (q2:y3) (q30:y14) (q44:y12):Option y58:=
 (x_bk K q43.1).bind fun v7=>L3 0 v7.2 q2 q30 q44 v7 [] []
def x_h.l0b (K:Nat) (a0:x_g) (a1:Int) (L0:y121) (L1:y130) (v1:y47) (q0:Int) (q1:y24) (q2:y3):Option y58:=
 it (q0<v1.1) (cond q1.1.2.2 ((x_c6 K q1.1).bind fun v2=>gr 41 q2 [v2.1]<|L0 v1 (i6 (q0+1)) v2.2 (q2++[v2.1]))<|x_h.j2 K L1 q1 q2)<|x_h.j2 K L1 q1 q2
def x_h.l1b (K:Nat) (a0:x_g) (a1:Int) (L1:y130) (L2:y138) (v3:y47) (q28:Int) (q29:y24) (q2:y3) (q30:y14):Option y58:=
 it (q28<v3.1) (cond q29.1.2.2 ((x_a9 K q29.1).bind fun v4=>gr 57 q30 [v4.1]<|L1 v3 (i6 (q28+1)) v4.2 q2 (q30++[v4.1]))<|x_h.j1 K L2 q29 q2 q30)<|x_h.j1 K L2 q29 q2 q30
def x_h.l2b (K:Nat) (a0:x_g) (a1:Int) (L2:y138) (L3:y143) (v5:y47) (q42:Int) (q43:y24) (q2:y3) (q30:y14) (q44:y12):Option y58:=
 it (q42<v5.1) (cond q43.1.2.2 ((x_1 K q43.1 a1).bind fun v6=>gr 81 q44 [v6.1]<|L2 v5 (i6 (q42+1)) v6.2 q2 q30 (q44++[v6.1]))<|x_h.j0 K L3 q43 q2 q30 q44)<|x_h.j0 K L3 q43 q2 q30 q44
def x_h.l3b (K:Nat) (a0:x_g) (a1:Int) (L3:y143) (q49:Int) (q50:y24) (q2:y3) (q30:y14) (q44:y12) (v7:y47) (q51:y0) (q52:y19):Option y58:=
 it (q49<4) ((x_bk K q50.1).bind fun v8=>(x_bk K v8.2.1).bind fun v9=>(x_bk K v9.2.1).bind fun v10=>(x_ed K v10.2.1).bind fun v11=>(x_ed K v11.2.1).bind fun v12=>gr 9 q51 [v8.1]<|gr 49 q52 [(v9.1,i6 (v10.1-1),v11.1,v12.1)]<|L3 (i6 (q49+1)) v12.2 q2 q30 q44 v7 (q51++[v8.1]) (q52++[(v9.1,i6 (v10.1-1),v11.1,v12.1)]))<|some ((q2,q30,q44,v7.1,q51,q52),q50.1,())
def x_h.l3 (K:Nat) (a0:x_g) (a1:Int):Nat→y143:=lp8 (x_h.l3b K a0 a1)
def x_h.l2 (K:Nat) (a0:x_g) (a1:Int):Nat→y138:=lp6 fun r=>x_h.l2b K a0 a1 r (x_h.l3 K a0 a1 K)
def x_h.l1 (K:Nat) (a0:x_g) (a1:Int):Nat→y130:=lp5 fun r=>x_h.l1b K a0 a1 r (x_h.l2 K a0 a1 K)
def x_h.l0 (K:Nat) (a0:x_g) (a1:Int):Nat→y121:=lp4 fun r=>x_h.l0b K a0 a1 r (x_h.l1 K a0 a1 K)
def x_h.b (K:Nat) (a0:x_g) (a1:Int) (L0:y121):Option y58:=
 (x_bk K a0).bind fun v1=>L0 v1 0 v1.2 []
def x_h (K:Nat) (a0:x_g) (a1:Int):Option y58:=x_h.b K a0 a1 (x_h.l0 K a0 a1 K)
def x_ix (K:Nat) (a0:x_e) (a1:y0):Option y42:=
 (x_e6 a0).bind fun v1=>cond (!v1.1) (some (([],[],[],0,[],[]),false,()))<|(x_h K (a1,0,true) a0.1).bind fun v2=>cond (!v2.2.1.2.2) (some (([],[],[],0,[],[]),false,()))<|nit (v2.2.1.2.1=a1.length) (some (([],[],[],0,[],[]),false,()))<|(x_aa K a0 v2.1).bind fun v3=>cond (!v3.1) (some (([],[],[],0,[],[]),false,()))<|some (v2.1,true,())
def x_m3 (a0:TLog) (a1:Int):Option y15:=
 (x_iv a0).bind fun v1=>(x_vp a0 a1).bind fun v2=>it (v2.1<0) (some (v1.1,()))<|ix v2.1 a0.2.2<|ck ((a0.2.2.length:Int)=(a0.2.2.length:Int))<|ck (0≤(i6 (v2.1+1)))<|ck ((i6 (v2.1+1))≤a0.2.2.length)<|ck ((a0.2.2.length:Int)≤a0.2.2.length)<|gr 89 [] ((a0.2.2.take ((a0.2.2.length:Int).toNat)).drop ((i6 (v2.1+1)).toNat))<|some ((a1,(a0.2.2.getD v2.1.toNat x_at).1,[]++((a0.2.2.take ((a0.2.2.length:Int).toNat)).drop ((i6 (v2.1+1)).toNat))),())
def x_n2 (K:Nat) (a0:x_e) (a1:x_eh) (a2:x_cw):Option y18:=
 it (a2.1=1) (some ((a2.2.1,a2.2.2.1,a1.2.2),()))<|it (a2.1=2) ((x_c2 K a1.2.2.1 a2.2.2.2.1 a2.2.1 a2.2.2.2.2.1).bind fun v1=>cond v1.2.1 (some ((a1.1,a1.2.1,v1.1,a1.2.2.2),()))<|some (a1,()))<|it (a2.1=3) ((x_ix K a0 (x_ck a2.2.2.2.2.2)).bind fun v2=>cond (!v2.2.1) (some (a1,()))<|it (a2.2.2.2.1≤a1.2.2.1.1) (some (a1,()))<|(x_fw a1.2.2.1 a2.2.2.2.1).bind fun v3=>it (v3.1=a2.2.1) ((x_m3 a1.2.2.1 a2.2.2.2.1).bind fun v4=>some ((a1.1,a1.2.1,v4.1,v2.1),()))<|some ((a1.1,a1.2.1,(a2.2.2.2.1,a2.2.1,[]),v2.1),()))<|some (a1,())
def x_fa (K:Nat) (a0:x_e) (a1:x_eh) (a2:x_cw):Option y18:=
 (x_hx K a0 a1).bind fun v1=>cond (!v1.1) ((x_f9 K a1).bind fun v3=>some (v3.1,()))<|(x_ir K a2).bind fun v2=>cond (!v2.1) ((x_f9 K a1).bind fun v4=>some (v4.1,()))<|(x_f9 K a1).bind fun v5=>(x_n2 K a0 v5.1 a2).bind fun v6=>(x_hx K a0 v6.1).bind fun v7=>cond (!v7.1) ((x_f9 K a1).bind fun v8=>some (v8.1,()))<|some (v6.1,())
def x_gq (K:Nat) (a0:x_e) (a1:x_cg) (a2:x_cw):Option y41:=
 (x_3 K a1).bind fun v1=>(x_eo K a2).bind fun v2=>(x_pl a1.2.2.2.2.2.2.2.2.1 v2.1).bind fun v3=>(x_fa K a0 a1.2.1 a2).bind fun v4=>cond (!v3.2.1) ((x_3 K a1).bind fun v7=>some (v7.1,false,()))<|(x_ir K a2).bind fun v5=>cond (!v5.1) ((x_3 K a1).bind fun v8=>some (v8.1,false,()))<|(x_ac K a0 (v1.1.1,v4.1,v1.1.2.2.1,v1.1.2.2.2.1,v1.1.2.2.2.2.1,v1.1.2.2.2.2.2.1,v1.1.2.2.2.2.2.2.1,v1.1.2.2.2.2.2.2.2.1,v3.1,v1.1.2.2.2.2.2.2.2.2.2) (a1.2.2.2.1.length:Int)).bind fun v6=>cond (!v6.1) ((x_3 K a1).bind fun v9=>some (v9.1,false,()))<|some ((v1.1.1,v4.1,v1.1.2.2.1,v1.1.2.2.2.1,v1.1.2.2.2.2.1,v1.1.2.2.2.2.2.1,v1.1.2.2.2.2.2.2.1,v1.1.2.2.2.2.2.2.2.1,v3.1,v1.1.2.2.2.2.2.2.2.2.2),true,())
def x_ex (K:Nat) (a0:y1) (a1:x_cw):Option y25:=
 cond (!a0.2.2.2) (some (a0,()))<|(x_gq K a0.1 a0.2.2.1 a1).bind fun v1=>some ((a0.1,a0.2.1,v1.1,v1.2.1),())
def x_fh (K:Nat) (a0:y1) (a1:Int):Option y25:=
 it (a1>a0.2.2.1.2.1.1) ((x_ex K a0 (1,a1,(-1),0,[],ByteArray.empty)).bind fun v1=>some ((v1.1.1,v1.1.2.1,(v1.1.2.2.1.1,v1.1.2.2.1.2.1,0,v1.1.2.2.1.2.2.2),v1.1.2.2.2),()))<|some ((a0.1,a0.2.1,(a0.2.2.1.1,a0.2.2.1.2.1,0,a0.2.2.1.2.2.2),a0.2.2.2),())
def x_re (a0:TLog) (a1:Int) (a2:Int):Option y11:=
 (x_dk a0).bind fun v1=>it (a2>v1.2.1) (some (true,()))<|it (a2=v1.2.1) (some (decide (a1≥v1.1),()))<|some (false,())
def s_Tell (K:Nat) (a0:x_cg) (a1:TRpc):Option y41:=
 (x_3 K a0).bind fun v1=>it ((a0.2.2.2.2.2.2.2.2.2.length:Int)≥40) (some (v1.1,false,()))<|(x_j5 a1).bind fun v2=>gr 105 v1.1.2.2.2.2.2.2.2.2.2 [v2.1]<|some ((v1.1.1,v1.1.2.1,v1.1.2.2.1,v1.1.2.2.2.1,v1.1.2.2.2.2.1,v1.1.2.2.2.2.2.1,v1.1.2.2.2.2.2.2.1,v1.1.2.2.2.2.2.2.2.1,v1.1.2.2.2.2.2.2.2.2.1,v1.1.2.2.2.2.2.2.2.2.2++[v2.1]),true,())
def x_ea (K:Nat) (a0:y1) (a1:TRpc):Option y25:=
 cond (!a0.2.2.2) (some (a0,()))<|(s_Tell K a0.2.2.1 (a1.1,a0.2.2.1.1,a1.2.2.1,a0.2.2.1.2.1.1,a1.2.2.2.2)).bind fun v1=>cond v1.2.1 ((x_n0 K (a1.1,a0.2.2.1.1,a1.2.2.1,a0.2.2.1.2.1.1,a1.2.2.2.2) a0.2.1).bind fun v2=>some ((a0.1,a0.2.1,v1.1,v2.1),()))<|some ((a0.1,a0.2.1,v1.1,false),())
def x_ez.j0 (K:Nat) (p3:Bool) (a0:y1) (a1:TRpc):Option y25:=
 cond p3 (it (a0.2.2.1.2.1.2.1=(-1)) ((x_ex K a0 (1,a0.2.2.1.2.1.1,a1.2.1,0,[],ByteArray.empty)).bind fun v4=>(x_ea K v4.1 (2,0,a1.2.1,0,0,0,0,[],p3,ByteArray.empty)).bind fun v5=>some (v5.1,()))<|(x_ea K a0 (2,0,a1.2.1,0,0,0,0,[],p3,ByteArray.empty)).bind fun v6=>some (v6.1,()))<|(x_ea K a0 (2,0,a1.2.1,0,0,0,0,[],p3,ByteArray.empty)).bind fun v7=>some (v7.1,())
def x_ez (K:Nat) (a0:y1) (a1:TRpc):Option y25:=
 it (a1.2.2.2.1=a0.2.2.1.2.1.1) (it (a0.2.2.1.2.1.2.1=(-1)) ((x_re a0.2.2.1.2.1.2.2.1 a1.2.2.2.2.1 a1.2.2.2.2.2.1).bind fun v1=>x_ez.j0 K v1.1 a0 a1)<|it (a0.2.2.1.2.1.2.1=a1.2.1) ((x_re a0.2.2.1.2.1.2.2.1 a1.2.2.2.2.1 a1.2.2.2.2.2.1).bind fun v2=>x_ez.j0 K v2.1 a0 a1)<|x_ez.j0 K false a0 a1)<|x_ez.j0 K false a0 a1
def x_p9 (a0:Bool):Option y6:=
 cond a0 (some (1,()))<|some (0,())
def x_nn (a0:Int):Option y6:=
 some (i6 ((i6 (Int.tdiv a0 2))+1),())
def x_jd (K:Nat) (a0:y1):Option y25:=
 (x_3 K a0.2.2.1).bind fun v1=>(x_dk a0.2.2.1.2.1.2.2.1).bind fun v2=>(x_bt K a0.2.1 (i6 (v2.1+1))).bind fun v3=>ck (a0.2.1=a0.2.1)<|ck (0≤a0.2.1)<|ck (a0.2.1.toNat*9≤x_di)<|(x_ex K (a0.1,a0.2.1,(a0.2.2.1.1,a0.2.2.1.2.1,2,a0.2.2.1.2.2.2.1,v3.1,List.replicate a0.2.1.toNat 0,a0.2.2.1.2.2.2.2.2.2),a0.2.2.2) (2,v2.2.1,0,v2.1,[(a0.2.2.1.2.1.1,(-1),0,0,0,0,0,ByteArray.empty,ByteArray.empty)],ByteArray.empty)).bind fun v4=>cond (!v4.1.2.2.2) (some ((v4.1.1,v4.1.2.1,(v1.1.1,v1.1.2.1,0,v1.1.2.2.2),true),()))<|it ((v4.1.2.2.1.2.1.2.2.1.2.2.length:Int)=v1.1.2.1.2.2.1.2.2.length) (some ((v4.1.1,v4.1.2.1,(v1.1.1,v1.1.2.1,0,v1.1.2.2.2),true),()))<|some (v4.1,())
def x_bu.l0b (K:Nat) (a0:y1) (a1:TRpc) (L0:y73) (q0:Int) (q1:Int):Option y25:=
 it (q1<a0.2.1) (ix q1 (a0.2.2.1.2.2.2.1.set a1.2.1.toNat true)<|(x_p9 ((a0.2.2.1.2.2.2.1.set a1.2.1.toNat true).getD q1.toNat false)).bind fun v1=>L0 (i6 (q0+v1.1)) (i6 (q1+1)))<|(x_nn a0.2.1).bind fun v2=>it (q0≥v2.1) ((x_jd K (a0.1,a0.2.1,(a0.2.2.1.1,a0.2.2.1.2.1,a0.2.2.1.2.2.1,a0.2.2.1.2.2.2.1.set a1.2.1.toNat true,a0.2.2.1.2.2.2.2),a0.2.2.2)).bind fun v3=>some (v3.1,()))<|some ((a0.1,a0.2.1,(a0.2.2.1.1,a0.2.2.1.2.1,a0.2.2.1.2.2.1,a0.2.2.1.2.2.2.1.set a1.2.1.toNat true,a0.2.2.1.2.2.2.2),a0.2.2.2),())
def x_bu.l0 (K:Nat) (a0:y1) (a1:TRpc):Nat→y73:=lp2 (x_bu.l0b K a0 a1)
def x_bu.b (K:Nat) (a0:y1) (a1:TRpc) (L0:y73):Option y25:=
 nit (a0.2.2.1.2.2.1=1) (some (a0,()))<|cond (!a1.2.2.2.2.2.2.2.2.1) (some (a0,()))<|nit (a1.2.2.2.1=a0.2.2.1.2.1.1) (some (a0,()))<|ix a1.2.1 a0.2.2.1.2.2.2.1<|L0 0 0
def x_bu (K:Nat) (a0:y1) (a1:TRpc):Option y25:=x_bu.b K a0 a1 (x_bu.l0 K a0 a1 K)
def x_d6 (K:Nat) (a0:y1) (a1:Int) (a2:Bool) (a3:Int):Option y25:=
 (x_ea K a0 (4,0,a1,0,a3,0,0,[],a2,ByteArray.empty)).bind fun v1=>some (v1.1,())
def x_ci.l0b (K:Nat) (a0:x_cg) (a1:TLog) (L0:y28) (q0:Int):Option y11:=
 it (q0≤a0.2.2.2.2.2.2.1) ((x_fw a1 q0).bind fun v2=>(x_fw a0.2.1.2.2.1 q0).bind fun v3=>nit (v2.1=v3.1) (some (true,()))<|L0 (i6 (q0+1)))<|some (false,())
def x_ci.l0 (K:Nat) (a0:x_cg) (a1:TLog):Nat→y28:=lp1 (x_ci.l0b K a0 a1)
def x_ci.b (K:Nat) (a0:x_cg) (a1:TLog) (L0:y28):Option y11:=
 (x_dk a1).bind fun v1=>it (v1.1<a0.2.2.2.2.2.2.1) (some (true,()))<|L0 (i6 (a0.2.1.2.2.1.1+1))
def x_ci (K:Nat) (a0:x_cg) (a1:TLog):Option y11:=x_ci.b K a0 a1 (x_ci.l0 K a0 a1 K)
def x_gr (a0:Int) (a1:Int):Option y6:=
 it (a0<a1) (some (a0,()))<|some (a1,())
def x_af.l0b (K:Nat) (a0:y13) (a1:y13) (L0:y28) (q0:Int):Option y11:=
 it (q0<a0.length) (it (q0<a1.length) (ix q0 a0<|ix q0 a1<|cond (!(qEntry (a0.getD q0.toNat x_at) (a1.getD q0.toNat x_at))) (some (false,()))<|L0 (i6 (q0+1)))<|some (decide ((a0.length:Int)=a1.length),()))<|some (decide ((a0.length:Int)=a1.length),())
def x_af.l0 (K:Nat) (a0:y13) (a1:y13):Nat→y28:=lp1 (x_af.l0b K a0 a1)
def x_af.b (K:Nat) (a0:y13) (a1:y13) (L0:y28):Option y11:=
 L0 0
def x_af (K:Nat) (a0:y13) (a1:y13):Option y11:=x_af.b K a0 a1 (x_af.l0 K a0 a1 K)
def x_bi.l0b (K:Nat) (a0:y1) (a1:Int) (L0:y95) (q0:Int) (q1:y0) (q2:y0):Option y25:=
 it (q0<a0.2.1) (ix q0 q1<|(x_gr (q1.getD q0.toNat 0) (i6 (a1+1))).bind fun v1=>ix q0 q1<|ix q0 q2<|(x_gr (q2.getD q0.toNat 0) a1).bind fun v2=>ix q0 q2<|L0 (i6 (q0+1)) (q1.set q0.toNat v1.1) (q2.set q0.toNat v2.1))<|some ((a0.1,a0.2.1,(a0.2.2.1.1,a0.2.2.1.2.1,a0.2.2.1.2.2.1,a0.2.2.1.2.2.2.1,q1,q2,a0.2.2.1.2.2.2.2.2.2),a0.2.2.2),())
def x_bi.l0 (K:Nat) (a0:y1) (a1:Int):Nat→y95:=lp3 (x_bi.l0b K a0 a1)
def x_bi.b (K:Nat) (a0:y1) (a1:Int) (L0:y95):Option y25:=
 L0 0 a0.2.2.1.2.2.2.2.1 a0.2.2.1.2.2.2.2.2.1
def x_bi (K:Nat) (a0:y1) (a1:Int):Option y25:=x_bi.b K a0 a1 (x_bi.l0 K a0 a1 K)
def x_dy (a0:x_ag) (a1:Int):Option y21:=
 (x_gh a0).bind fun v1=>ck (a1=a1)<|ck (0≤a1)<|ck (a1≤a0.2.1.length)<|gr 9 [] ((a0.2.1.take a1.toNat).drop 0)<|ck ((a0.2.1.length:Int)=(a0.2.1.length:Int))<|ck (0≤(i6 (a1+1)))<|ck ((i6 (a1+1))≤a0.2.1.length)<|ck ((a0.2.1.length:Int)≤a0.2.1.length)<|gr 9 ([]++((a0.2.1.take a1.toNat).drop 0)) ((a0.2.1.take ((a0.2.1.length:Int).toNat)).drop ((i6 (a1+1)).toNat))<|it (a1<a0.2.2.1.length) (ck (a1=a1)<|ck (0≤a1)<|ck (a1≤a0.2.2.1.length)<|gr 9 [] ((a0.2.2.1.take a1.toNat).drop 0)<|ck ((a0.2.2.1.length:Int)=(a0.2.2.1.length:Int))<|ck (0≤(i6 (a1+1)))<|ck ((i6 (a1+1))≤a0.2.2.1.length)<|ck ((a0.2.2.1.length:Int)≤a0.2.2.1.length)<|gr 9 ([]++((a0.2.2.1.take a1.toNat).drop 0)) ((a0.2.2.1.take ((a0.2.2.1.length:Int).toNat)).drop ((i6 (a1+1)).toNat))<|some ((v1.1.1,([]++((a0.2.1.take a1.toNat).drop 0))++((a0.2.1.take ((a0.2.1.length:Int).toNat)).drop ((i6 (a1+1)).toNat)),([]++((a0.2.2.1.take a1.toNat).drop 0))++((a0.2.2.1.take ((a0.2.2.1.length:Int).toNat)).drop ((i6 (a1+1)).toNat)),v1.1.2.2.2),()))<|some ((v1.1.1,([]++((a0.2.1.take a1.toNat).drop 0))++((a0.2.1.take ((a0.2.1.length:Int).toNat)).drop ((i6 (a1+1)).toNat)),v1.1.2.2),())
def x_vf (a0:Int):Option y6:=
 it (a0≥100000) (some (a0,()))<|some (i6 (a0+1),())
def x_a1.l0b (K:Nat) (a0:x_ag) (a1:Int) (L0:y96) (q0:Bool) (q1:Int) (q2:y21):Option y21:=
 it (q1≥0) (it (q1<a0.2.2.1.length) (ix q1 a0.2.2.1<|it (a1>(a0.2.2.1.getD q1.toNat 0)) (ix q1 a0.2.2.1<|it ((i6 (a1-(a0.2.2.1.getD q1.toNat 0)))>50) ((x_dy q2.1 q1).bind fun v2=>L0 true (i6 (q1-1)) v2)<|ix q1 a0.2.2.1<|it ((i6 (a1-(a0.2.2.1.getD q1.toNat 0)))<0) ((x_dy q2.1 q1).bind fun v3=>L0 true (i6 (q1-1)) v3)<|L0 q0 (i6 (q1-1)) q2)<|L0 q0 (i6 (q1-1)) q2)<|L0 q0 (i6 (q1-1)) q2)<|cond q0 ((x_vf a0.1).bind fun v4=>some ((v4.1,q2.1.2),()))<|some (q2.1,())
def x_a1.l0 (K:Nat) (a0:x_ag) (a1:Int):Nat→y96:=lp3 (x_a1.l0b K a0 a1)
def x_a1.b (K:Nat) (a0:x_ag) (a1:Int) (L0:y96):Option y21:=
 (x_gh a0).bind fun v1=>L0 false (i6 ((a0.2.1.length:Int)-1)) v1
def x_a1 (K:Nat) (a0:x_ag) (a1:Int):Option y21:=x_a1.b K a0 a1 (x_a1.l0 K a0 a1 K)
def x_ge.l0b (K:Nat) (a0:x_ag) (a1:Int) (L0:y30) (q0:Int):Option y6:=
 it (q0<a0.2.1.length) (ix q0 a0.2.1<|it ((a0.2.1.getD q0.toNat 0)=a1) (some (q0,()))<|L0 (i6 (q0+1)))<|some ((-1),())
def x_ge.l0 (K:Nat) (a0:x_ag) (a1:Int):Nat→y30:=lp1 (x_ge.l0b K a0 a1)
def x_ge.b (K:Nat) (a0:x_ag) (a1:Int) (L0:y30):Option y6:=
 L0 0
def x_ge (K:Nat) (a0:x_ag) (a1:Int):Option y6:=x_ge.b K a0 a1 (x_ge.l0 K a0 a1 K)
def x_an.j0 (K:Nat) (q0:Int) (a0:x_ag) (a1:Int) (a2:Int) (v1:y21):Option y21:=
 ck (q0=q0)<|ck (0≤q0)<|ck (q0≤a0.2.1.length)<|gr 9 [] ((a0.2.1.take q0.toNat).drop 0)<|gr 9 ([]++((a0.2.1.take q0.toNat).drop 0)) [a1]<|ck ((a0.2.1.length:Int)=(a0.2.1.length:Int))<|ck (0≤q0)<|ck (q0≤a0.2.1.length)<|ck ((a0.2.1.length:Int)≤a0.2.1.length)<|gr 9 (([]++((a0.2.1.take q0.toNat).drop 0))++[a1]) ((a0.2.1.take ((a0.2.1.length:Int).toNat)).drop q0.toNat)<|ck (q0=q0)<|ck (0≤q0)<|ck (q0≤a0.2.2.1.length)<|gr 9 [] ((a0.2.2.1.take q0.toNat).drop 0)<|gr 9 ([]++((a0.2.2.1.take q0.toNat).drop 0)) [a2]<|ck ((a0.2.2.1.length:Int)=(a0.2.2.1.length:Int))<|ck (0≤q0)<|ck (q0≤a0.2.2.1.length)<|ck ((a0.2.2.1.length:Int)≤a0.2.2.1.length)<|gr 9 (([]++((a0.2.2.1.take q0.toNat).drop 0))++[a2]) ((a0.2.2.1.take ((a0.2.2.1.length:Int).toNat)).drop q0.toNat)<|(x_vf a0.1).bind fun v4=>some ((v4.1,(([]++((a0.2.1.take q0.toNat).drop 0))++[a1])++((a0.2.1.take ((a0.2.1.length:Int).toNat)).drop q0.toNat),(([]++((a0.2.2.1.take q0.toNat).drop 0))++[a2])++((a0.2.2.1.take ((a0.2.2.1.length:Int).toNat)).drop q0.toNat),v1.1.2.2.2),())
def x_an.l0b (K:Nat) (a0:x_ag) (a1:Int) (a2:Int) (L0:y59) (q0:Int) (v1:y21):Option y21:=
 it (q0<a0.2.1.length) (it (q0<a0.2.2.1.length) (ix q0 a0.2.1<|it ((a0.2.1.getD q0.toNat 0)<a1) (L0 (i6 (q0+1)) v1)<|x_an.j0 K q0 a0 a1 a2 v1)<|x_an.j0 K q0 a0 a1 a2 v1)<|x_an.j0 K q0 a0 a1 a2 v1
def x_an.l0 (K:Nat) (a0:x_ag) (a1:Int) (a2:Int):Nat→y59:=lp2 (x_an.l0b K a0 a1 a2)
def x_an.b (K:Nat) (a0:x_ag) (a1:Int) (a2:Int) (L0:y59):Option y21:=
 (x_gh a0).bind fun v1=>(x_bb a1 0 3).bind fun v2=>cond (!v2.1) (some (v1.1,()))<|(x_ge K a0 a1).bind fun v3=>it (v3.1≥0) (it (v3.1<v1.1.2.2.1.length) (ix v3.1 v1.1.2.2.1<|some ((v1.1.1,v1.1.2.1,v1.1.2.2.1.set v3.1.toNat a2,v1.1.2.2.2),()))<|some (v1.1,()))<|L0 0 v1
def x_an (K:Nat) (a0:x_ag) (a1:Int) (a2:Int):Option y21:=x_an.b K a0 a1 a2 (x_an.l0 K a0 a1 a2 K)
def x_ft (K:Nat) (a0:x_ag) (a1:Int):Option y21:=
 (x_ge K a0 a1).bind fun v1=>it (v1.1<0) ((x_gh a0).bind fun v3=>some (v3.1,()))<|(x_bb a1 0 3).bind fun v2=>cond (!v2.1) ((x_gh a0).bind fun v4=>some (v4.1,()))<|(x_dy a0 v1.1).bind fun v5=>(x_vf a0.1).bind fun v6=>some ((v6.1,v5.1.2),())
def x_la (a0:x_ag) (a1:Int):Option y6:=
 it ((a0.2.1.length:Int)=0) (some ((-1),()))<|it (a1<0) (some ((-1),()))<|ck ((a0.2.1.length:Int)≠0)<|ix (Int.tmod a1 (a0.2.1.length:Int)) a0.2.1<|some (a0.2.1.getD ((Int.tmod a1 (a0.2.1.length:Int)).toNat) 0,())
def x_gp (a0:x_ag) (a1:Int) (a2:Int) (a3:Int) (a4:Int):Option (x_ag×Bool×Unit):=
 (x_gh a0).bind fun v1=>nit (a2=a0.1) (some (v1.1,false,()))<|(x_bb a3 0 (i6 ((a0.2.2.2.length:Int)-1))).bind fun v2=>cond (!v2.1) (some (v1.1,false,()))<|(x_la a0 a3).bind fun v3=>nit (v3.1=a1) (some (v1.1,false,()))<|ix a3 a0.2.2.2<|it (a4<(a0.2.2.2.getD a3.toNat 0)) (some (v1.1,false,()))<|ix a3 v1.1.2.2.2<|some ((v1.1.1,v1.1.2.1,v1.1.2.2.1,v1.1.2.2.2.set a3.toNat a4),true,())
def x_k8 (K:Nat) (a0:x_e) (a1:x_as) (a2:TCmd):Option y60:=
 ix a2.2.2.2.1 a1.2.2.1<|it (a2.2.2.1=4) ((x_an K (a1.2.2.1.getD a2.2.2.2.1.toNat x_co) a2.1 a1.2.2.2.1).bind fun v1=>ix a2.2.2.2.1 a1.2.2.1<|ix a2.2.2.2.1 (a1.2.2.1.set a2.2.2.2.1.toNat v1.1)<|some ((a1.1,a1.2.1,a1.2.2.1.set a2.2.2.2.1.toNat v1.1,a1.2.2.2),(0,((a1.2.2.1.set a2.2.2.2.1.toNat v1.1).getD a2.2.2.2.1.toNat x_co).1,ByteArray.empty,ByteArray.empty),()))<|it (a2.2.2.1=5) ((x_ft K (a1.2.2.1.getD a2.2.2.2.1.toNat x_co) a2.1).bind fun v2=>ix a2.2.2.2.1 a1.2.2.1<|ix a2.2.2.2.1 (a1.2.2.1.set a2.2.2.2.1.toNat v2.1)<|some ((a1.1,a1.2.1,a1.2.2.1.set a2.2.2.2.1.toNat v2.1,a1.2.2.2),(0,((a1.2.2.1.set a2.2.2.2.1.toNat v2.1).getD a2.2.2.2.1.toNat x_co).1,ByteArray.empty,ByteArray.empty),()))<|it (a2.2.2.1=6) ((x_gp (a1.2.2.1.getD a2.2.2.2.1.toNat x_co) a2.1 (a1.2.2.1.getD a2.2.2.2.1.toNat x_co).1 a2.2.2.2.2.1 a2.2.2.2.2.2.1).bind fun v3=>cond (!v3.2.1) (some (a1,(9,0,ByteArray.empty,ByteArray.empty),()))<|ix a2.2.2.2.1 a1.2.2.1<|some ((a1.1,a1.2.1,a1.2.2.1.set a2.2.2.2.1.toNat v3.1,a1.2.2.2),(0,a2.2.2.2.2.2.1,ByteArray.empty,ByteArray.empty),()))<|it (a2.2.2.2.2.1≥a0.1) (some (a1,(5,0,ByteArray.empty,ByteArray.empty),()))<|ix a2.2.2.2.2.1 (a1.2.2.1.getD a2.2.2.2.1.toNat x_co).2.2.2<|some (a1,(0,(a1.2.2.1.getD a2.2.2.2.1.toNat x_co).2.2.2.getD a2.2.2.2.2.1.toNat 0,ByteArray.empty,ByteArray.empty),())
def x_b9.l0b (K:Nat) (a0:y14) (a1:Int) (a2:Int) (L0:y32) (q0:Int):Option y22:=
 it (q0<a0.length) (ix q0 a0<|it ((a0.getD q0.toNat x_bc).1=a1) (ix q0 a0<|it ((a0.getD q0.toNat x_bc).2.1=a2) (ix q0 a0<|(x_d4 (a0.getD q0.toNat x_bc)).bind fun v1=>some (v1.1,()))<|L0 (i6 (q0+1)))<|L0 (i6 (q0+1)))<|some ((a1,a2,0,(-1),[]),())
def x_b9.l0 (K:Nat) (a0:y14) (a1:Int) (a2:Int):Nat→y32:=lp1 (x_b9.l0b K a0 a1 a2)
def x_b9.b (K:Nat) (a0:y14) (a1:Int) (a2:Int) (L0:y32):Option y22:=
 L0 0
def x_b9 (K:Nat) (a0:y14) (a1:Int) (a2:Int):Option y22:=x_b9.b K a0 a1 a2 (x_b9.l0 K a0 a1 a2 K)
def x_bj.l0b (K:Nat) (a0:x_am) (a1:Int) (a2:Int) (L0:y33) (q0:Int):Option y27:=
 it (q0<a0.2.2.2.2.length) (ix q0 a0.2.2.2.2<|it ((a0.2.2.2.2.getD q0.toNat x_io).1=a2) (ix q0 a0.2.2.2.2<|some (1,(a0.2.2.2.2.getD q0.toNat x_io).2,()))<|L0 (i6 (q0+1)))<|some (2,0,())
def x_bj.l0 (K:Nat) (a0:x_am) (a1:Int) (a2:Int):Nat→y33:=lp1 (x_bj.l0b K a0 a1 a2)
def x_bj.b (K:Nat) (a0:x_am) (a1:Int) (a2:Int) (L0:y33):Option y27:=
 it (a1<a0.2.2.1) (some (4,0,()))<|it (a1>a0.2.2.1) (it (a2=0) (some (0,0,()))<|some (3,0,()))<|it (a2>a0.2.2.2.1) (it ((i6 (a2-1))=a0.2.2.2.1) (some (0,0,()))<|some (3,0,()))<|L0 0
def x_bj (K:Nat) (a0:x_am) (a1:Int) (a2:Int):Option y27:=x_bj.b K a0 a1 a2 (x_bj.l0 K a0 a1 a2 K)
def x_j8 (K:Nat) (a0:TRow) (a1:y2) (a2:y2) (a3:Int) (a4:Int):Option (TRow×Int×Bool×Unit):=
 (x_ha a0).bind fun v1=>(x_dj K a0).bind fun v2=>cond (!v2.1) (some (v1.1,0,false,()))<|gr 57 v1.1.2.2 [(a0.2.1,a1,a2,a3,a4)]<|(x_dj K (v1.1.1,i6 (a0.2.1+1),v1.1.2.2++[(a0.2.1,a1,a2,a3,a4)])).bind fun v3=>cond (!v3.1) ((x_ha a0).bind fun v4=>some (v4.1,0,false,()))<|some ((v1.1.1,i6 (a0.2.1+1),v1.1.2.2++[(a0.2.1,a1,a2,a3,a4)]),a0.2.1,true,())
def x_dm.j0 (K:Nat) (p3:y9) (a3:Int) (a4:Int) (a1:Int) (v1:y22) (a2:Int):Option y22:=
 gr 17 p3 [(a3,a4)]<|(x_fs a1 0).bind fun v4=>it ((p3++[(a3,a4)]).length>v4.1) ((x_fs a1 0).bind fun v5=>ck (((p3++[(a3,a4)]).length:Int)=((p3++[(a3,a4)]).length:Int))<|ck (0≤(i6 (((p3++[(a3,a4)]).length:Int)-v5.1)))<|ck ((i6 (((p3++[(a3,a4)]).length:Int)-v5.1))≤(p3++[(a3,a4)]).length)<|ck (((p3++[(a3,a4)]).length:Int)≤(p3++[(a3,a4)]).length)<|gr 17 [] (((p3++[(a3,a4)]).take (((p3++[(a3,a4)]).length:Int).toNat)).drop ((i6 (((p3++[(a3,a4)]).length:Int)-v5.1)).toNat))<|some ((v1.1.1,v1.1.2.1,a2,a3,[]++(((p3++[(a3,a4)]).take (((p3++[(a3,a4)]).length:Int).toNat)).drop ((i6 (((p3++[(a3,a4)]).length:Int)-v5.1)).toNat))),()))<|some ((v1.1.1,v1.1.2.1,a2,a3,p3++[(a3,a4)]),())
def x_dm (K:Nat) (a0:x_am) (a1:Int) (a2:Int) (a3:Int) (a4:Int):Option y22:=
 (x_d4 a0).bind fun v1=>(x_bj K a0 a2 a3).bind fun v2=>nit (v2.1=0) (some (v1.1,()))<|it (a2>a0.2.2.1) (x_dm.j0 K [] a3 a4 a1 v1 a2)<|x_dm.j0 K v1.1.2.2.2.2 a3 a4 a1 v1 a2
def x_ay.j0 (K:Nat) (L0:y109) (q1:Bool) (a0:y14) (q2:Int) (a1:x_am) (q0:y14):Option y48:=
 cond (!q1) (it ((a0.getD q2.toNat x_bc).1>a1.1) ((x_d4 a1).bind fun v2=>gr 57 q0 [v2.1]<|(x_d4 (a0.getD q2.toNat x_bc)).bind fun v4=>gr 57 (q0++[v2.1]) [v4.1]<|L0 ((q0++[v2.1])++[v4.1]) true (i6 (q2+1)))<|it ((a0.getD q2.toNat x_bc).1=a1.1) (it ((a0.getD q2.toNat x_bc).2.1>a1.2.1) ((x_d4 a1).bind fun v3=>gr 57 q0 [v3.1]<|(x_d4 (a0.getD q2.toNat x_bc)).bind fun v5=>gr 57 (q0++[v3.1]) [v5.1]<|L0 ((q0++[v3.1])++[v5.1]) true (i6 (q2+1)))<|(x_d4 (a0.getD q2.toNat x_bc)).bind fun v6=>gr 57 q0 [v6.1]<|L0 (q0++[v6.1]) q1 (i6 (q2+1)))<|(x_d4 (a0.getD q2.toNat x_bc)).bind fun v7=>gr 57 q0 [v7.1]<|L0 (q0++[v7.1]) q1 (i6 (q2+1)))<|(x_d4 (a0.getD q2.toNat x_bc)).bind fun v8=>gr 57 q0 [v8.1]<|L0 (q0++[v8.1]) q1 (i6 (q2+1))
def x_ay.l0b (K:Nat) (a0:y14) (a1:x_am) (L0:y109) (q0:y14) (q1:Bool) (q2:Int):Option y48:=
 it (q2<a0.length) (ix q2 a0<|it ((a0.getD q2.toNat x_bc).1=a1.1) (it ((a0.getD q2.toNat x_bc).2.1=a1.2.1) (cond (!q1) ((x_d4 a1).bind fun v1=>gr 57 q0 [v1.1]<|L0 (q0++[v1.1]) true (i6 (q2+1)))<|L0 q0 q1 (i6 (q2+1)))<|x_ay.j0 K L0 q1 a0 q2 a1 q0)<|x_ay.j0 K L0 q1 a0 q2 a1 q0)<|cond (!q1) ((x_d4 a1).bind fun v9=>gr 57 q0 [v9.1]<|some (q0++[v9.1],()))<|some (q0,())
def x_ay.l0 (K:Nat) (a0:y14) (a1:x_am):Nat→y109:=lp3 (x_ay.l0b K a0 a1)
def x_ay.b (K:Nat) (a0:y14) (a1:x_am) (L0:y109):Option y48:=
 L0 [] false 0
def x_ay (K:Nat) (a0:y14) (a1:x_am):Option y48:=x_ay.b K a0 a1 (x_ay.l0 K a0 a1 K)
def x_s9 (K:Nat) (a0:x_e) (a1:x_as) (a2:TCmd):Option y60:=
 (x_b9 K a1.2.1 a2.2.2.2.1 a2.1).bind fun v1=>(x_bj K v1.1 a2.2.2.2.2.2.1 a2.2.2.2.2.1).bind fun v2=>it (v2.1=1) (some (a1,(1,v2.2.1,ByteArray.empty,ByteArray.empty),()))<|it (v2.1=2) (some (a1,(2,0,ByteArray.empty,ByteArray.empty),()))<|it (v2.1=3) (some (a1,(3,0,ByteArray.empty,ByteArray.empty),()))<|it (v2.1=4) (some (a1,(4,0,ByteArray.empty,ByteArray.empty),()))<|ix a2.2.2.2.1 a1.1<|(x_j8 K (a1.1.getD a2.2.2.2.1.toNat zRow) a2.2.2.2.2.2.2.1 a2.2.2.2.2.2.2.2 a2.1 a1.2.2.2.1).bind fun v3=>cond (!v3.2.2.1) (some (a1,(8,0,ByteArray.empty,ByteArray.empty),()))<|ix a2.2.2.2.1 a1.1<|(x_dm K v1.1 a0.2.1 a2.2.2.2.2.2.1 a2.2.2.2.2.1 v3.2.1).bind fun v4=>(x_ay K a1.2.1 v4.1).bind fun v5=>some ((a1.1.set a2.2.2.2.1.toNat v3.1,v5.1,a1.2.2),(0,v3.2.1,ByteArray.empty,ByteArray.empty),())
def x_k4 (K:Nat) (a0:x_as) (a1:TCmd):Option y60:=
 (x_b9 K a0.2.1 a1.2.2.2.1 a1.1).bind fun v1=>it (a1.2.2.2.2.1≤v1.1.2.2.1) (some (a0,(4,v1.1.2.2.1,ByteArray.empty,ByteArray.empty),()))<|(x_ay K a0.2.1 (a1.2.2.2.1,a1.1,a1.2.2.2.2.1,(-1),[])).bind fun v2=>some ((a0.1,v2.1,a0.2.2),(0,a1.2.2.2.2.1,ByteArray.empty,ByteArray.empty),())
def x_c8.l0b (K:Nat) (a0:TRow) (a1:Int) (L0:y38) (q0:Int):Option y37:=
 it (q0<a0.2.2.length) (ix q0 a0.2.2<|it ((a0.2.2.getD q0.toNat x_cb).1≥a1) (ix q0 a0.2.2<|some (a0.2.2.getD q0.toNat x_cb,0,()))<|L0 (i6 (q0+1)))<|some ((0,ByteArray.empty,ByteArray.empty,0,0),2,())
def x_c8.l0 (K:Nat) (a0:TRow) (a1:Int):Nat→y38:=lp1 (x_c8.l0b K a0 a1)
def x_c8.b (K:Nat) (a0:TRow) (a1:Int) (L0:y38):Option y37:=
 it (a1<a0.1) (some ((0,ByteArray.empty,ByteArray.empty,0,0),1,()))<|L0 0
def x_c8 (K:Nat) (a0:TRow) (a1:Int):Option y37:=x_c8.b K a0 a1 (x_c8.l0 K a0 a1 K)
def x_ai.l0b (K:Nat) (a0:TRow) (a1:Int) (a2:Int) (L1:y119) (q1:Int) (v1:y16) (q2:y8):Option y16:=
 it (q2.length>a2) (ck (0<(q2.length:Int))<|ck (a1≠0)<|ck (a1≠0)<|it ((i6 (Int.tdiv (q2.getD 0 x_cb).1 a1))=(i6 (Int.tdiv (i6 (a0.2.1-1)) a1))) (some ((q1,v1.1.2.1,q2),()))<|L1 q2 0 q1 v1)<|some ((q1,v1.1.2.1,q2),())
def x_ai.l1b (K:Nat) (a0:TRow) (a1:Int) (a2:Int) (L0:y110) (L1:y119) (q2:y8) (q3:Int) (q1:Int) (v1:y16):Option y16:=
 it (q3<q2.length) (ix q3 q2<|ck (a1≠0)<|it ((i6 (Int.tdiv (q2.getD q3.toNat x_cb).1 a1))=(i6 (Int.tdiv (q2.getD 0 x_cb).1 a1))) (L1 q2 (i6 (q3+1)) q1 v1)<|ck ((q2.length:Int)=(q2.length:Int))<|ck (0≤q3)<|ck (q3≤q2.length)<|ck ((q2.length:Int)≤q2.length)<|gr 57 [] ((q2.take ((q2.length:Int).toNat)).drop q3.toNat)<|L0 (i6 ((i6 ((i6 (Int.tdiv (q2.getD 0 x_cb).1 a1))+1))*a1)) v1 ([]++((q2.take ((q2.length:Int).toNat)).drop q3.toNat)))<|ck ((q2.length:Int)=(q2.length:Int))<|ck (0≤q3)<|ck (q3≤q2.length)<|ck ((q2.length:Int)≤q2.length)<|gr 57 [] ((q2.take ((q2.length:Int).toNat)).drop q3.toNat)<|L0 (i6 ((i6 ((i6 (Int.tdiv (q2.getD 0 x_cb).1 a1))+1))*a1)) v1 ([]++((q2.take ((q2.length:Int).toNat)).drop q3.toNat))
def x_ai.l1 (K:Nat) (a0:TRow) (a1:Int) (a2:Int) (L0:y110):Nat→y119:=lp4 (x_ai.l1b K a0 a1 a2 L0)
def x_ai.l0 (K:Nat) (a0:TRow) (a1:Int) (a2:Int):Nat→y110:=lp3 fun r=>x_ai.l0b K a0 a1 a2 (x_ai.l1 K a0 a1 a2 r K)
def x_ai.b (K:Nat) (a0:TRow) (a1:Int) (a2:Int) (L0:y110):Option y16:=
 (x_ha a0).bind fun v1=>it (a1<1) (some (v1.1,()))<|it (a2<0) (some (v1.1,()))<|(x_dj K a0).bind fun v2=>cond (!v2.1) (some (v1.1,()))<|L0 v1.1.1 v1 v1.1.2.2
def x_ai (K:Nat) (a0:TRow) (a1:Int) (a2:Int):Option y16:=x_ai.b K a0 a1 a2 (x_ai.l0 K a0 a1 a2 K)
def x_bn.l0b (K:Nat) (a0:TRow) (a1:Int) (L0:y28) (q0:Int):Option y11:=
 it (q0<a0.2.2.length) (ix q0 a0.2.2<|ix a1 a0.2.2<|it ((a0.2.2.getD q0.toNat x_cb).2.1.data.toList=(a0.2.2.getD a1.toNat x_cb).2.1.data.toList) (some (true,()))<|L0 (i6 (q0+1)))<|some (false,())
def x_bn.l0 (K:Nat) (a0:TRow) (a1:Int):Nat→y28:=lp1 (x_bn.l0b K a0 a1)
def x_bn.b (K:Nat) (a0:TRow) (a1:Int) (L0:y28):Option y11:=
 L0 (i6 (a1+1))
def x_bn (K:Nat) (a0:TRow) (a1:Int):Option y11:=x_bn.b K a0 a1 (x_bn.l0 K a0 a1 K)
def x_b6.l0b (K:Nat) (a0:TRow) (a1:Int) (L0:y81) (q0:Int) (q1:y8):Option y16:=
 it (q0<a0.2.2.length) (ix q0 a0.2.2<|it ((a0.2.2.getD q0.toNat x_cb).2.1.data.toList=ByteArray.empty.data.toList) (gr 57 q1 [a0.2.2.getD q0.toNat x_cb]<|L0 (i6 (q0+1)) (q1++[a0.2.2.getD q0.toNat x_cb]))<|(x_bn K a0 q0).bind fun v4=>cond (!v4.1) (gr 57 q1 [a0.2.2.getD q0.toNat x_cb]<|L0 (i6 (q0+1)) (q1++[a0.2.2.getD q0.toNat x_cb]))<|ck (a1≠0)<|ck (a1≠0)<|it ((i6 (Int.tdiv (a0.2.2.getD q0.toNat x_cb).1 a1))=(i6 (Int.tdiv (i6 (a0.2.1-1)) a1))) (gr 57 q1 [a0.2.2.getD q0.toNat x_cb]<|L0 (i6 (q0+1)) (q1++[a0.2.2.getD q0.toNat x_cb]))<|L0 (i6 (q0+1)) q1)<|some ((a0.1,a0.2.1,q1),())
def x_b6.l0 (K:Nat) (a0:TRow) (a1:Int):Nat→y81:=lp2 (x_b6.l0b K a0 a1)
def x_b6.b (K:Nat) (a0:TRow) (a1:Int) (L0:y81):Option y16:=
 it (a1<1) ((x_ha a0).bind fun v2=>some (v2.1,()))<|(x_dj K a0).bind fun v1=>cond (!v1.1) ((x_ha a0).bind fun v3=>some (v3.1,()))<|L0 0 []
def x_b6 (K:Nat) (a0:TRow) (a1:Int):Option y16:=x_b6.b K a0 a1 (x_b6.l0 K a0 a1 K)
def x_tq (K:Nat) (a0:x_e) (a1:x_as) (a2:TCmd):Option y60:=
 it (a2.2.2.1=1) ((x_s9 K a0 a1 a2).bind fun v1=>some (v1.1,v1.2.1,()))<|it (a2.2.2.1=3) ((x_k4 K a1 a2).bind fun v2=>some (v2.1,v2.2.1,()))<|it (a2.2.2.1=2) (ix a2.2.2.2.1 a1.1<|(x_c8 K (a1.1.getD a2.2.2.2.1.toNat zRow) a2.2.2.2.2.1).bind fun v3=>it (v3.2.1=1) (some (a1,(6,0,ByteArray.empty,ByteArray.empty),()))<|it (v3.2.1=2) (some (a1,(7,0,ByteArray.empty,ByteArray.empty),()))<|some (a1,(0,v3.1.1,v3.1.2.1,v3.1.2.2.1),()))<|it (a2.2.2.1=9) (ix a2.2.2.2.1 a1.1<|(x_ai K (a1.1.getD a2.2.2.2.1.toNat zRow) a0.2.2.1 a0.2.2.2).bind fun v4=>ix a2.2.2.2.1 a1.1<|ix a2.2.2.2.1 (a1.1.set a2.2.2.2.1.toNat v4.1)<|some ((a1.1.set a2.2.2.2.1.toNat v4.1,a1.2),(0,((a1.1.set a2.2.2.2.1.toNat v4.1).getD a2.2.2.2.1.toNat zRow).1,ByteArray.empty,ByteArray.empty),()))<|ix a2.2.2.2.1 a1.1<|(x_b6 K (a1.1.getD a2.2.2.2.1.toNat zRow) a0.2.2.1).bind fun v5=>ix a2.2.2.2.1 a1.1<|ix a2.2.2.2.1 (a1.1.set a2.2.2.2.1.toNat v5.1)<|some ((a1.1.set a2.2.2.2.1.toNat v5.1,a1.2),(0,((a1.1.set a2.2.2.2.1.toNat v5.1).getD a2.2.2.2.1.toNat zRow).1,ByteArray.empty,ByteArray.empty),())
def x_eq.l0b (K:Nat) (a0:x_e) (a1:x_as) (a2:TCmd) (L0:y103) (q0:Int) (q1:y12) (v1:y6):Option y60:=
 it (q0<q1.length) (ix q0 q1<|(x_a1 K (q1.getD q0.toNat x_co) v1.1).bind fun v2=>ix q0 q1<|L0 (i6 (q0+1)) (q1.set q0.toNat v2.1) v1)<|some ((a1.1,a1.2.1,q1,v1.1,a1.2.2.2.2),(0,v1.1,ByteArray.empty,ByteArray.empty),())
def x_eq.l0 (K:Nat) (a0:x_e) (a1:x_as) (a2:TCmd):Nat→y103:=lp3 (x_eq.l0b K a0 a1 a2)
def x_eq.b (K:Nat) (a0:x_e) (a1:x_as) (a2:TCmd) (L0:y103):Option y60:=
 it (a2.2.2.1=8) ((x_gr 100000 (i6 (a1.2.2.2.1+a2.2.2.2.1))).bind fun v1=>L0 0 a1.2.2.1 v1)<|(x_bb a2.2.2.1 4 7).bind fun v3=>cond v3.1 (it (a2.2.2.2.1≥2) (some (a1,(9,0,ByteArray.empty,ByteArray.empty),()))<|(x_k8 K a0 a1 a2).bind fun v4=>some (v4.1,v4.2.1,()))<|it (a2.2.2.2.1≥a0.1) (some (a1,(5,0,ByteArray.empty,ByteArray.empty),()))<|(x_tq K a0 a1 a2).bind fun v5=>some (v5.1,v5.2.1,())
def x_eq (K:Nat) (a0:x_e) (a1:x_as) (a2:TCmd):Option y60:=x_eq.b K a0 a1 a2 (x_eq.l0 K a0 a1 a2 K)
def x_wp (K:Nat) (a0:x_e) (a1:x_as) (a2:TCmd):Option y60:=
 it (a2.1<0) ((x_8 K a1).bind fun v1=>some (v1.1,(0,0,ByteArray.empty,ByteArray.empty),()))<|ix a2.1 a1.2.2.2.2.1<|it (a2.2.1≤(a1.2.2.2.2.1.getD a2.1.toNat 0)) ((x_8 K a1).bind fun v2=>ix a2.1 a1.2.2.2.2.2<|some (v2.1,a1.2.2.2.2.2.getD a2.1.toNat x_cc,()))<|(x_8 K a1).bind fun v3=>(x_eq K a0 v3.1 a2).bind fun v4=>ix a2.1 v4.1.2.2.2.2.1<|ix a2.1 v4.1.2.2.2.2.2<|some ((v4.1.1,v4.1.2.1,v4.1.2.2.1,v4.1.2.2.2.1,v4.1.2.2.2.2.1.set a2.1.toNat a2.2.1,v4.1.2.2.2.2.2.set a2.1.toNat v4.2.1),v4.2.1,())
def x_po (K:Nat) (a0:x_e) (a1:x_as) (a2:TCmd):Option y17:=
 (x_wp K a0 a1 a2).bind fun v1=>some (v1.1,())
def x_ds.l0b (K:Nat) (a0:y1) (a1:Int) (L0:y112) (v1:y27) (q0:Int) (q1:x_as):Option y25:=
 (x_gr a1 v1.1).bind fun v2=>it (q0<v2.1) (ix (i6 (q0-a0.2.2.1.2.1.2.2.1.1)) a0.2.2.1.2.1.2.2.1.2.2<|(x_po K a0.1 q1 (a0.2.2.1.2.1.2.2.1.2.2.getD ((i6 (q0-a0.2.2.1.2.1.2.2.1.1)).toNat) x_at).2).bind fun v3=>L0 v1 (i6 (q0+1)) v3.1)<|some ((a0.1,a0.2.1,(a0.2.2.1.1,a0.2.2.1.2.1,a0.2.2.1.2.2.1,a0.2.2.1.2.2.2.1,a0.2.2.1.2.2.2.2.1,a0.2.2.1.2.2.2.2.2.1,q0,q1,a0.2.2.1.2.2.2.2.2.2.2.2),a0.2.2.2),())
def x_ds.l0 (K:Nat) (a0:y1) (a1:Int):Nat→y112:=lp3 (x_ds.l0b K a0 a1)
def x_ds.b (K:Nat) (a0:y1) (a1:Int) (L0:y112):Option y25:=
 (x_dk a0.2.2.1.2.1.2.2.1).bind fun v1=>L0 v1 a0.2.2.1.2.2.2.2.2.2.1 a0.2.2.1.2.2.2.2.2.2.2.1
def x_ds (K:Nat) (a0:y1) (a1:Int):Option y25:=x_ds.b K a0 a1 (x_ds.l0 K a0 a1 K)
def x_fb.j0 (K:Nat) (p8:Bool) (v1:y27) (a1:TRpc) (v3:y25) (v5:y36) (a0:y1) (v6:y27):Option y25:=
 cond p8 ((x_gr v1.1 (i6 (a1.2.2.2.2.1-1))).bind fun v9=>(x_fs v9.1 0).bind fun v10=>(x_d6 K v3.1 a1.2.1 false v10.1).bind fun v11=>some (v11.1,()))<|(x_af K v5.1.2.2 a0.2.2.1.2.1.2.2.1.2.2).bind fun v12=>cond (!v12.1) ((x_bi K v3.1 v6.1).bind fun v13=>(x_ex K v13.1 (2,a1.2.2.2.2.2.1,0,a1.2.2.2.2.1,a1.2.2.2.2.2.2.2.1,ByteArray.empty)).bind fun v14=>cond v14.1.2.2.2 ((x_gr a1.2.2.2.2.2.2.1 (i6 (a1.2.2.2.2.1+(a1.2.2.2.2.2.2.2.1.length:Int)))).bind fun v15=>(x_ds K v14.1 v15.1).bind fun v16=>(x_d6 K v16.1 a1.2.1 true (i6 (a1.2.2.2.2.1+(a1.2.2.2.2.2.2.2.1.length:Int)))).bind fun v17=>some (v17.1,()))<|(x_d6 K v14.1 a1.2.1 true (i6 (a1.2.2.2.2.1+(a1.2.2.2.2.2.2.2.1.length:Int)))).bind fun v18=>some (v18.1,()))<|cond v3.1.2.2.2 ((x_gr a1.2.2.2.2.2.2.1 (i6 (a1.2.2.2.2.1+(a1.2.2.2.2.2.2.2.1.length:Int)))).bind fun v19=>(x_ds K v3.1 v19.1).bind fun v20=>(x_d6 K v20.1 a1.2.1 true (i6 (a1.2.2.2.2.1+(a1.2.2.2.2.2.2.2.1.length:Int)))).bind fun v21=>some (v21.1,()))<|(x_d6 K v3.1 a1.2.1 true (i6 (a1.2.2.2.2.1+(a1.2.2.2.2.2.2.2.1.length:Int)))).bind fun v22=>some (v22.1,())
def x_fb (K:Nat) (a0:y1) (a1:TRpc):Option y25:=
 (x_dk a0.2.2.1.2.1.2.2.1).bind fun v1=>it (a1.2.2.2.1<a0.2.2.1.2.1.1) ((x_d6 K a0 a1.2.1 false v1.1).bind fun v2=>some (v2.1,()))<|(x_fh K a0 a1.2.2.2.1).bind fun v3=>it (a1.2.2.2.2.1<a0.2.2.1.2.1.2.2.1.1) ((x_d6 K v3.1 a1.2.1 true a0.2.2.1.2.1.2.2.1.1).bind fun v4=>some (v4.1,()))<|(x_c2 K a0.2.2.1.2.1.2.2.1 a1.2.2.2.2.1 a1.2.2.2.2.2.1 a1.2.2.2.2.2.2.2.1).bind fun v5=>(x_dk v5.1).bind fun v6=>cond (!v5.2.1) (x_fb.j0 K true v1 a1 v3 v5 a0 v6)<|it (v6.2.1>v3.1.2.2.1.2.1.1) (x_fb.j0 K true v1 a1 v3 v5 a0 v6)<|(x_ci K v3.1.2.2.1 v5.1).bind fun v7=>x_fb.j0 K v7.1 v1 a1 v3 v5 a0 v6
def x_h6 (K:Nat) (a0:y1) (a1:TRpc):Option y25:=
 (x_dk a0.2.2.1.2.1.2.2.1).bind fun v1=>it (a1.2.2.2.1<a0.2.2.1.2.1.1) ((x_d6 K a0 a1.2.1 false v1.1).bind fun v2=>some (v2.1,()))<|(x_fh K a0 a1.2.2.2.1).bind fun v3=>it (a1.2.2.2.2.1≤v3.1.2.2.1.2.2.2.2.2.2.1) ((x_d6 K v3.1 a1.2.1 true v3.1.2.2.1.2.2.2.2.2.2.1).bind fun v4=>some (v4.1,()))<|(x_fw a0.2.2.1.2.1.2.2.1 a1.2.2.2.2.1).bind fun v5=>it (v5.1=a1.2.2.2.2.2.1) ((x_ds K v3.1 a1.2.2.2.2.1).bind fun v6=>(x_d6 K v6.1 a1.2.1 true a1.2.2.2.2.1).bind fun v7=>some (v7.1,()))<|(x_ix K v3.1.1 (x_ck a1.2.2.2.2.2.2.2.2.2)).bind fun v8=>cond (!v8.2.1) (some (v3.1,()))<|it (a1.2.2.2.2.2.1>v3.1.2.2.1.2.1.1) (some (v3.1,()))<|(x_bi K (v3.1.1,v3.1.2.1,(v3.1.2.2.1.1,v3.1.2.2.1.2.1,v3.1.2.2.1.2.2.1,v3.1.2.2.1.2.2.2.1,v3.1.2.2.1.2.2.2.2.1,v3.1.2.2.1.2.2.2.2.2.1,a1.2.2.2.2.1,v8.1,v3.1.2.2.1.2.2.2.2.2.2.2.2),v3.1.2.2.2) a1.2.2.2.2.1).bind fun v9=>(x_ex K v9.1 (3,a1.2.2.2.2.2.1,0,a1.2.2.2.2.1,[],a1.2.2.2.2.2.2.2.2.2)).bind fun v10=>(x_d6 K v10.1 a1.2.1 true a1.2.2.2.2.1).bind fun v11=>some (v11.1,())
def x_9.l0b (K:Nat) (a0:y1) (L1:y97) (q2:Int):Option y25:=
 it (q2>a0.2.2.1.2.2.2.2.2.2.1) (it (a0.2.2.1.2.2.1=2) (L1 q2 0 0)<|some (a0,()))<|some (a0,())
def x_9.l1b (K:Nat) (a0:y1) (L0:y34) (L1:y97) (q2:Int) (q3:Int) (q4:Int):Option y25:=
 it (q4<a0.2.1) (ix q4 a0.2.2.1.2.2.2.2.2.1<|(x_p9 (decide ((a0.2.2.1.2.2.2.2.2.1.getD q4.toNat 0)≥q2))).bind fun v2=>L1 q2 (i6 (q3+v2.1)) (i6 (q4+1)))<|(x_fw a0.2.2.1.2.1.2.2.1 q2).bind fun v3=>it (v3.1=a0.2.2.1.2.1.1) ((x_nn a0.2.1).bind fun v4=>it (q3≥v4.1) ((x_ds K a0 q2).bind fun v5=>some (v5.1,()))<|L0 (i6 (q2-1)))<|L0 (i6 (q2-1))
def x_9.l1 (K:Nat) (a0:y1) (L0:y34):Nat→y97:=lp3 (x_9.l1b K a0 L0)
def x_9.l0 (K:Nat) (a0:y1):Nat→y34:=lp1 fun r=>x_9.l0b K a0 (x_9.l1 K a0 r K)
def x_9.b (K:Nat) (a0:y1) (L0:y34):Option y25:=
 (x_dk a0.2.2.1.2.1.2.2.1).bind fun v1=>L0 v1.1
def x_9 (K:Nat) (a0:y1):Option y25:=x_9.b K a0 (x_9.l0 K a0 K)
def x_du.j0 (K:Nat) (a1:TRpc) (a0:y1):Option y25:=
 ix a1.2.1 a0.2.2.1.2.2.2.2.1<|ix a1.2.1 a0.2.2.1.2.2.2.2.2.1<|(x_fs (a0.2.2.1.2.2.2.2.1.getD a1.2.1.toNat 0) (i6 ((a0.2.2.1.2.2.2.2.2.1.getD a1.2.1.toNat 0)+1))).bind fun v6=>ix a1.2.1 a0.2.2.1.2.2.2.2.1<|(x_9 K (a0.1,a0.2.1,(a0.2.2.1.1,a0.2.2.1.2.1,a0.2.2.1.2.2.1,a0.2.2.1.2.2.2.1,a0.2.2.1.2.2.2.2.1.set a1.2.1.toNat v6.1,a0.2.2.1.2.2.2.2.2),a0.2.2.2)).bind fun v7=>some (v7.1,())
def x_du (K:Nat) (a0:y1) (a1:TRpc):Option y25:=
 nit (a0.2.2.1.2.2.1=2) (some (a0,()))<|nit (a1.2.2.2.1=a0.2.2.1.2.1.1) (some (a0,()))<|(x_dk a0.2.2.1.2.1.2.2.1).bind fun v1=>cond (!a1.2.2.2.2.2.2.2.2.1) (ix a1.2.1 a0.2.2.1.2.2.2.2.1<|(x_gr (a0.2.2.1.2.2.2.2.1.getD a1.2.1.toNat 0) (i6 (a1.2.2.2.2.1+1))).bind fun v2=>ix a1.2.1 a0.2.2.1.2.2.2.2.2.1<|(x_fs v2.1 (i6 ((a0.2.2.1.2.2.2.2.2.1.getD a1.2.1.toNat 0)+1))).bind fun v3=>ix a1.2.1 a0.2.2.1.2.2.2.2.1<|some ((a0.1,a0.2.1,(a0.2.2.1.1,a0.2.2.1.2.1,a0.2.2.1.2.2.1,a0.2.2.1.2.2.2.1,a0.2.2.1.2.2.2.2.1.set a1.2.1.toNat v3.1,a0.2.2.1.2.2.2.2.2),a0.2.2.2),()))<|ix a1.2.1 a0.2.2.1.2.2.2.2.2.1<|it (a1.2.2.2.2.1>(a0.2.2.1.2.2.2.2.2.1.getD a1.2.1.toNat 0)) (it (a1.2.2.2.2.1≤v1.1) (ix a1.2.1 a0.2.2.1.2.2.2.2.2.1<|ix a1.2.1 a0.2.2.1.2.2.2.2.1<|ix a1.2.1 (a0.2.2.1.2.2.2.2.2.1.set a1.2.1.toNat a1.2.2.2.2.1)<|(x_fs (a0.2.2.1.2.2.2.2.1.getD a1.2.1.toNat 0) (i6 (((a0.2.2.1.2.2.2.2.2.1.set a1.2.1.toNat a1.2.2.2.2.1).getD a1.2.1.toNat 0)+1))).bind fun v4=>ix a1.2.1 a0.2.2.1.2.2.2.2.1<|(x_9 K (a0.1,a0.2.1,(a0.2.2.1.1,a0.2.2.1.2.1,a0.2.2.1.2.2.1,a0.2.2.1.2.2.2.1,a0.2.2.1.2.2.2.2.1.set a1.2.1.toNat v4.1,a0.2.2.1.2.2.2.2.2.1.set a1.2.1.toNat a1.2.2.2.2.1,a0.2.2.1.2.2.2.2.2.2),a0.2.2.2)).bind fun v5=>some (v5.1,()))<|x_du.j0 K a1 a0)<|x_du.j0 K a1 a0
def x_ih.j0 (K:Nat) (p13:y25) (a1:x_cg) (a0:x_e) (a2:Int):Option y41:=
 cond (!p13.1.2.2.2) ((x_3 K a1).bind fun v15=>some (v15.1,false,()))<|(x_ac K a0 p13.1.2.2.1 a2).bind fun v14=>cond (!v14.1) ((x_3 K a1).bind fun v16=>some (v16.1,false,()))<|some (p13.1.2.2.1,true,())
def x_ih.j1 (K:Nat) (p25:y25) (a1:x_cg) (a0:x_e) (a2:Int):Option y41:=
 cond (!p25.1.2.2.2) ((x_3 K a1).bind fun v27=>some (v27.1,false,()))<|(x_ac K a0 p25.1.2.2.1 a2).bind fun v26=>cond (!v26.1) ((x_3 K a1).bind fun v28=>some (v28.1,false,()))<|some (p25.1.2.2.1,true,())
def x_ih (K:Nat) (a0:x_e) (a1:x_cg) (a2:Int) (a3:TRpc):Option y41:=
 (x_ac K a0 a1 a2).bind fun v1=>cond (!v1.1) ((x_3 K a1).bind fun v3=>some (v3.1,false,()))<|(x_n0 K a3 a2).bind fun v2=>cond (!v2.1) ((x_3 K a1).bind fun v4=>some (v4.1,false,()))<|nit (a3.2.2.1=a1.1) ((x_3 K a1).bind fun v5=>some (v5.1,false,()))<|(x_3 K a1).bind fun v6=>it (a3.2.2.2.1>a1.2.1.1) ((x_fh K (a0,a2,v6.1,true) a3.2.2.2.1).bind fun v7=>it (a3.1=1) ((x_ez K v7.1 a3).bind fun v8=>x_ih.j0 K v8 a1 a0 a2)<|it (a3.1=2) ((x_bu K v7.1 a3).bind fun v9=>cond (!v9.1.2.2.2) ((x_3 K a1).bind fun v18=>some (v18.1,false,()))<|(x_ac K a0 v9.1.2.2.1 a2).bind fun v17=>cond (!v17.1) ((x_3 K a1).bind fun v19=>some (v19.1,false,()))<|some (v9.1.2.2.1,true,()))<|it (a3.1=3) ((x_fb K v7.1 a3).bind fun v10=>x_ih.j0 K v10 a1 a0 a2)<|it (a3.1=5) ((x_h6 K v7.1 a3).bind fun v11=>x_ih.j0 K v11 a1 a0 a2)<|(x_du K v7.1 a3).bind fun v12=>x_ih.j0 K v12 a1 a0 a2)<|it (a3.1=1) ((x_ez K (a0,a2,v6.1,true) a3).bind fun v20=>x_ih.j1 K v20 a1 a0 a2)<|it (a3.1=2) ((x_bu K (a0,a2,v6.1,true) a3).bind fun v21=>cond (!v21.1.2.2.2) ((x_3 K a1).bind fun v30=>some (v30.1,false,()))<|(x_ac K a0 v21.1.2.2.1 a2).bind fun v29=>cond (!v29.1) ((x_3 K a1).bind fun v31=>some (v31.1,false,()))<|some (v21.1.2.2.1,true,()))<|it (a3.1=3) ((x_fb K (a0,a2,v6.1,true) a3).bind fun v22=>x_ih.j1 K v22 a1 a0 a2)<|it (a3.1=5) ((x_h6 K (a0,a2,v6.1,true) a3).bind fun v23=>x_ih.j1 K v23 a1 a0 a2)<|(x_du K (a0,a2,v6.1,true) a3).bind fun v24=>x_ih.j1 K v24 a1 a0 a2
def x_pc (K:Nat) (a0:x_a0) (a1:x_no):Option y43:=
 (x_bb a1.2.1 0 (i6 ((a0.2.2.2.1.length:Int)-1))).bind fun v1=>cond (!v1.1) (some (a0,2,()))<|ix a1.2.1 a0.2.2.2.1<|it (a1.1=6) (it ((a0.2.2.2.1.length:Int)=40) (some (a0,4,()))<|(x_j5 (a0.2.2.2.1.getD a1.2.1.toNat zRpc)).bind fun v2=>gr 105 a0.2.2.2.1 [v2.1]<|some ((a0.1,a0.2.1,a0.2.2.1,a0.2.2.2.1++[v2.1],a0.2.2.2.2),0,()))<|ck (a1.2.1=a1.2.1)<|ck (0≤a1.2.1)<|ck (a1.2.1≤a0.2.2.2.1.length)<|gr 105 [] ((a0.2.2.2.1.take a1.2.1.toNat).drop 0)<|ck ((a0.2.2.2.1.length:Int)=(a0.2.2.2.1.length:Int))<|ck (0≤(i6 (a1.2.1+1)))<|ck ((i6 (a1.2.1+1))≤a0.2.2.2.1.length)<|ck ((a0.2.2.2.1.length:Int)≤a0.2.2.2.1.length)<|gr 105 ([]++((a0.2.2.2.1.take a1.2.1.toNat).drop 0)) ((a0.2.2.2.1.take ((a0.2.2.2.1.length:Int).toNat)).drop ((i6 (a1.2.1+1)).toNat))<|it (a1.1=4) (ix (a0.2.2.2.1.getD a1.2.1.toNat zRpc).2.2.1 a0.2.2.1<|(x_ih K a0.1 (a0.2.2.1.getD ((a0.2.2.2.1.getD a1.2.1.toNat zRpc).2.2.1.toNat) x_d2) a0.2.1 (a0.2.2.2.1.getD a1.2.1.toNat zRpc)).bind fun v3=>cond v3.2.1 (ix (a0.2.2.2.1.getD a1.2.1.toNat zRpc).2.2.1 a0.2.2.1<|some ((a0.1,a0.2.1,a0.2.2.1.set ((a0.2.2.2.1.getD a1.2.1.toNat zRpc).2.2.1.toNat) v3.1,([]++((a0.2.2.2.1.take a1.2.1.toNat).drop 0))++((a0.2.2.2.1.take ((a0.2.2.2.1.length:Int).toNat)).drop ((i6 (a1.2.1+1)).toNat)),a0.2.2.2.2),0,()))<|some ((a0.1,a0.2.1,a0.2.2.1,([]++((a0.2.2.2.1.take a1.2.1.toNat).drop 0))++((a0.2.2.2.1.take ((a0.2.2.2.1.length:Int).toNat)).drop ((i6 (a1.2.1+1)).toNat)),a0.2.2.2.2),0,()))<|some ((a0.1,a0.2.1,a0.2.2.1,([]++((a0.2.2.2.1.take a1.2.1.toNat).drop 0))++((a0.2.2.2.1.take ((a0.2.2.2.1.length:Int).toNat)).drop ((i6 (a1.2.1+1)).toNat)),a0.2.2.2.2),0,())
def x_gi.l0b (K:Nat) (a0:x_a0) (a1:Int) (a2:Int) (L0:y28) (q0:Int):Option y11:=
 it (q0<a0.2.2.2.2.2.2.1.length) (ix q0 a0.2.2.2.2.2.2.1<|it ((a0.2.2.2.2.2.2.1.getD q0.toNat zHeard).1=a1) (ix q0 a0.2.2.2.2.2.2.1<|it ((a0.2.2.2.2.2.2.1.getD q0.toNat zHeard).2.1=a2) (some (true,()))<|L0 (i6 (q0+1)))<|L0 (i6 (q0+1)))<|some (false,())
def x_gi.l0 (K:Nat) (a0:x_a0) (a1:Int) (a2:Int):Nat→y28:=lp1 (x_gi.l0b K a0 a1 a2)
def x_gi.b (K:Nat) (a0:x_a0) (a1:Int) (a2:Int) (L0:y28):Option y11:=
 L0 0
def x_gi (K:Nat) (a0:x_a0) (a1:Int) (a2:Int):Option y11:=x_gi.b K a0 a1 a2 (x_gi.l0 K a0 a1 a2 K)
def x_k3 (K:Nat) (a0:x_a0) (a1:x_no):Option y43:=
 ix a1.2.2.1 a0.2.2.2.2.1<|ix a1.2.1 a0.2.2.1<|it ((a0.2.2.2.2.1.getD a1.2.2.1.toNat zCmd).2.1=0) (some (a0,3,()))<|(x_gi K a0 a1.2.2.1 (a0.2.2.2.2.1.getD a1.2.2.1.toNat zCmd).2.1).bind fun v1=>cond v1.1 (some (a0,3,()))<|ix a1.2.2.1 (a0.2.2.1.getD a1.2.1.toNat x_d2).2.2.2.2.2.2.2.1.2.2.2.2.1<|it (((a0.2.2.1.getD a1.2.1.toNat x_d2).2.2.2.2.2.2.2.1.2.2.2.2.1.getD a1.2.2.1.toNat 0)<(a0.2.2.2.2.1.getD a1.2.2.1.toNat zCmd).2.1) (some (a0,3,()))<|it ((a0.2.2.2.2.2.2.1.length:Int)≥300) (some (a0,4,()))<|ix a1.2.2.1 (a0.2.2.1.getD a1.2.1.toNat x_d2).2.2.2.2.2.2.2.1.2.2.2.2.2<|ix a1.2.2.1 a0.2.2.2.2.2.1<|gr 81 a0.2.2.2.2.2.2.1 [(a1.2.2.1,(a0.2.2.2.2.1.getD a1.2.2.1.toNat zCmd).2.1,(a0.2.2.1.getD a1.2.1.toNat x_d2).2.2.2.2.2.2.2.1.2.2.2.2.2.getD a1.2.2.1.toNat x_cc,a0.2.2.2.2.2.1.getD a1.2.2.1.toNat 0,(a0.2.2.2.2.2.2.2.length:Int))]<|some ((a0.1,a0.2.1,a0.2.2.1,a0.2.2.2.1,a0.2.2.2.2.1,a0.2.2.2.2.2.1,a0.2.2.2.2.2.2.1++[(a1.2.2.1,(a0.2.2.2.2.1.getD a1.2.2.1.toNat zCmd).2.1,(a0.2.2.1.getD a1.2.1.toNat x_d2).2.2.2.2.2.2.2.1.2.2.2.2.2.getD a1.2.2.1.toNat x_cc,a0.2.2.2.2.2.1.getD a1.2.2.1.toNat 0,(a0.2.2.2.2.2.2.2.length:Int))],a0.2.2.2.2.2.2.2),0,())
def x_h3 (K:Nat) (a0:x_e) (a1:x_cg) (a2:Int) (a3:TCmd):Option y41:=
 (x_ac K a0 a1 a2).bind fun v1=>cond (!v1.1) ((x_3 K a1).bind fun v3=>some (v3.1,false,()))<|nit (a1.2.2.1=2) ((x_3 K a1).bind fun v4=>some (v4.1,false,()))<|(x_km K a3).bind fun v2=>cond (!v2.1) ((x_3 K a1).bind fun v5=>some (v5.1,false,()))<|(x_dk a1.2.1.2.2.1).bind fun v6=>(x_gq K a0 a1 (2,v6.2.1,0,v6.1,[(a1.2.1.1,a3)],ByteArray.empty)).bind fun v7=>cond (!v7.2.1) ((x_3 K a1).bind fun v8=>some (v8.1,false,()))<|it ((v7.1.2.1.2.2.1.2.2.length:Int)=a1.2.1.2.2.1.2.2.length) ((x_3 K a1).bind fun v9=>some (v9.1,false,()))<|some (v7.1,true,())
def x_g5.j0 (K:Nat) (a1:x_no) (a0:x_a0):Option y43:=
 ix a1.2.1 a0.2.2.1<|(x_h3 K a0.1 (a0.2.2.1.getD a1.2.1.toNat x_d2) a0.2.1 (a1.2.2.1,i6 ((a0.2.2.2.2.1.getD a1.2.2.1.toNat zCmd).2.1+1),a1.2.2.2.2.2)).bind fun v2=>cond (!v2.2.1) (some (a0,3,()))<|it ((i6 ((a0.2.2.2.2.1.getD a1.2.2.1.toNat zCmd).2.1+1))=0) (some (a0,3,()))<|ix a1.2.1 a0.2.2.1<|it (a1.1=7) (ix a1.2.2.1 a0.2.2.2.2.1<|ix a1.2.2.1 a0.2.2.2.2.2.1<|some ((a0.1,a0.2.1,a0.2.2.1.set a1.2.1.toNat v2.1,a0.2.2.2.1,a0.2.2.2.2.1.set a1.2.2.1.toNat (a1.2.2.1,i6 ((a0.2.2.2.2.1.getD a1.2.2.1.toNat zCmd).2.1+1),a1.2.2.2.2.2),a0.2.2.2.2.2.1.set a1.2.2.1.toNat (a0.2.2.2.2.2.2.2.length:Int),a0.2.2.2.2.2.2),0,()))<|some ((a0.1,a0.2.1,a0.2.2.1.set a1.2.1.toNat v2.1,a0.2.2.2),0,())
def x_g5 (K:Nat) (a0:x_a0) (a1:x_no):Option y43:=
 ix a1.2.2.1 a0.2.2.2.2.1<|it (a1.1=7) (it ((a0.2.2.2.2.1.getD a1.2.2.1.toNat zCmd).2.1>0) ((x_gi K a0 a1.2.2.1 (a0.2.2.2.2.1.getD a1.2.2.1.toNat zCmd).2.1).bind fun v1=>cond (!v1.1) (some (a0,3,()))<|x_g5.j0 K a1 a0)<|x_g5.j0 K a1 a0)<|ix a1.2.1 a0.2.2.1<|(x_h3 K a0.1 (a0.2.2.1.getD a1.2.1.toNat x_d2) a0.2.1 (a0.2.2.2.2.1.getD a1.2.2.1.toNat zCmd)).bind fun v3=>cond (!v3.2.1) (some (a0,3,()))<|it ((a0.2.2.2.2.1.getD a1.2.2.1.toNat zCmd).2.1=0) (some (a0,3,()))<|ix a1.2.1 a0.2.2.1<|it (a1.1=7) (ix a1.2.2.1 a0.2.2.2.2.1<|ix a1.2.2.1 a0.2.2.2.2.2.1<|some ((a0.1,a0.2.1,a0.2.2.1.set a1.2.1.toNat v3.1,a0.2.2.2.1,a0.2.2.2.2.1.set a1.2.2.1.toNat (a0.2.2.2.2.1.getD a1.2.2.1.toNat zCmd),a0.2.2.2.2.2.1.set a1.2.2.1.toNat (a0.2.2.2.2.2.2.2.length:Int),a0.2.2.2.2.2.2),0,()))<|some ((a0.1,a0.2.1,a0.2.2.1.set a1.2.1.toNat v3.1,a0.2.2.2),0,())
def x_n9.l0b (K:Nat) (a0:x_e) (a1:x_cg) (a2:Int) (L0:y131) (v7:y27) (q0:Int) (q1:y25) (q2:Int) (q3:List Bool):Option y41:=
 it (q0<a2) (nit (q0=a1.1) ((x_ea K (q1.1.1,q1.1.2.1,(q1.1.2.2.1.1,q1.1.2.2.1.2.1,q2,q3,q1.1.2.2.1.2.2.2.2),q1.1.2.2.2) (1,0,q0,0,v7.1,v7.2.1,0,[],false,ByteArray.empty)).bind fun v8=>L0 v7 (i6 (q0+1)) v8 v8.1.2.2.1.2.2.1 v8.1.2.2.1.2.2.2.1)<|L0 v7 (i6 (q0+1)) q1 q2 q3)<|cond (!q1.1.2.2.2) ((x_3 K a1).bind fun v9=>some (v9.1,false,()))<|(x_nn a2).bind fun v10=>it (v10.1=1) ((x_jd K (q1.1.1,q1.1.2.1,(q1.1.2.2.1.1,q1.1.2.2.1.2.1,q2,q3,q1.1.2.2.1.2.2.2.2),q1.1.2.2.2)).bind fun v11=>some (v11.1.2.2.1,true,()))<|some ((q1.1.2.2.1.1,q1.1.2.2.1.2.1,q2,q3,q1.1.2.2.1.2.2.2.2),true,())
def x_n9.l0 (K:Nat) (a0:x_e) (a1:x_cg) (a2:Int):Nat→y131:=lp5 (x_n9.l0b K a0 a1 a2)
def x_n9.b (K:Nat) (a0:x_e) (a1:x_cg) (a2:Int) (L0:y131):Option y41:=
 (x_ac K a0 a1 a2).bind fun v1=>cond (!v1.1) ((x_3 K a1).bind fun v2=>some (v2.1,false,()))<|it (a1.2.2.1=2) ((x_3 K a1).bind fun v3=>some (v3.1,false,()))<|it (a1.2.1.1=300) ((x_3 K a1).bind fun v4=>some (v4.1,false,()))<|(x_3 K a1).bind fun v5=>(x_ex K (a0,a2,v5.1,true) (1,i6 (a1.2.1.1+1),a1.1,0,[],ByteArray.empty)).bind fun v6=>ck (a2=a2)<|ck (0≤a2)<|ck (a2.toNat*2≤x_di)<|ix a1.1 (List.replicate a2.toNat false)<|(x_dk a1.2.1.2.2.1).bind fun v7=>L0 v7 0 v6 1 ((List.replicate a2.toNat false).set a1.1.toNat true)
def x_n9 (K:Nat) (a0:x_e) (a1:x_cg) (a2:Int):Option y41:=x_n9.b K a0 a1 a2 (x_n9.l0 K a0 a1 a2 K)
def x_lu (a0:x_a0) (a1:x_cg) (a2:Bool):Option y43:=
 cond (!a2) (some (a0,3,()))<|ix a1.1 a0.2.2.1<|some ((a0.1,a0.2.1,a0.2.2.1.set a1.1.toNat a1,a0.2.2.2),0,())
def x_b.l0b (K:Nat) (a0:x_as) (L1:y98) (L2:y65) (q2:y0) (q3:Int):Option y29:=
 it (q3<a0.1.length) (ix q3 a0.1<|(x_bq K [(a0.1.getD q3.toNat zRow).1,(a0.1.getD q3.toNat zRow).2.1,((a0.1.getD q3.toNat zRow).2.2.length:Int)]).bind fun v2=>gr 2 q2 v2.1<|L1 (q2++v2.1) q3 0)<|(x_ba K (a0.2.1.length:Int)).bind fun v7=>gr 2 q2 v7.1<|L2 (q2++v7.1) 0
def x_b.l1b (K:Nat) (a0:x_as) (L0:y65) (L1:y98) (q4:y0) (q3:Int) (q5:Int):Option y29:=
 it (q5<(a0.1.getD q3.toNat zRow).2.2.length) (ix q5 (a0.1.getD q3.toNat zRow).2.2<|(x_ba K ((a0.1.getD q3.toNat zRow).2.2.getD q5.toNat x_cb).1).bind fun v3=>gr 2 q4 v3.1<|(x_d9 K ((a0.1.getD q3.toNat zRow).2.2.getD q5.toNat x_cb).2.1).bind fun v4=>gr 2 (q4++v3.1) v4.1<|(x_d9 K ((a0.1.getD q3.toNat zRow).2.2.getD q5.toNat x_cb).2.2.1).bind fun v5=>gr 2 ((q4++v3.1)++v4.1) v5.1<|(x_bq K [((a0.1.getD q3.toNat zRow).2.2.getD q5.toNat x_cb).2.2.2.1,((a0.1.getD q3.toNat zRow).2.2.getD q5.toNat x_cb).2.2.2.2]).bind fun v6=>gr 2 (((q4++v3.1)++v4.1)++v5.1) v6.1<|L1 ((((q4++v3.1)++v4.1)++v5.1)++v6.1) q3 (i6 (q5+1)))<|L0 q4 (i6 (q3+1))
def x_b.l2b (K:Nat) (a0:x_as) (L3:y98) (L4:y65) (q8:y0) (q9:Int):Option y29:=
 it (q9<a0.2.1.length) (ix q9 a0.2.1<|(x_bq K [(a0.2.1.getD q9.toNat x_bc).1,(a0.2.1.getD q9.toNat x_bc).2.1,(a0.2.1.getD q9.toNat x_bc).2.2.1,i6 ((a0.2.1.getD q9.toNat x_bc).2.2.2.1+1),((a0.2.1.getD q9.toNat x_bc).2.2.2.2.length:Int)]).bind fun v8=>gr 2 q8 v8.1<|L3 (q8++v8.1) q9 0)<|(x_ba K (a0.2.2.1.length:Int)).bind fun v10=>gr 2 q8 v10.1<|L4 (q8++v10.1) 0
def x_b.l3b (K:Nat) (a0:x_as) (L2:y65) (L3:y98) (q10:y0) (q9:Int) (q11:Int):Option y29:=
 it (q11<(a0.2.1.getD q9.toNat x_bc).2.2.2.2.length) (ix q11 (a0.2.1.getD q9.toNat x_bc).2.2.2.2<|ix q11 (a0.2.1.getD q9.toNat x_bc).2.2.2.2<|(x_bq K [((a0.2.1.getD q9.toNat x_bc).2.2.2.2.getD q11.toNat x_io).1,((a0.2.1.getD q9.toNat x_bc).2.2.2.2.getD q11.toNat x_io).2]).bind fun v9=>gr 2 q10 v9.1<|L3 (q10++v9.1) q9 (i6 (q11+1)))<|L2 q10 (i6 (q9+1))
def x_b.l4b (K:Nat) (a0:x_as) (L5:y98) (L6:y65) (q14:y0) (q15:Int):Option y29:=
 it (q15<a0.2.2.1.length) (ix q15 a0.2.2.1<|(x_bq K [(a0.2.2.1.getD q15.toNat x_co).1,((a0.2.2.1.getD q15.toNat x_co).2.1.length:Int)]).bind fun v11=>gr 2 q14 v11.1<|L5 (q14++v11.1) q15 0)<|(x_ba K a0.2.2.2.1).bind fun v14=>gr 2 q14 v14.1<|L6 (q14++v14.1) 0
def x_b.l5b (K:Nat) (a0:x_as) (L4:y65) (L5:y98) (q16:y0) (q15:Int) (q17:Int):Option y29:=
 it (q17<(a0.2.2.1.getD q15.toNat x_co).2.1.length) (ix q17 (a0.2.2.1.getD q15.toNat x_co).2.1<|ix q17 (a0.2.2.1.getD q15.toNat x_co).2.2.1<|(x_bq K [(a0.2.2.1.getD q15.toNat x_co).2.1.getD q17.toNat 0,(a0.2.2.1.getD q15.toNat x_co).2.2.1.getD q17.toNat 0]).bind fun v12=>gr 2 q16 v12.1<|L5 (q16++v12.1) q15 (i6 (q17+1)))<|(x_bq K (a0.2.2.1.getD q15.toNat x_co).2.2.2).bind fun v13=>gr 2 q16 v13.1<|L4 (q16++v13.1) (i6 (q15+1))
def x_b.l6b (K:Nat) (a0:x_as) (L6:y65) (q18:y0) (q19:Int):Option y29:=
 it (q19<a0.2.2.2.2.1.length) (ix q19 a0.2.2.2.2.2<|ix q19 a0.2.2.2.2.1<|(x_bq K [a0.2.2.2.2.1.getD q19.toNat 0,(a0.2.2.2.2.2.getD q19.toNat x_cc).1,i6 ((a0.2.2.2.2.2.getD q19.toNat x_cc).2.1+1)]).bind fun v15=>gr 2 q18 v15.1<|(x_d9 K (a0.2.2.2.2.2.getD q19.toNat x_cc).2.2.1).bind fun v16=>gr 2 (q18++v15.1) v16.1<|(x_d9 K (a0.2.2.2.2.2.getD q19.toNat x_cc).2.2.2).bind fun v17=>gr 2 ((q18++v15.1)++v16.1) v17.1<|L6 (((q18++v15.1)++v16.1)++v17.1) (i6 (q19+1)))<|some (q18,())
def x_b.l1 (K:Nat) (a0:x_as) (L0:y65):Nat→y98:=lp3 (x_b.l1b K a0 L0)
def x_b.l3 (K:Nat) (a0:x_as) (L2:y65):Nat→y98:=lp3 (x_b.l3b K a0 L2)
def x_b.l5 (K:Nat) (a0:x_as) (L4:y65):Nat→y98:=lp3 (x_b.l5b K a0 L4)
def x_b.l6 (K:Nat) (a0:x_as):Nat→y65:=lp2 (x_b.l6b K a0)
def x_b.l4 (K:Nat) (a0:x_as):Nat→y65:=lp2 fun r=>x_b.l4b K a0 (x_b.l5 K a0 r K) (x_b.l6 K a0 K)
def x_b.l2 (K:Nat) (a0:x_as):Nat→y65:=lp2 fun r=>x_b.l2b K a0 (x_b.l3 K a0 r K) (x_b.l4 K a0 K)
def x_b.l0 (K:Nat) (a0:x_as):Nat→y65:=lp2 fun r=>x_b.l0b K a0 (x_b.l1 K a0 r K) (x_b.l2 K a0 K)
def x_b.b (K:Nat) (a0:x_as) (L0:y65):Option y29:=
 (x_ba K (a0.1.length:Int)).bind fun v1=>L0 v1.1 0
def x_b (K:Nat) (a0:x_as):Option y29:=x_b.b K a0 (x_b.l0 K a0 K)
def s_From (a0:TLog) (a1:Int):Option ((List x_cf)×Unit):=
 (x_vp a0 a1).bind fun v1=>it (v1.1<0) (some ([],()))<|ck ((a0.2.2.length:Int)=(a0.2.2.length:Int))<|ck (0≤v1.1)<|ck (v1.1≤a0.2.2.length)<|ck ((a0.2.2.length:Int)≤a0.2.2.length)<|gr 89 [] ((a0.2.2.take ((a0.2.2.length:Int).toNat)).drop v1.1.toNat)<|some ([]++((a0.2.2.take ((a0.2.2.length:Int).toNat)).drop v1.1.toNat),())
def s_Feed (K:Nat) (a0:x_e) (a1:x_cg) (a2:Int) (a3:Int):Option y41:=
 (x_ac K a0 a1 a2).bind fun v1=>cond (!v1.1) ((x_3 K a1).bind fun v3=>some (v3.1,false,()))<|nit (a1.2.2.1=2) ((x_3 K a1).bind fun v4=>some (v4.1,false,()))<|it (a3=a1.1) ((x_3 K a1).bind fun v5=>some (v5.1,false,()))<|(x_bb a3 0 (i6 (a2-1))).bind fun v2=>cond (!v2.1) ((x_3 K a1).bind fun v6=>some (v6.1,false,()))<|(x_3 K a1).bind fun v7=>ix a3 a1.2.2.2.2.1<|it ((a1.2.2.2.2.1.getD a3.toNat 0)≤a1.2.1.2.2.1.1) ((x_b K a1.2.1.2.2.2).bind fun v8=>(x_ea K (a0,a2,v7.1,true) (5,0,a3,0,a1.2.1.2.2.1.1,a1.2.1.2.2.1.2.1,0,[],false,x_jp v8.1)).bind fun v9=>cond (!v9.1.2.2.2) ((x_3 K a1).bind fun v15=>some (v15.1,false,()))<|some (v9.1.2.2.1,true,()))<|(s_From a1.2.1.2.2.1 (a1.2.2.2.2.1.getD a3.toNat 0)).bind fun v10=>it ((v10.1.length:Int)>40) (ck (40≤(v10.1.length:Int))<|(x_fw a1.2.1.2.2.1 (i6 ((a1.2.2.2.2.1.getD a3.toNat 0)-1))).bind fun v11=>(x_ea K (a0,a2,v7.1,true) (3,0,a3,0,i6 ((a1.2.2.2.2.1.getD a3.toNat 0)-1),v11.1,a1.2.2.2.2.2.2.1,(v10.1.take 40).drop 0,false,ByteArray.empty)).bind fun v12=>cond (!v12.1.2.2.2) ((x_3 K a1).bind fun v16=>some (v16.1,false,()))<|some (v12.1.2.2.1,true,()))<|(x_fw a1.2.1.2.2.1 (i6 ((a1.2.2.2.2.1.getD a3.toNat 0)-1))).bind fun v13=>(x_ea K (a0,a2,v7.1,true) (3,0,a3,0,i6 ((a1.2.2.2.2.1.getD a3.toNat 0)-1),v13.1,a1.2.2.2.2.2.2.1,v10.1,false,ByteArray.empty)).bind fun v14=>cond (!v14.1.2.2.2) ((x_3 K a1).bind fun v17=>some (v17.1,false,()))<|some (v14.1.2.2.1,true,())
def s_Sync (a0:x_n4):Option (x_n4×Unit):=
 (x_he a0).bind fun v1=>(x_iy a0).bind fun v2=>cond v2.1 (some ((v1.1.1,(a0.1.length:Int)),()))<|some (v1.1,())
def x_lm (K:Nat) (a0:x_e) (a1:x_cg) (a2:Int):Option (x_cg×(List TRpc)×Unit):=
 (x_3 K a1).bind fun v1=>(x_ac K a0 a1 a2).bind fun v2=>cond (!v2.1) (some (v1.1,[],()))<|(s_Sync a1.2.2.2.2.2.2.2.2.1).bind fun v3=>it (a1.2.2.1=2) ((x_dk a1.2.1.2.2.1).bind fun v4=>ix a1.1 v1.1.2.2.2.2.2.1<|(x_9 K (a0,a2,(v1.1.1,v1.1.2.1,v1.1.2.2.1,v1.1.2.2.2.1,v1.1.2.2.2.2.1,v1.1.2.2.2.2.2.1.set a1.1.toNat v4.1,v1.1.2.2.2.2.2.2.1,v1.1.2.2.2.2.2.2.2.1,v3.1,[]),true)).bind fun v5=>some (v5.1.2.2.1,v1.1.2.2.2.2.2.2.2.2.2,()))<|some ((v1.1.1,v1.1.2.1,v1.1.2.2.1,v1.1.2.2.2.1,v1.1.2.2.2.2.1,v1.1.2.2.2.2.2.1,v1.1.2.2.2.2.2.2.1,v1.1.2.2.2.2.2.2.2.1,v3.1,[]),v1.1.2.2.2.2.2.2.2.2.2,())
def x_ky (K:Nat) (a0:x_a0) (a1:Int):Option y43:=
 ix a1 a0.2.2.1<|(x_lm K a0.1 (a0.2.2.1.getD a1.toNat x_d2) a0.2.1).bind fun v1=>it (v1.2.1.length>(i6 (40-(a0.2.2.2.1.length:Int)))) (some (a0,4,()))<|ix a1 a0.2.2.1<|gr 105 a0.2.2.2.1 v1.2.1<|some ((a0.1,a0.2.1,a0.2.2.1.set a1.toNat v1.1,a0.2.2.2.1++v1.2.1,a0.2.2.2.2),0,())
def s_Fall (a0:x_n4) (a1:Int):Option (x_n4×Unit):=
 (x_iy a0).bind fun v1=>cond (!v1.1) ((x_he a0).bind fun v2=>some (v2.1,()))<|(x_gr a1 (i6 ((a0.1.length:Int)-a0.2))).bind fun v3=>(x_fs 0 v3.1).bind fun v4=>ck ((i6 (a0.2+v4.1))=(i6 (a0.2+v4.1)))<|ck (0≤(i6 (a0.2+v4.1)))<|ck ((i6 (a0.2+v4.1))≤a0.1.length)<|gr 2 [] ((a0.1.take ((i6 (a0.2+v4.1)).toNat)).drop 0)<|some (([]++((a0.1.take ((i6 (a0.2+v4.1)).toNat)).drop 0),i6 (a0.2+v4.1)),())
def x_of (K:Nat) (a0:x_g):Option (TCmd×x_g×Unit):=
 (x_bk K a0).bind fun v1=>(x_bk K v1.2.1).bind fun v2=>(x_bk K v2.2.1).bind fun v3=>(x_bk K v3.2.1).bind fun v4=>(x_bk K v4.2.1).bind fun v5=>(x_bk K v5.2.1).bind fun v6=>(x_ed K v6.2.1).bind fun v7=>(x_ed K v7.2.1).bind fun v8=>some ((i6 (v1.1-1),v2.1,v3.1,v4.1,v5.1,v6.1,v7.1,v8.1),v8.2.1,())
def x_bs.l0b (K:Nat) (a0:x_g) (L0:y145) (v5:y47) (q0:Int) (q1:y24) (v1:y47) (v2:y47) (v3:y47) (v4:y47) (q2:y13):Option y61:=
 it (q0<v5.1) (cond q1.1.2.2 ((x_bk K q1.1).bind fun v6=>(x_of K v6.2.1).bind fun v7=>gr 89 q2 [(v6.1,v7.1)]<|L0 v5 (i6 (q0+1)) v7.2 v1 v2 v3 v4 (q2++[(v6.1,v7.1)]))<|(x_ed K q1.1).bind fun v8=>some ((v1.1,v2.1,i6 (v3.1-1),v4.1,q2,v8.1),v8.2.1,()))<|(x_ed K q1.1).bind fun v9=>some ((v1.1,v2.1,i6 (v3.1-1),v4.1,q2,v9.1),v9.2.1,())
def x_bs.l0 (K:Nat) (a0:x_g):Nat→y145:=lp8 (x_bs.l0b K a0)
def x_bs.b (K:Nat) (a0:x_g) (L0:y145):Option y61:=
 (x_bk K a0).bind fun v1=>(x_bk K v1.2.1).bind fun v2=>(x_bk K v2.2.1).bind fun v3=>(x_bk K v3.2.1).bind fun v4=>(x_bk K v4.2.1).bind fun v5=>L0 v5 0 v5.2 v1 v2 v3 v4 []
def x_bs (K:Nat) (a0:x_g):Option y61:=x_bs.b K a0 (x_bs.l0 K a0 K)
def x_kc (K:Nat) (a0:y0) (a1:Int):Option (x_cw×Int×Bool×Unit):=
 (x_bw K a0 a1).bind fun v1=>cond (!v1.2.2.1) (some ((0,0,0,0,[],ByteArray.empty),0,false,()))<|it (v1.1>(i6 ((i6 ((a0.length:Int)-v1.2.1))-4))) (some ((0,0,0,0,[],ByteArray.empty),0,false,()))<|ck ((i6 (v1.2.1+v1.1))=(i6 (v1.2.1+v1.1)))<|ck (0≤v1.2.1)<|ck (v1.2.1≤(i6 (v1.2.1+v1.1)))<|ck ((i6 (v1.2.1+v1.1))≤a0.length)<|(x_ne K ((a0.take ((i6 (v1.2.1+v1.1)).toNat)).drop v1.2.1.toNat)).bind fun v2=>ck ((i6 ((i6 (v1.2.1+v1.1))+4))=(i6 ((i6 (v1.2.1+v1.1))+4)))<|ck (0≤(i6 (v1.2.1+v1.1)))<|ck ((i6 (v1.2.1+v1.1))≤(i6 ((i6 (v1.2.1+v1.1))+4)))<|ck ((i6 ((i6 (v1.2.1+v1.1))+4))≤a0.length)<|nit ((x_jp v2.1).data.toList=(x_jp ((a0.take ((i6 ((i6 (v1.2.1+v1.1))+4)).toNat)).drop ((i6 (v1.2.1+v1.1)).toNat))).data.toList) (some ((0,0,0,0,[],ByteArray.empty),0,false,()))<|(x_bs K ((a0.take ((i6 (v1.2.1+v1.1)).toNat)).drop v1.2.1.toNat,0,true)).bind fun v3=>cond (!v3.2.1.2.2) (some ((0,0,0,0,[],ByteArray.empty),0,false,()))<|nit (v3.2.1.2.1=((a0.take ((i6 (v1.2.1+v1.1)).toNat)).drop v1.2.1.toNat).length) (some ((0,0,0,0,[],ByteArray.empty),0,false,()))<|(x_ir K v3.1).bind fun v4=>cond (!v4.1) (some ((0,0,0,0,[],ByteArray.empty),0,false,()))<|some (v3.1,i6 ((i6 (v1.2.1+v1.1))+4),true,())
def x_dh.l0b (K:Nat) (a0:y0) (L0:y88) (q0:y10) (q1:Int):Option y84:=
 it (q1<a0.length) ((x_kc K a0 q1).bind fun v1=>cond (!v1.2.2.1) (some (q0,q1,()))<|gr 73 q0 [v1.1]<|L0 (q0++[v1.1]) v1.2.1)<|some (q0,q1,())
def x_dh.l0 (K:Nat) (a0:y0):Nat→y88:=lp2 (x_dh.l0b K a0)
def x_dh.b (K:Nat) (a0:y0) (L0:y88):Option y84:=
 L0 [] 0
def x_dh (K:Nat) (a0:y0):Option y84:=x_dh.b K a0 (x_dh.l0 K a0 K)
def x_ce.l0b (K:Nat) (a0:x_e) (a1:y0) (L0:y113) (v2:y84) (q0:Int) (q1:y18):Option y18:=
 it (q0<v2.1.length) (ix q0 v2.1<|(x_fa K a0 q1.1 (v2.1.getD q0.toNat zNote)).bind fun v3=>L0 v2 (i6 (q0+1)) v3)<|some (q1.1,())
def x_ce.l0 (K:Nat) (a0:x_e) (a1:y0):Nat→y113:=lp3 (x_ce.l0b K a0 a1)
def x_ce.b (K:Nat) (a0:x_e) (a1:y0) (L0:y113):Option y18:=
 (x_f5 K a0).bind fun v1=>(x_dh K a1).bind fun v2=>L0 v2 0 v1
def x_ce (K:Nat) (a0:x_e) (a1:y0):Option y18:=x_ce.b K a0 a1 (x_ce.l0 K a0 a1 K)
def s_Rise (K:Nat) (a0:x_e) (a1:x_cg) (a2:Int):Option (x_cg×Unit):=
 (x_ac K a0 a1 a2).bind fun v1=>cond (!v1.1) ((x_3 K a1).bind fun v2=>some (v2.1,()))<|(x_dh K a1.2.2.2.2.2.2.2.2.1.1).bind fun v3=>(x_ce K a0 a1.2.2.2.2.2.2.2.2.1.1).bind fun v4=>ck (a2=a2)<|ck (0≤a2)<|ck (a2.toNat*2≤x_di)<|(x_bt K a2 1).bind fun v5=>ck (a2=a2)<|ck (0≤a2)<|ck (a2.toNat*9≤x_di)<|(x_8 K v4.1.2.2.2).bind fun v6=>ck (v3.2.1=v3.2.1)<|ck (0≤v3.2.1)<|ck (v3.2.1≤a1.2.2.2.2.2.2.2.2.1.1.length)<|gr 2 [] ((a1.2.2.2.2.2.2.2.2.1.1.take v3.2.1.toNat).drop 0)<|(x_ac K a0 (a1.1,v4.1,0,List.replicate a2.toNat false,v5.1,List.replicate a2.toNat 0,v4.1.2.2.1.1,v6.1,([]++((a1.2.2.2.2.2.2.2.2.1.1.take v3.2.1.toNat).drop 0),v3.2.1),[]) a2).bind fun v7=>cond (!v7.1) ((x_3 K a1).bind fun v8=>some (v8.1,()))<|some ((a1.1,v4.1,0,List.replicate a2.toNat false,v5.1,List.replicate a2.toNat 0,v4.1.2.2.1.1,v6.1,([]++((a1.2.2.2.2.2.2.2.2.1.1.take v3.2.1.toNat).drop 0),v3.2.1),[]),())
def x_az.j0 (K:Nat) (L0:y98) (p4:y0) (a0:x_eh):Option y29:=
 L0 p4 a0.2.2.1.2.1 0
def x_az.l0b (K:Nat) (a0:x_eh) (L0:y98) (q3:y0) (q4:Int) (q5:Int):Option y29:=
 it (q5<a0.2.2.1.2.2.length) ((x_gr (i6 (q5+40)) (a0.2.2.1.2.2.length:Int)).bind fun v5=>ck (v5.1=v5.1)<|ck (0≤q5)<|ck (q5≤v5.1)<|ck (v5.1≤a0.2.2.1.2.2.length)<|(x_eo K (2,q4,0,i6 (a0.2.2.1.1+q5),(a0.2.2.1.2.2.take v5.1.toNat).drop q5.toNat,ByteArray.empty)).bind fun v6=>gr 2 q3 v6.1<|ix (i6 (v5.1-1)) a0.2.2.1.2.2<|L0 (q3++v6.1) (a0.2.2.1.2.2.getD ((i6 (v5.1-1)).toNat) x_at).1 (i6 (q5+40)))<|some (q3,())
def x_az.l0 (K:Nat) (a0:x_eh):Nat→y98:=lp3 (x_az.l0b K a0)
def x_az.b (K:Nat) (a0:x_eh) (L0:y98):Option y29:=
 (x_eo K (1,a0.1,a0.2.1,0,[],ByteArray.empty)).bind fun v1=>it (a0.2.2.1.1>0) ((x_b K a0.2.2.2).bind fun v2=>(x_eo K (3,a0.2.2.1.2.1,0,a0.2.2.1.1,[],x_jp v2.1)).bind fun v3=>gr 2 v1.1 v3.1<|x_az.j0 K L0 (v1.1++v3.1) a0)<|x_az.j0 K L0 v1.1 a0
def x_az (K:Nat) (a0:x_eh):Option y29:=x_az.b K a0 (x_az.l0 K a0 K)
def x_os (K:Nat) (a0:x_a0) (a1:Int):Option y43:=
 ix a1 a0.2.2.1<|nit ((a0.2.2.1.getD a1.toNat x_d2).2.2.2.2.2.2.2.2.1.2=(a0.2.2.1.getD a1.toNat x_d2).2.2.2.2.2.2.2.2.1.1.length) (some (a0,3,()))<|it ((a0.2.2.1.getD a1.toNat x_d2).2.2.2.2.2.2.1=(a0.2.2.1.getD a1.toNat x_d2).2.1.2.2.1.1) (some (a0,3,()))<|(x_m3 (a0.2.2.1.getD a1.toNat x_d2).2.1.2.2.1 (a0.2.2.1.getD a1.toNat x_d2).2.2.2.2.2.2.1).bind fun v1=>(x_8 K (a0.2.2.1.getD a1.toNat x_d2).2.2.2.2.2.2.2.1).bind fun v2=>(x_az K ((a0.2.2.1.getD a1.toNat x_d2).2.1.1,(a0.2.2.1.getD a1.toNat x_d2).2.1.2.1,v1.1,v2.1)).bind fun v3=>it ((v3.1.length:Int)>80000) (some (a0,4,()))<|ix a1 a0.2.2.1<|some ((a0.1,a0.2.1,a0.2.2.1.set a1.toNat ((a0.2.2.1.getD a1.toNat x_d2).1,((a0.2.2.1.getD a1.toNat x_d2).2.1.1,(a0.2.2.1.getD a1.toNat x_d2).2.1.2.1,v1.1,v2.1),(a0.2.2.1.getD a1.toNat x_d2).2.2.1,(a0.2.2.1.getD a1.toNat x_d2).2.2.2.1,(a0.2.2.1.getD a1.toNat x_d2).2.2.2.2.1,(a0.2.2.1.getD a1.toNat x_d2).2.2.2.2.2.1,(a0.2.2.1.getD a1.toNat x_d2).2.2.2.2.2.2.1,(a0.2.2.1.getD a1.toNat x_d2).2.2.2.2.2.2.2.1,(v3.1,(v3.1.length:Int)),(a0.2.2.1.getD a1.toNat x_d2).2.2.2.2.2.2.2.2.2),a0.2.2.2),0,())
def x_py (K:Nat) (a0:x_a0) (a1:x_no):Option y43:=
 ix a1.2.1 a0.2.2.1<|it (a1.1=1) ((x_n9 K a0.1 (a0.2.2.1.getD a1.2.1.toNat x_d2) a0.2.1).bind fun v1=>(x_lu a0 v1.1 v1.2.1).bind fun v2=>some (v2.1,v2.2.1,()))<|it (a1.1=2) ((x_bb a1.2.2.1 0 (i6 (a0.2.1-1))).bind fun v3=>cond (!v3.1) (some (a0,2,()))<|(s_Feed K a0.1 (a0.2.2.1.getD a1.2.1.toNat x_d2) a0.2.1 a1.2.2.1).bind fun v4=>(x_lu a0 v4.1 v4.2.1).bind fun v5=>some (v5.1,v5.2.1,()))<|it (a1.1=3) ((x_ky K a0 a1.2.1).bind fun v6=>some (v6.1,v6.2.1,()))<|it (a1.1=9) ((s_Fall (a0.2.2.1.getD a1.2.1.toNat x_d2).2.2.2.2.2.2.2.2.1 a1.2.2.1).bind fun v7=>(s_Rise K a0.1 ((a0.2.2.1.getD a1.2.1.toNat x_d2).1,(a0.2.2.1.getD a1.2.1.toNat x_d2).2.1,(a0.2.2.1.getD a1.2.1.toNat x_d2).2.2.1,(a0.2.2.1.getD a1.2.1.toNat x_d2).2.2.2.1,(a0.2.2.1.getD a1.2.1.toNat x_d2).2.2.2.2.1,(a0.2.2.1.getD a1.2.1.toNat x_d2).2.2.2.2.2.1,(a0.2.2.1.getD a1.2.1.toNat x_d2).2.2.2.2.2.2.1,(a0.2.2.1.getD a1.2.1.toNat x_d2).2.2.2.2.2.2.2.1,v7.1,(a0.2.2.1.getD a1.2.1.toNat x_d2).2.2.2.2.2.2.2.2.2) a0.2.1).bind fun v8=>ix a1.2.1 a0.2.2.1<|some ((a0.1,a0.2.1,a0.2.2.1.set a1.2.1.toNat v8.1,a0.2.2.2),0,()))<|(x_os K a0 a1.2.1).bind fun v9=>some (v9.1,v9.2.1,())
def x_fl.j0 (K:Nat) (a1:x_no) (a0:x_a0) (p3:Bool):Option y43:=
 it (a1.1=11) ((x_k3 K a0 a1).bind fun v6=>some (v6.1,v6.2.1,()))<|cond p3 ((x_g5 K a0 a1).bind fun v7=>some (v7.1,v7.2.1,()))<|(x_py K a0 a1).bind fun v8=>some (v8.1,v8.2.1,())
def x_fl.j1 (K:Nat) (a1:x_no) (a0:x_a0) (p3:Bool):Option y43:=
 (x_bb a1.2.1 0 (i6 (a0.2.1-1))).bind fun v4=>cond (!v4.1) (some (a0,2,()))<|cond p3 ((x_bb a1.2.2.1 0 3).bind fun v5=>cond (!v5.1) (some (a0,2,()))<|x_fl.j0 K a1 a0 p3)<|x_fl.j0 K a1 a0 p3
def x_fl (K:Nat) (a0:x_a0) (a1:x_no):Option y43:=
 (x_bb a1.1 4 6).bind fun v1=>cond v1.1 ((x_pc K a0 a1).bind fun v2=>some (v2.1,v2.2.1,()))<|it (a1.1=7) (x_fl.j1 K a1 a0 true)<|it (a1.1=8) (x_fl.j1 K a1 a0 true)<|x_fl.j1 K a1 a0 (decide (a1.1=11))
def x_ao.l0b (K:Nat) (a0:x_a0) (L1:y85) (q1:Int) (q2:y5):Option y23:=
 it (q1<a0.2.1) (ix q1 a0.2.2.1<|L1 q1 q2)<|some ((a0.1,a0.2.1,a0.2.2.1,a0.2.2.2.1,a0.2.2.2.2.1,a0.2.2.2.2.2.1,a0.2.2.2.2.2.2.1,q2),())
def x_ao.l1b (K:Nat) (a0:x_a0) (L0:y85) (L1:y85) (q1:Int) (q3:y5):Option y23:=
 it (q3.length<(a0.2.2.1.getD q1.toNat x_d2).2.2.2.2.2.2.1) (it ((i6 ((q3.length:Int)-(a0.2.2.1.getD q1.toNat x_d2).2.1.2.2.1.1))<0) (L0 (i6 (q1+1)) q3)<|it ((i6 ((q3.length:Int)-(a0.2.2.1.getD q1.toNat x_d2).2.1.2.2.1.1))≥(a0.2.2.1.getD q1.toNat x_d2).2.1.2.2.1.2.2.length) (L0 (i6 (q1+1)) q3)<|ix (i6 ((q3.length:Int)-(a0.2.2.1.getD q1.toNat x_d2).2.1.2.2.1.1)) (a0.2.2.1.getD q1.toNat x_d2).2.1.2.2.1.2.2<|gr 81 q3 [((a0.2.2.1.getD q1.toNat x_d2).2.1.2.2.1.2.2.getD ((i6 ((q3.length:Int)-(a0.2.2.1.getD q1.toNat x_d2).2.1.2.2.1.1)).toNat) x_at).2]<|L1 q1 (q3++[((a0.2.2.1.getD q1.toNat x_d2).2.1.2.2.1.2.2.getD ((i6 ((q3.length:Int)-(a0.2.2.1.getD q1.toNat x_d2).2.1.2.2.1.1)).toNat) x_at).2]))<|L0 (i6 (q1+1)) q3
def x_ao.l1 (K:Nat) (a0:x_a0) (L0:y85):Nat→y85:=lp2 (x_ao.l1b K a0 L0)
def x_ao.l0 (K:Nat) (a0:x_a0):Nat→y85:=lp2 fun r=>x_ao.l0b K a0 (x_ao.l1 K a0 r K)
def x_ao.b (K:Nat) (a0:x_a0) (L0:y85):Option y23:=
 L0 0 a0.2.2.2.2.2.2.2
def x_ao (K:Nat) (a0:x_a0):Option y23:=x_ao.b K a0 (x_ao.l0 K a0 K)
def x_lk (K:Nat) (a0:x_a0) (a1:x_no):Option y43:=
 (x_fl K a0 a1).bind fun v1=>it (v1.2.1=0) ((x_ao K v1.1).bind fun v2=>some (v2.1,v1.2.1,()))<|some (v1.1,v1.2.1,())
def x_av.l0b (K:Nat) (a0:x_z) (a1:Int) (L0:y141) (v3:y44) (q0:List x_no) (v4:y39) (q1:Int) (q2:y20) (q3:x_a0):Option y133:=
 it (q1<v4.1) (cond v3.2.1 ((x_w K q2.1 q3).bind fun v5=>gr 105 q0 [v5.1]<|(x_ch K q3).bind fun v6=>(x_lk K v6.1 v5.1).bind fun v7=>it (v7.2.1=0) (L0 v3 (q0++[v5.1]) v4 (i6 (q1+1)) v5.2 v7.1)<|L0 v3 (q0++[v5.1]) v4 (i6 (q1+1)) v5.2 q3)<|some (((0,0,0,0),0,[],[],[],[],[],[]),q0,q3,q2.1,()))<|some (((0,0,0,0),0,[],[],[],[],[],[]),q0,q3,q2.1,())
def x_av.l0 (K:Nat) (a0:x_z) (a1:Int):Nat→y141:=lp6 (x_av.l0b K a0 a1)
def x_av.b (K:Nat) (a0:x_z) (a1:Int) (L0:y141):Option y133:=
 (x_dv a0).bind fun v1=>(x_0 v1.2.1 [1,2,3,3,3,4]).bind fun v2=>(x_bm K v1.1 v2.1).bind fun v3=>(x_j v2.2.1 (i6 (a1+1))).bind fun v4=>L0 v3 [] v4 0 v4.2 v3.1
def x_av (K:Nat) (a0:x_z) (a1:Int):Option y133:=x_av.b K a0 a1 (x_av.l0 K a0 a1 K)
def x_fe (K:Nat) (a0:x_z):Option (x_a0×x_z×Unit):=
 (x_av K a0 45).bind fun v1=>some (v1.2.2.1,v1.2.2.2.1,())
def x_dw (a0:x_z):Option y45:=
 (x_hd a0 10).bind fun v1=>cond v1.1 (some (((-1),0,0,0,0,0,ByteArray.empty,ByteArray.empty),v1.2.1,()))<|(x_ef v1.2.1).bind fun v2=>(x_j v2.2.1 4).bind fun v3=>(x_j v3.2.1 6).bind fun v4=>some ((v3.1,i6 (1+v4.1),v2.1.2.2),v4.2.1,())
def x_au.l0b (K:Nat) (a0:x_z) (a1:Int) (L0:y122) (q0:y5) (v1:y39) (q1:Int) (q2:y20):Option y90:=
 it (q1<v1.1) ((x_dw q2.1).bind fun v2=>it (v2.1.1≥0) ((x_hd v2.2.1 4).bind fun v3=>cond (!v3.1) (gr 81 q0 [(v2.1.1,i6 (q1+1),v2.1.2.2)]<|L0 (q0++[(v2.1.1,i6 (q1+1),v2.1.2.2)]) v1 (i6 (q1+1)) v3.2)<|gr 81 q0 [v2.1]<|L0 (q0++[v2.1]) v1 (i6 (q1+1)) v3.2)<|gr 81 q0 [v2.1]<|L0 (q0++[v2.1]) v1 (i6 (q1+1)) v2.2)<|some (q0,q2.1,())
def x_au.l0 (K:Nat) (a0:x_z) (a1:Int):Nat→y122:=lp4 (x_au.l0b K a0 a1)
def x_au.b (K:Nat) (a0:x_z) (a1:Int) (L0:y122):Option y90:=
 (x_j a0 (i6 (a1+1))).bind fun v1=>L0 [] v1 0 v1.2
def x_au (K:Nat) (a0:x_z) (a1:Int):Option y90:=x_au.b K a0 a1 (x_au.l0 K a0 a1 K)
def x_b3.l0b (K:Nat) (a0:x_e) (a1:y5) (L0:y114) (q0:y19) (q1:Int) (q2:x_as):Option y99:=
 it (q1<a1.length) ((x_e6 a0).bind fun v2=>cond v2.1 (ix q1 a1<|(x_km K (a1.getD q1.toNat zCmd)).bind fun v3=>cond v3.1 (ix q1 a1<|(x_wp K a0 q2 (a1.getD q1.toNat zCmd)).bind fun v4=>gr 49 q0 [v4.2.1]<|L0 (q0++[v4.2.1]) (i6 (q1+1)) v4.1)<|gr 49 q0 [(0,0,ByteArray.empty,ByteArray.empty)]<|L0 (q0++[(0,0,ByteArray.empty,ByteArray.empty)]) (i6 (q1+1)) q2)<|gr 49 q0 [(0,0,ByteArray.empty,ByteArray.empty)]<|L0 (q0++[(0,0,ByteArray.empty,ByteArray.empty)]) (i6 (q1+1)) q2)<|some (q2,q0,())
def x_b3.l0 (K:Nat) (a0:x_e) (a1:y5):Nat→y114:=lp3 (x_b3.l0b K a0 a1)
def x_b3.b (K:Nat) (a0:x_e) (a1:y5) (L0:y114):Option y99:=
 (x_br K a0).bind fun v1=>L0 [] 0 v1.1
def x_b3 (K:Nat) (a0:x_e) (a1:y5):Option y99:=x_b3.b K a0 a1 (x_b3.l0 K a0 a1 K)
def x_ti (K:Nat) (a0:x_e) (a1:y5):Option y17:=
 (x_b3 K a0 a1).bind fun v1=>some (v1.1,())
def x_4.j0 (K:Nat) (L0:y120) (p10:Bool) (v9:y46) (v1:y54) (q2:y18) (v4:y27) (q0:Int) (v5:y39) (v6:y39):Option y104:=
 cond p10 ((x_au K v9.2.1 3).bind fun v11=>(x_ti K v1.1 v11.1).bind fun v12=>(x_b K v12.1).bind fun v13=>(x_fa K v1.1 q2.1 (3,v4.2.1,0,v4.1,[],x_jp v13.1)).bind fun v17=>L0 (i6 (q0+1)) v11.2 v1 v17)<|(x_fa K v1.1 q2.1 (1,i6 (q2.1.1+v5.1),i6 (v6.1-1),0,[],ByteArray.empty)).bind fun v18=>L0 (i6 (q0+1)) v9.2 v1 v18
def x_4.l0b (K:Nat) (a0:x_z) (L0:y120) (q0:Int) (q1:y20) (v1:y54) (q2:y18):Option y104:=
 (x_j q1.1 7).bind fun v3=>it (q0<v3.1) ((x_dk q2.1.2.2.1).bind fun v4=>(x_j v3.2.1 2).bind fun v5=>(x_j v5.2.1 4).bind fun v6=>(x_j v6.2.1 3).bind fun v7=>it (v7.1=0) ((x_dw v7.2.1).bind fun v8=>(x_fa K v1.1 q2.1 (2,v4.2.1,0,v4.1,[(q2.1.1,v8.1)],ByteArray.empty)).bind fun v14=>L0 (i6 (q0+1)) v8.2 v1 v14)<|it (v7.1=1) ((x_hd v7.2.1 3).bind fun v9=>cond v9.1 (x_4.j0 K L0 (decide (v4.1>0)) v9 v1 q2 v4 q0 v5 v6)<|x_4.j0 K L0 false v9 v1 q2 v4 q0 v5 v6)<|(x_fa K v1.1 q2.1 (1,i6 (q2.1.1+v5.1),i6 (v6.1-1),0,[],ByteArray.empty)).bind fun v19=>L0 (i6 (q0+1)) v7.2 v1 v19)<|some (v1.1,q2.1,v3.2.1,())
def x_4.l0 (K:Nat) (a0:x_z):Nat→y120:=lp4 (x_4.l0b K a0)
def x_4.b (K:Nat) (a0:x_z) (L0:y120):Option y104:=
 (x_dv a0).bind fun v1=>(x_f5 K v1.1).bind fun v2=>L0 0 v1.2 v1 v2
def x_4 (K:Nat) (a0:x_z):Option y104:=x_4.b K a0 (x_4.l0 K a0 K)
def x_7.l0b (K:Nat) (a0:x_z) (a1:Int) (a2:Int) (L0:y129) (q0:Int) (q1:y13) (v1:y39) (q2:Int) (q3:y20):Option y100:=
 it (q2<v1.1) ((x_j q3.1 2).bind fun v2=>(x_dw v2.2.1).bind fun v3=>gr 89 q1 [(i6 (q0+v2.1),v3.1)]<|L0 (i6 (q0+v2.1)) (q1++[(i6 (q0+v2.1),v3.1)]) v1 (i6 (q2+1)) v3.2)<|some (q1,q3.1,())
def x_7.l0 (K:Nat) (a0:x_z) (a1:Int) (a2:Int):Nat→y129:=lp5 (x_7.l0b K a0 a1 a2)
def x_7.b (K:Nat) (a0:x_z) (a1:Int) (a2:Int) (L0:y129):Option y100:=
 (x_j a0 (i6 (a2+1))).bind fun v1=>L0 a1 [] v1 0 v1.2
def x_7 (K:Nat) (a0:x_z) (a1:Int) (a2:Int):Option y100:=x_7.b K a0 a1 a2 (x_7.l0 K a0 a1 a2 K)
def x_hm (K:Nat) (a0:x_z):Option (TLog×x_z×Unit):=
 (x_j a0 3).bind fun v1=>(x_j v1.2.1 2).bind fun v2=>(x_7 K v2.2.1 v2.1 6).bind fun v3=>some ((v1.1,v2.1,v3.1),v3.2.1,())
def x_kz (a0:x_z) (a1:TCmd):Option y45:=
 (x_j a0 14).bind fun v1=>it (v1.1=0) ((x_0 v1.2.1 [(-2),(-1),3,4]).bind fun v2=>some ((v2.1,a1.2),v2.2.1,()))<|it (v1.1=1) ((x_0 v1.2.1 [0,(-1),100000,100001]).bind fun v3=>some ((a1.1,v3.1,a1.2.2),v3.2.1,()))<|it (v1.1=2) ((x_0 v1.2.1 [(-1),0,10,11]).bind fun v4=>some ((a1.1,a1.2.1,v4.1,a1.2.2.2),v4.2.1,()))<|it (v1.1=3) ((x_0 v1.2.1 [(-1),100000,100001,(-9223372036854775808)]).bind fun v5=>some ((a1.1,a1.2.1,a1.2.2.1,v5.1,a1.2.2.2.2),v5.2.1,()))<|it (v1.1=4) ((x_j7 v1.2.1 [(bs [65]),(bs [48,49,50,51,52,53,54,55,56,57,48,49,50,51,52,53,54,55,56,57,48,49,50,51,52,53,54,55,56,57,48])]).bind fun v6=>some ((a1.1,a1.2.1,a1.2.2.1,a1.2.2.2.1,a1.2.2.2.2.1,a1.2.2.2.2.2.1,v6.1,a1.2.2.2.2.2.2.2),v6.2.1,()))<|some (a1,v1.2.1,())
def x_pq (K:Nat) (a0:x_z):Option (TLog×x_z×Unit):=
 (x_hm K a0).bind fun v1=>(x_j v1.2.1 14).bind fun v2=>it (v2.1=0) ((x_0 v2.2.1 [(-1),299,300,301,(-9223372036854775808)]).bind fun v3=>some ((v3.1,v1.1.2),v3.2.1,()))<|it (v2.1=1) ((x_0 v2.2.1 [(-1),2,300,301]).bind fun v4=>some ((v1.1.1,v4.1,v1.1.2.2),v4.2.1,()))<|it (v2.1=2) ((x_j v2.2.1 5).bind fun v5=>(x_dw v5.2.1).bind fun v6=>(x_kz v6.2.1 v6.1).bind fun v7=>gr 89 v1.1.2.2 [(v5.1,v7.1)]<|some ((v1.1.1,v1.1.2.1,v1.1.2.2++[(v5.1,v7.1)]),v7.2.1,()))<|some (v1.1,v2.2.1,())
def x_em (K:Nat) (a0:x_z):Option y105:=
 (x_dv a0).bind fun v1=>(x_au K v1.2.1 14).bind fun v2=>(x_b3 K v1.1 v2.1).bind fun v3=>some (v1.1,v3.1,v2.2.1,())
def x_ak.l0b (K:Nat) (a0:x_z) (L0:y135) (v1:y39) (q0:Int) (q1:y39) (q2:Int) (q3:Int) (q4:y8):Option y49:=
 it (q0<v1.1) ((x_eg q1.2.1).bind fun v2=>(x_eg v2.2.1).bind fun v3=>(x_j v3.2.1 4).bind fun v4=>(x_j8 K (q2,q3,q4) v2.1 v3.1 v4.1 q0).bind fun v5=>(x_j v4.2.1 12).bind fun v6=>it (v6.1=0) ((x_j v6.2.1 3).bind fun v7=>(x_j v7.2.1 4).bind fun v8=>(x_ai K v5.1 (i6 (1+v7.1)) v8.1).bind fun v9=>L0 v1 (i6 (q0+1)) v8 v9.1.1 v9.1.2.1 v9.1.2.2)<|it (v6.1=1) ((x_j v6.2.1 3).bind fun v10=>(x_b6 K v5.1 (i6 (1+v10.1))).bind fun v11=>L0 v1 (i6 (q0+1)) v10 v11.1.1 v11.1.2.1 v11.1.2.2)<|L0 v1 (i6 (q0+1)) v6 v5.1.1 v5.1.2.1 v5.1.2.2)<|some ((q2,q3,q4),q1.2.1,())
def x_ak.l0 (K:Nat) (a0:x_z):Nat→y135:=lp6 (x_ak.l0b K a0)
def x_ak.b (K:Nat) (a0:x_z) (L0:y135):Option y49:=
 (x_j a0 14).bind fun v1=>L0 v1 0 v1 0 0 []
def x_ak (K:Nat) (a0:x_z):Option y49:=x_ak.b K a0 (x_ak.l0 K a0 K)
def x_c3.l0b (K:Nat) (a0:x_z) (L0:y86) (v2:y39) (q0:TRow):Option y49:=
 it ((q0.2.2.length:Int)<80) ((x_j8 K q0 ByteArray.empty ByteArray.empty 0 0).bind fun v7=>L0 v2 v7.1)<|some (q0,v2.2.1,())
def x_c3.l0 (K:Nat) (a0:x_z):Nat→y86:=lp2 (x_c3.l0b K a0)
def x_c3.b (K:Nat) (a0:x_z) (L0:y86):Option y49:=
 (x_ak K a0).bind fun v1=>(x_j v1.2.1 14).bind fun v2=>it (v2.1=0) ((x_0 v2.2.1 [(-1),0,1,99]).bind fun v3=>some ((v3.1,v1.1.2),v3.2.1,()))<|it (v2.1=1) ((x_0 v2.2.1 [0,3,100000,100001]).bind fun v4=>some ((v1.1.1,v4.1,v1.1.2.2),v4.2.1,()))<|it (v2.1=2) ((x_j v2.2.1 20).bind fun v5=>(x_j7 v5.2.1 [(bs [97]),(bs [65])]).bind fun v6=>gr 57 v1.1.2.2 [(v5.1,v6.1,ByteArray.empty,0,0)]<|some ((v1.1.1,v1.1.2.1,v1.1.2.2++[(v5.1,v6.1,ByteArray.empty,0,0)]),v6.2.1,()))<|it (v2.1=3) (L0 v2 v1.1)<|some (v1.1,v2.2.1,())
def x_c3 (K:Nat) (a0:x_z):Option y49:=x_c3.b K a0 (x_c3.l0 K a0 K)
def x_al.l0b (K:Nat) (a0:x_z) (L0:y142) (q0:Int) (q1:y39) (q2:Int) (q3:Int) (q4:Int) (q5:Int) (q6:y9):Option y62:=
 (x_j q1.2.1 8).bind fun v3=>it (q0<v3.1) ((x_j v3.2.1 9).bind fun v4=>it ((i6 (q4+(i6 (Int.tdiv v4.1 8))))>q4) ((x_j v4.2.1 3).bind fun v5=>(x_dm K (q2,q3,q4,q5,q6) (i6 (1+v5.1)) (i6 (q4+(i6 (Int.tdiv v4.1 8)))) 0 (i6 (2*q0))).bind fun v6=>L0 (i6 (q0+1)) v5 v6.1.1 v6.1.2.1 v6.1.2.2.1 v6.1.2.2.2.1 v6.1.2.2.2.2)<|(x_j v4.2.1 3).bind fun v7=>(x_dm K (q2,q3,q4,q5,q6) (i6 (1+v7.1)) (i6 (q4+(i6 (Int.tdiv v4.1 8)))) (i6 (q5+1)) (i6 (2*q0))).bind fun v8=>L0 (i6 (q0+1)) v7 v8.1.1 v8.1.2.1 v8.1.2.2.1 v8.1.2.2.2.1 v8.1.2.2.2.2)<|some ((q2,q3,q4,q5,q6),v3.2.1,())
def x_al.l0 (K:Nat) (a0:x_z):Nat→y142:=lp7 (x_al.l0b K a0)
def x_al.b (K:Nat) (a0:x_z) (L0:y142):Option y62:=
 (x_j a0 3).bind fun v1=>(x_j v1.2.1 4).bind fun v2=>L0 0 v2 v1.1 v2.1 0 (-1) []
def x_al (K:Nat) (a0:x_z):Option y62:=x_al.b K a0 (x_al.l0 K a0 K)
def x_ps (K:Nat) (a0:x_z):Option y62:=
 (x_al K a0).bind fun v1=>(x_j v1.2.1 12).bind fun v2=>it (v2.1=0) ((x_0 v2.2.1 [(-2),(-1),5,100000,9223372036854775807,(-9223372036854775808)]).bind fun v3=>some ((v1.1.1,v1.1.2.1,v1.1.2.2.1,v3.1,v1.1.2.2.2.2),v3.2.1,()))<|it (v2.1=1) ((x_0 v2.2.1 [(-1),0,2]).bind fun v4=>some ((v1.1.1,v1.1.2.1,v4.1,v1.1.2.2.2),v4.2.1,()))<|it (v2.1=2) ((x_j v2.2.1 9).bind fun v5=>(x_j v5.2.1 9).bind fun v6=>gr 17 v1.1.2.2.2.2 [(v5.1,v6.1)]<|some ((v1.1.1,v1.1.2.1,v1.1.2.2.1,v1.1.2.2.2.1,v1.1.2.2.2.2++[(v5.1,v6.1)]),v6.2.1,()))<|it (v2.1=3) ((x_0 v2.2.1 [(-1),3,4]).bind fun v7=>some ((v7.1,v1.1.2),v7.2.1,()))<|some (v1.1,v2.2.1,())
def x_ar.l0b (K:Nat) (a0:x_z) (L0:y132) (v1:y39) (q0:Int) (q1:Int) (q2:y39) (q3:x_ag):Option y91:=
 (x_j q2.2.1 7).bind fun v3=>it (q1<v3.1) ((x_0 v3.2.1 [0,10,60]).bind fun v4=>(x_j v4.2.1 5).bind fun v5=>it (v5.1=0) ((x_j v5.2.1 4).bind fun v6=>(x_ft K q3 v6.1).bind fun v7=>L0 v1 (i6 (q0+v4.1)) (i6 (q1+1)) v6 v7.1)<|it (v5.1=1) ((x_a1 K q3 (i6 (q0+v4.1))).bind fun v8=>L0 v1 (i6 (q0+v4.1)) (i6 (q1+1)) v5 v8.1)<|it (v5.1=2) ((x_j v5.2.1 4).bind fun v9=>(x_j v9.2.1 (i6 (1+v1.1))).bind fun v10=>(x_j v10.2.1 9).bind fun v11=>(x_gp q3 v9.1 q3.1 v10.1 v11.1).bind fun v12=>L0 v1 (i6 (q0+v4.1)) (i6 (q1+1)) v11 v12.1)<|(x_j v5.2.1 4).bind fun v13=>(x_an K q3 v13.1 (i6 (q0+v4.1))).bind fun v14=>L0 v1 (i6 (q0+v4.1)) (i6 (q1+1)) v13 v14.1)<|some (q3,i6 (1+v1.1),v3.2.1,())
def x_ar.l0 (K:Nat) (a0:x_z):Nat→y132:=lp5 (x_ar.l0b K a0)
def x_ar.b (K:Nat) (a0:x_z) (L0:y132):Option y91:=
 (x_j a0 3).bind fun v1=>(x_hr (i6 (1+v1.1))).bind fun v2=>L0 v1 0 0 v1 v2.1
def x_ar (K:Nat) (a0:x_z):Option y91:=x_ar.b K a0 (x_ar.l0 K a0 K)
def x_mi (K:Nat) (a0:x_z):Option y91:=
 (x_ar K a0).bind fun v1=>(x_j v1.2.2.1 12).bind fun v2=>it (v2.1=0) ((x_0 v2.2.1 [(-1),100000,100001]).bind fun v3=>some ((v3.1,v1.1.2),v1.2.1,v3.2.1,()))<|it (v2.1=1) ((x_j v2.2.1 5).bind fun v4=>gr 9 v1.1.2.1 [v4.1]<|some ((v1.1.1,v1.1.2.1++[v4.1],v1.1.2.2),v1.2.1,v4.2.1,()))<|it (v2.1=2) ((x_0 v2.2.1 [0,(-1),(-9223372036854775808)]).bind fun v5=>gr 9 v1.1.2.2.1 [v5.1]<|some ((v1.1.1,v1.1.2.1,v1.1.2.2.1++[v5.1],v1.1.2.2.2),v1.2.1,v5.2.1,()))<|it (v2.1=3) ((x_j v2.2.1 5).bind fun v6=>some (v1.1,v6.1,v6.2.1,()))<|it (v2.1=4) ((x_0 v2.2.1 [(-1),100001]).bind fun v7=>ck (0<(v1.1.2.2.2.length:Int))<|some ((v1.1.1,v1.1.2.1,v1.1.2.2.1,v1.1.2.2.2.set 0 v7.1),v1.2.1,v7.2.1,()))<|some (v1.1,v1.2.1,v2.2.1,())
def x_og (K:Nat) (a0:x_z):Option y105:=
 (x_em K a0).bind fun v1=>(x_j v1.2.2.1 16).bind fun v2=>it (v2.1=0) ((x_na v2.2.1).bind fun v3=>some (v3.1,v1.2.1,v3.2.1,()))<|it (v2.1=1) ((x_c3 K v2.2.1).bind fun v4=>ck (0<(v1.2.1.1.length:Int))<|some (v1.1,(v1.2.1.1.set 0 v4.1,v1.2.1.2),v4.2.1,()))<|it (v2.1=2) ((x_ps K v2.2.1).bind fun v5=>gr 57 v1.2.1.2.1 [v5.1]<|some (v1.1,(v1.2.1.1,v1.2.1.2.1++[v5.1],v1.2.1.2.2),v5.2.1,()))<|it (v2.1=3) ((x_mi K v2.2.1).bind fun v6=>ck (0<(v1.2.1.2.2.1.length:Int))<|some (v1.1,(v1.2.1.1,v1.2.1.2.1,v1.2.1.2.2.1.set 0 v6.1,v1.2.1.2.2.2),v6.2.2.1,()))<|it (v2.1=4) ((x_0 v2.2.1 [(-1),100000,100001]).bind fun v7=>ck (0<(v1.2.1.2.2.2.2.1.length:Int))<|some (v1.1,(v1.2.1.1,v1.2.1.2.1,v1.2.1.2.2.1,v1.2.1.2.2.2.1,v1.2.1.2.2.2.2.1.set 0 v7.1,v1.2.1.2.2.2.2.2),v7.2.1,()))<|it (v2.1=5) ((x_j v2.2.1 12).bind fun v8=>(x_0 v8.2.1 [(-2),0,100001]).bind fun v9=>ck (1<(v1.2.1.2.2.2.2.2.length:Int))<|some (v1.1,(v1.2.1.1,v1.2.1.2.1,v1.2.1.2.2.1,v1.2.1.2.2.2.1,v1.2.1.2.2.2.2.1,v1.2.1.2.2.2.2.2.set 1 (i6 (v8.1-1),v9.1,ByteArray.empty,ByteArray.empty)),v9.2.1,()))<|it (v2.1=6) ((x_0 v2.2.1 [(-1),100000,100001]).bind fun v10=>some (v1.1,(v1.2.1.1,v1.2.1.2.1,v1.2.1.2.2.1,v10.1,v1.2.1.2.2.2.2),v10.2.1,()))<|some (v1.1,v1.2.1,v2.2.1,())
def x_k2 (K:Nat) (a0:x_z):Option y104:=
 (x_4 K a0).bind fun v1=>(x_j v1.2.2.1 14).bind fun v2=>it (v2.1=0) ((x_0 v2.2.1 [(-1),0,300,301]).bind fun v3=>some (v1.1,(v3.1,v1.2.1.2),v3.2.1,()))<|it (v2.1=1) ((x_0 v2.2.1 [(-2),4,5]).bind fun v4=>some (v1.1,(v1.2.1.1,v4.1,v1.2.1.2.2),v4.2.1,()))<|it (v2.1=2) ((x_pq K v2.2.1).bind fun v5=>some (v1.1,(v1.2.1.1,v1.2.1.2.1,v5.1,v1.2.1.2.2.2),v5.2.1,()))<|it (v2.1=3) ((x_og K v2.2.1).bind fun v6=>some (v1.1,(v1.2.1.1,v1.2.1.2.1,v1.2.1.2.2.1,v6.2.1),v6.2.2.1,()))<|some (v1.1,v1.2.1,v2.2.1,())
def x_f7 (K:Nat) (a0:x_z):Option (x_cw×x_z×Unit):=
 (x_j a0 4).bind fun v1=>it (v1.1=0) ((x_j v1.2.1 6).bind fun v2=>(x_j v2.2.1 4).bind fun v3=>some ((1,v2.1,i6 (v3.1-1),0,[],ByteArray.empty),v3.2.1,()))<|it (v1.1=1) ((x_em K v1.2.1).bind fun v4=>(x_j v4.2.2.1 3).bind fun v5=>(x_j v5.2.1 5).bind fun v6=>(x_b K v4.2.1).bind fun v7=>some ((3,v5.1,0,v6.1,[],x_jp v7.1),v6.2.1,()))<|(x_j v1.2.1 2).bind fun v8=>(x_j v8.2.1 3).bind fun v9=>(x_7 K v9.2.1 1 4).bind fun v10=>some ((2,v8.1,0,v9.1,v10.1,ByteArray.empty),v10.2.1,())
def x_aq.l0b (K:Nat) (a0:x_z) (L0:y115) (q0:y0) (q1:Int) (q2:x_z):Option y89:=
 (x_j q2 4).bind fun v1=>it (q1<v1.1) ((x_f7 K v1.2.1).bind fun v2=>(x_eo K v2.1).bind fun v3=>gr 2 q0 v3.1<|L0 (q0++v3.1) (i6 (q1+1)) v2.2.1)<|some (q0,v1.2.1,())
def x_aq.l0 (K:Nat) (a0:x_z):Nat→y115:=lp3 (x_aq.l0b K a0)
def x_aq.b (K:Nat) (a0:x_z) (L0:y115):Option y89:=
 L0 [] 0 a0
def x_aq (K:Nat) (a0:x_z):Option y89:=x_aq.b K a0 (x_aq.l0 K a0 K)
def x_lo (K:Nat) (a0:x_z):Option (x_n4×x_z×Unit):=
 (x_aq K a0).bind fun v1=>(x_j v1.2.1 (i6 ((v1.1.length:Int)+1))).bind fun v2=>(x_j v2.2.1 14).bind fun v3=>it (v3.1=0) ((x_0 v3.2.1 [(-1),i6 ((v1.1.length:Int)+1)]).bind fun v4=>some ((v1.1,v4.1),v4.2.1,()))<|it (v3.1=1) ((x_j v3.2.1 2).bind fun v5=>ck ((i6 (80000+v5.1))=(i6 (80000+v5.1)))<|ck (0≤(i6 (80000+v5.1)))<|ck (((i6 (80000+v5.1)).toNat)*2≤x_di)<|some ((List.replicate ((i6 (80000+v5.1)).toNat) 0,v2.1),v5.2.1,()))<|some ((v1.1,v2.1),v3.2.1,())
def x_dl.j0 (K:Nat) (v1:y39) (p10:y20) (v2:y39) (v3:y39) (v4:y39) (v5:y39) (v6:y39) (v7:y39) (p11:y13) (v8:y46):Option (TRpc×x_z×Unit):=
 it ((i6 (1+v1.1))=5) ((x_em K p10.1).bind fun v12=>(x_b K v12.2.1).bind fun v13=>some ((i6 (1+v1.1),v2.1,v3.1,v4.1,v5.1,v6.1,v7.1,p11,v8.1,x_jp v13.1),v12.2.2.1,()))<|some ((i6 (1+v1.1),v2.1,v3.1,v4.1,v5.1,v6.1,v7.1,p11,v8.1,ByteArray.empty),p10.1,())
def x_dl (K:Nat) (a0:x_z):Option (TRpc×x_z×Unit):=
 (x_j a0 5).bind fun v1=>(x_j v1.2.1 3).bind fun v2=>(x_j v2.2.1 3).bind fun v3=>(x_j v3.2.1 4).bind fun v4=>(x_j v4.2.1 5).bind fun v5=>(x_j v5.2.1 3).bind fun v6=>(x_j v6.2.1 4).bind fun v7=>(x_hd v7.2.1 2).bind fun v8=>it ((i6 (1+v1.1))=3) ((x_7 K v8.2.1 0 3).bind fun v9=>x_dl.j0 K v1 v9.2 v2 v3 v4 v5 v6 v7 v9.1 v8)<|x_dl.j0 K v1 v8.2 v2 v3 v4 v5 v6 v7 [] v8
def x_jj (K:Nat) (a0:x_z):Option (x_e×x_cg×Int×x_z×Unit):=
 (x_fe K a0).bind fun v1=>it ((v1.1.2.2.1.length:Int)=0) (some (v1.1.1,(0,(0,0,(0,0,[]),[],[],[],0,[],[]),0,[],[],[],0,([],[],[],0,[],[]),([],0),[]),1,v1.2.1,()))<|(x_j v1.2.1 (v1.1.2.2.1.length:Int)).bind fun v2=>ix v2.1 v1.1.2.2.1<|(x_3 K (v1.1.2.2.1.getD v2.1.toNat x_d2)).bind fun v3=>(x_j v2.2.1 18).bind fun v4=>it (v4.1=0) ((x_0 v4.2.1 [(-1),0,1,5]).bind fun v5=>some (v1.1.1,(v5.1,v3.1.2),v1.1.2.1,v5.2.1,()))<|it (v4.1=1) ((x_k2 K v4.2.1).bind fun v6=>some (v1.1.1,(v3.1.1,v6.2.1,v3.1.2.2),v1.1.2.1,v6.2.2.1,()))<|it (v4.1=2) ((x_0 v4.2.1 [(-1),0,1,300]).bind fun v7=>some (v1.1.1,(v3.1.1,v3.1.2.1,v3.1.2.2.1,v3.1.2.2.2.1,v3.1.2.2.2.2.1,v3.1.2.2.2.2.2.1,v7.1,v3.1.2.2.2.2.2.2.2),v1.1.2.1,v7.2.1,()))<|it (v4.1=3) ((x_0 v4.2.1 [0,1,2,300]).bind fun v8=>ck (0<(v3.1.2.2.2.2.1.length:Int))<|some (v1.1.1,(v3.1.1,v3.1.2.1,v3.1.2.2.1,v3.1.2.2.2.1,v3.1.2.2.2.2.1.set 0 v8.1,v3.1.2.2.2.2.2),v1.1.2.1,v8.2.1,()))<|it (v4.1=4) ((x_lo K v4.2.1).bind fun v9=>some (v1.1.1,(v3.1.1,v3.1.2.1,v3.1.2.2.1,v3.1.2.2.2.1,v3.1.2.2.2.2.1,v3.1.2.2.2.2.2.1,v3.1.2.2.2.2.2.2.1,v3.1.2.2.2.2.2.2.2.1,v9.1,v3.1.2.2.2.2.2.2.2.2.2),v1.1.2.1,v9.2.1,()))<|it (v4.1=5) ((x_j v4.2.1 5).bind fun v10=>some (v1.1.1,(v3.1.1,v3.1.2.1,i6 (v10.1-1),v3.1.2.2.2),v1.1.2.1,v10.2.1,()))<|it (v4.1=6) ((x_dl K v4.2.1).bind fun v11=>gr 105 v3.1.2.2.2.2.2.2.2.2.2 [v11.1]<|some (v1.1.1,(v3.1.1,v3.1.2.1,v3.1.2.2.1,v3.1.2.2.2.1,v3.1.2.2.2.2.1,v3.1.2.2.2.2.2.1,v3.1.2.2.2.2.2.2.1,v3.1.2.2.2.2.2.2.2.1,v3.1.2.2.2.2.2.2.2.2.1,v3.1.2.2.2.2.2.2.2.2.2++[v11.1]),v1.1.2.1,v11.2.1,()))<|some (v1.1.1,v3.1,v1.1.2.1,v4.2.1,())
def x_g7 (K:Nat) (a0:y0):Option (x_e×x_cg×Int×Unit):=
 (x_dx K a0).bind fun v1=>(x_jj K v1.1).bind fun v2=>(x_hd v2.2.2.2.1 9).bind fun v3=>cond v3.1 ((x_0 v3.2.1 [0,1,2,6,(-9223372036854775808)]).bind fun v4=>some (v2.1,v2.2.1,v4.1,()))<|some (v2.1,v2.2.1,v2.2.2.1,())
def x_je (K:Nat) (a0:y0):Option (x_e×x_cg×Unit):=
 (x_dx K a0).bind fun v1=>(x_jj K v1.1).bind fun v2=>some (v2.1,v2.2.1,())
def x_jv (K:Nat) (a0:y0):Option y6:=
 (x_dx K a0).bind fun v1=>(x_j v1.1 8).bind fun v2=>some (v2.1,())
def x_cy.l0b (K:Nat) (a0:y0) (a1:Int) (L0:y70) (q0:Int) (q1:Int):Option y69:=
 it (q1<a0.length) (it (q1<(i6 (a1+5))) (ix q1 a0<|ck (0≤(i6 (7*(i6 (q1-a1)))))<|ix q1 a0<|it ((a0.getD q1.toNat 0)<128) (it ((i6 (bor q0 (i6 ((i6 (IntKind.u8.wrap ((BitVec.ofInt (IntKind.bits .u8) (a0.getD q1.toNat 0) &&& BitVec.ofInt (IntKind.bits .u8) 127).toNat:Int)))*2 ^ (min ((i6 (7*(i6 (q1-a1)))).toNat) 64)))))>2147483647) (some (0,0,false,()))<|it (q1>a1) (ix q1 a0<|it ((a0.getD q1.toNat 0)=0) (some (0,0,false,()))<|some (i6 (bor q0 (i6 ((i6 (IntKind.u8.wrap ((BitVec.ofInt (IntKind.bits .u8) (a0.getD q1.toNat 0) &&& BitVec.ofInt (IntKind.bits .u8) 127).toNat:Int)))*2 ^ (min ((i6 (7*(i6 (q1-a1)))).toNat) 64)))),i6 (q1+1),true,()))<|some (i6 (bor q0 (i6 ((i6 (IntKind.u8.wrap ((BitVec.ofInt (IntKind.bits .u8) (a0.getD q1.toNat 0) &&& BitVec.ofInt (IntKind.bits .u8) 127).toNat:Int)))*2 ^ (min ((i6 (7*(i6 (q1-a1)))).toNat) 64)))),i6 (q1+1),true,()))<|L0 (i6 (bor q0 (i6 ((i6 (IntKind.u8.wrap ((BitVec.ofInt (IntKind.bits .u8) (a0.getD q1.toNat 0) &&& BitVec.ofInt (IntKind.bits .u8) 127).toNat:Int)))*2 ^ (min ((i6 (7*(i6 (q1-a1)))).toNat) 64))))) (i6 (q1+1)))<|some (0,0,false,()))<|some (0,0,false,())
def x_cy.l0 (K:Nat) (a0:y0) (a1:Int):Nat→y70:=lp2 (x_cy.l0b K a0 a1)
def x_cy.b (K:Nat) (a0:y0) (a1:Int) (L0:y70):Option y69:=
 it (a1<0) (some (0,0,false,()))<|L0 0 a1
def x_cy (K:Nat) (a0:y0) (a1:Int):Option y69:=x_cy.b K a0 a1 (x_cy.l0 K a0 a1 K)
def x_y (K:Nat) (a0:x_g):Option y47:=
 (x_cy K a0.1 a0.2.1).bind fun v1=>cond a0.2.2 (some (0,(a0.1,a0.2.1,true),()))<|cond (!v1.2.2.1) (some (0,(a0.1,a0.2.1,true),()))<|some (v1.1,(a0.1,v1.2.1,a0.2.2),())
def x_lc (K:Nat) (a0:y0) (a1:Int):Option y94:=
 (x_cy K a0 a1).bind fun v1=>cond (!v1.2.2.1) (some (ByteArray.empty,0,false,()))<|it (v1.1>(i6 ((a0.length:Int)-v1.2.1))) (some (ByteArray.empty,0,false,()))<|ck ((i6 (v1.2.1+v1.1))=(i6 (v1.2.1+v1.1)))<|ck (0≤v1.2.1)<|ck (v1.2.1≤(i6 (v1.2.1+v1.1)))<|ck ((i6 (v1.2.1+v1.1))≤a0.length)<|some (x_jp ((a0.take ((i6 (v1.2.1+v1.1)).toNat)).drop v1.2.1.toNat),i6 (v1.2.1+v1.1),true,())
def x_cq (K:Nat) (a0:x_g):Option (ByteArray×x_g×Unit):=
 (x_lc K a0.1 a0.2.1).bind fun v1=>cond a0.2.2 (some (ByteArray.empty,(a0.1,a0.2.1,true),()))<|cond (!v1.2.2.1) (some (ByteArray.empty,(a0.1,a0.2.1,true),()))<|some (v1.1,(a0.1,v1.2.1,a0.2.2),())
def x_g3 (K:Nat) (a0:x_g):Option (TCmd×x_g×Unit):=
 (x_y K a0).bind fun v1=>(x_y K v1.2.1).bind fun v2=>(x_y K v2.2.1).bind fun v3=>(x_y K v3.2.1).bind fun v4=>(x_y K v4.2.1).bind fun v5=>(x_y K v5.2.1).bind fun v6=>(x_cq K v6.2.1).bind fun v7=>(x_cq K v7.2.1).bind fun v8=>cond v8.2.1.2.2 (some ((i6 (v1.1-1),v2.1,v3.1,v4.1,v5.1,v6.1,v7.1,v8.1),(v8.2.1.1,v8.2.1.2.1,true),()))<|(x_ks K (i6 (v1.1-1),v2.1,v3.1,v4.1,v5.1,v6.1,v7.1,v8.1)).bind fun v9=>some ((i6 (v1.1-1),v2.1,v3.1,v4.1,v5.1,v6.1,v7.1,v8.1),(v8.2.1.1,v8.2.1.2.1, !v9.1),())
def x_mm (K:Nat) (a1:x_cw) (a2:x_g):Option y61:=
 (x_y K a2).bind fun v1=>(x_g3 K v1.2.1).bind fun v2=>gr 89 a1.2.2.2.2.1 [(v1.1,v2.1)]<|some ((a1.1,a1.2.1,a1.2.2.1,a1.2.2.2.1,a1.2.2.2.2.1++[(v1.1,v2.1)],a1.2.2.2.2.2),v2.2.1,())
def x_q.l0b (K:Nat) (a0:x_g) (a2:x_cw) (L0:y124) (v1:y47) (q0:Int) (q1:y24) (q2:x_cw):Option y63:=
 it (q0<v1.1) (cond (!q1.1.2.2) ((x_mm K q2 q1.1).bind fun v2=>L0 v1 (i6 (q0+1)) v2.2 v2.1)<|some (q1.1,q2,()))<|some (q1.1,q2,())
def x_q.l0 (K:Nat) (a0:x_g) (a2:x_cw):Nat→y124:=lp4 (x_q.l0b K a0 a2)
def x_q.b (K:Nat) (a0:x_g) (a2:x_cw) (L0:y124):Option y63:=
 (x_y K a0).bind fun v1=>L0 v1 0 v1.2 a2
def x_q (K:Nat) (a0:x_g) (a2:x_cw):Option y63:=x_q.b K a0 a2 (x_q.l0 K a0 a2 K)
def x_mh (K:Nat) (a0:x_cf):Option y11:=
 (x_6 a0.1 0 300).bind fun v1=>cond (!v1.1) (some (true,()))<|(x_ks K a0.2).bind fun v2=>some (!v2.1,())
def x_r.l0b (K:Nat) (a0:y13) (L0:y30) (q0:Int):Option y6:=
 it (q0<a0.length) (ix q0 a0<|(x_mh K (a0.getD q0.toNat x_at)).bind fun v1=>cond v1.1 (some (q0,()))<|L0 (i6 (q0+1)))<|some ((-1),())
def x_r.l0 (K:Nat) (a0:y13):Nat→y30:=lp1 (x_r.l0b K a0)
def x_r.b (K:Nat) (a0:y13) (L0:y30):Option y6:=
 L0 0
def x_r (K:Nat) (a0:y13):Option y6:=x_r.b K a0 (x_r.l0 K a0 K)
def x_b2 (K:Nat) (a0:y13):Option y11:=
 (x_r K a0).bind fun v1=>some (decide (v1.1≥0),())
def x_j3 (K:Nat) (a0:x_cw):Option y11:=
 (x_6 a0.2.1 0 300).bind fun v1=>cond (!v1.1) (some (false,()))<|(x_6 a0.2.2.2.1 0 300).bind fun v2=>cond (!v2.1) (some (false,()))<|it ((a0.2.2.2.2.1.length:Int)>40) (some (false,()))<|it (((a0.2.2.2.2.2.size:Nat):Int)>30000) (some (false,()))<|(x_b2 K a0.2.2.2.2.1).bind fun v3=>cond v3.1 (some (false,()))<|it (a0.1=1) ((x_6 a0.2.2.1 (-1) 4).bind fun v4=>cond v4.1 (it (a0.2.2.2.1=0) (it ((a0.2.2.2.2.1.length:Int)=0) (some (decide (a0.2.2.2.2.2.data.toList=ByteArray.empty.data.toList),()))<|some (false,()))<|some (false,()))<|some (false,()))<|it (a0.1=2) (it (a0.2.2.1=0) (some (decide (a0.2.2.2.2.2.data.toList=ByteArray.empty.data.toList),()))<|some (false,()))<|it (a0.1=3) (it (a0.2.2.1=0) (some (decide ((a0.2.2.2.2.1.length:Int)=0),()))<|some (false,()))<|some (false,())
def x_o1 (K:Nat) (a0:y0):Option (x_cw×Bool×Unit):=
 (x_y K (a0,0,false)).bind fun v1=>(x_y K v1.2.1).bind fun v2=>(x_y K v2.2.1).bind fun v3=>(x_y K v3.2.1).bind fun v4=>(x_q K v4.2.1 (v1.1,v2.1,i6 (v3.1-1),v4.1,[],ByteArray.empty)).bind fun v5=>(x_cq K v5.1).bind fun v6=>cond (!v6.2.1.2.2) (it (v6.2.1.2.1=a0.length) ((x_j3 K (v5.2.1.1,v5.2.1.2.1,v5.2.1.2.2.1,v5.2.1.2.2.2.1,v5.2.1.2.2.2.2.1,v6.1)).bind fun v7=>some ((v5.2.1.1,v5.2.1.2.1,v5.2.1.2.2.1,v5.2.1.2.2.2.1,v5.2.1.2.2.2.2.1,v6.1),v7.1,()))<|some ((v5.2.1.1,v5.2.1.2.1,v5.2.1.2.2.1,v5.2.1.2.2.2.1,v5.2.1.2.2.2.2.1,v6.1),false,()))<|some ((v5.2.1.1,v5.2.1.2.1,v5.2.1.2.2.1,v5.2.1.2.2.2.1,v5.2.1.2.2.2.2.1,v6.1),false,())
def x_c5.l0b (K:Nat) (a0:Int) (L0:y68) (q0:Int) (q1:y0):Option y29:=
 it (q0>127) (gr 2 q1 [IntKind.u8.wrap ((BitVec.ofInt (IntKind.bits .u8) (IntKind.u8.wrap (i6 (ban q0 127))) ||| BitVec.ofInt (IntKind.bits .u8) 128).toNat:Int)]<|L0 (Int.fdiv q0 (2 ^ 7)) (q1++[IntKind.u8.wrap ((BitVec.ofInt (IntKind.bits .u8) (IntKind.u8.wrap (i6 (ban q0 127))) ||| BitVec.ofInt (IntKind.bits .u8) 128).toNat:Int)]))<|gr 2 q1 [IntKind.u8.wrap q0]<|some (q1++[IntKind.u8.wrap q0],())
def x_c5.l0 (K:Nat) (a0:Int):Nat→y68:=lp2 (x_c5.l0b K a0)
def x_c5.b (K:Nat) (a0:Int) (L0:y68):Option y29:=
 (x_6 a0 0 2147483647).bind fun v1=>cond (!v1.1) (some ([],()))<|L0 a0 []
def x_c5 (K:Nat) (a0:Int):Option y29:=x_c5.b K a0 (x_c5.l0 K a0 K)
def x_fo.l0b (K:Nat) (a0:y0) (L0:y65) (q0:y0) (q1:Int):Option y29:=
 it (q1<a0.length) (ix q1 a0<|(x_c5 K (a0.getD q1.toNat 0)).bind fun v1=>gr 2 q0 v1.1<|L0 (q0++v1.1) (i6 (q1+1)))<|some (q0,())
def x_fo.l0 (K:Nat) (a0:y0):Nat→y65:=lp2 (x_fo.l0b K a0)
def x_fo.b (K:Nat) (a0:y0) (L0:y65):Option y29:=
 L0 [] 0
def x_fo (K:Nat) (a0:y0):Option y29:=x_fo.b K a0 (x_fo.l0 K a0 K)
def x_h5 (K:Nat) (a0:y2):Option y29:=
 (x_c5 K ((a0.size:Nat):Int)).bind fun v1=>gr 2 v1.1 (x_ck a0)<|some (v1.1++(x_ck a0),())
def x_x8 (a1:Int):Option y29:=
 it (a1<0) none<|it ((i6 (a1-0))>0) (ck (0≤(i6 (a1-0)))<|gr 2 [] (List.replicate ((i6 (a1-0)).toNat) (0:Int))<|ck (0≤(([]++(List.replicate ((i6 (a1-0)).toNat) (0:Int))).length:Int))<|some ((([]++(List.replicate ((i6 (a1-0)).toNat) (0:Int))).take 0).drop 0,()))<|some ([],())
def x_ah.l0b (K:Nat) (a0:y26) (L0:y74) (L1:y65) (q0:Int) (q1:Int):Option y29:=
 it (q1<a0.length) (ix q1 a0<|it ((i6 (q0+((a0.getD q1.toNat []).length:Int)))<0) none<|L0 (i6 (q0+((a0.getD q1.toNat []).length:Int))) (i6 (q1+1)))<|(x_x8 q0).bind fun v1=>L1 v1.1 0
def x_ah.l1b (K:Nat) (a0:y26) (L1:y65) (q2:y0) (q3:Int):Option y29:=
 it (q3<a0.length) (ix q3 a0<|gr 2 q2 (a0.getD q3.toNat [])<|L1 (q2++(a0.getD q3.toNat [])) (i6 (q3+1)))<|some (q2,())
def x_ah.l1 (K:Nat) (a0:y26):Nat→y65:=lp2 (x_ah.l1b K a0)
def x_ah.l0 (K:Nat) (a0:y26):Nat→y74:=lp2 fun r=>x_ah.l0b K a0 r (x_ah.l1 K a0 K)
def x_ah.b (K:Nat) (a0:y26) (L0:y74):Option y29:=
 L0 0 0
def x_ah (K:Nat) (a0:y26):Option y29:=x_ah.b K a0 (x_ah.l0 K a0 K)
def x_jn (K:Nat) (a0:TCmd):Option y29:=
 (x_ks K a0).bind fun v1=>cond (!v1.1) (some ([],()))<|(x_fo K [i6 (a0.1+1),a0.2.1,a0.2.2.1,a0.2.2.2.1,a0.2.2.2.2.1,a0.2.2.2.2.2.1]).bind fun v2=>(x_h5 K a0.2.2.2.2.2.2.1).bind fun v3=>(x_h5 K a0.2.2.2.2.2.2.2).bind fun v4=>(x_ah K [v2.1,v3.1,v4.1]).bind fun v5=>some (v5.1,())
def x_ek.l0b (K:Nat) (a0:y0) (L0:y93) (q0:Int) (q1:Int) (q2:Int):Option y6:=
 it (q2<a0.length) (ix q2 a0<|L0 (Int.tmod (i6 (q0+(i6 (a0.getD q2.toNat 0)))) 65521) (Int.tmod (i6 (q1+(Int.tmod (i6 (q0+(i6 (a0.getD q2.toNat 0)))) 65521))) 65521) (i6 (q2+1)))<|some (i6 ((i6 (q1*65536))+q0),())
def x_ek.l0 (K:Nat) (a0:y0):Nat→y93:=lp3 (x_ek.l0b K a0)
def x_ek.b (K:Nat) (a0:y0) (L0:y93):Option y6:=
 L0 1 0 0
def x_ek (K:Nat) (a0:y0):Option y6:=x_ek.b K a0 (x_ek.l0 K a0 K)
def x_a8.l0b (K:Nat) (a0:x_cw) (L0:y82) (q0:y29) (q1:Int):Option y29:=
 it (q1<a0.2.2.2.2.1.length) (ix q1 a0.2.2.2.2.1<|(x_fo K [(a0.2.2.2.2.1.getD q1.toNat x_at).1]).bind fun v3=>(x_jn K (a0.2.2.2.2.1.getD q1.toNat x_at).2).bind fun v4=>(x_ah K [q0.1,v3.1,v4.1]).bind fun v5=>L0 v5 (i6 (q1+1)))<|(x_h5 K a0.2.2.2.2.2).bind fun v6=>gr 2 q0.1 v6.1<|(x_ek K (q0.1++v6.1)).bind fun v7=>(x_fo K [((q0.1++v6.1).length:Int)]).bind fun v8=>(x_ah K [v8.1,q0.1++v6.1,[IntKind.u8.wrap v7.1,IntKind.u8.wrap (Int.fdiv v7.1 (2 ^ 8)),IntKind.u8.wrap (Int.fdiv v7.1 (2 ^ 16)),IntKind.u8.wrap (Int.fdiv v7.1 (2 ^ 24))]]).bind fun v9=>some (v9.1,())
def x_a8.l0 (K:Nat) (a0:x_cw):Nat→y82:=lp2 (x_a8.l0b K a0)
def x_a8.b (K:Nat) (a0:x_cw) (L0:y82):Option y29:=
 (x_j3 K a0).bind fun v1=>cond (!v1.1) (some ([],()))<|(x_fo K [a0.1,a0.2.1,i6 (a0.2.2.1+1),a0.2.2.2.1,(a0.2.2.2.2.1.length:Int)]).bind fun v2=>L0 v2 0
def x_a8 (K:Nat) (a0:x_cw):Option y29:=x_a8.b K a0 (x_a8.l0 K a0 K)
def x_pu (K:Nat) (a0:y0) (a1:Int):Option (x_cw×Int×Bool×Unit):=
 (x_cy K a0 a1).bind fun v1=>cond (!v1.2.2.1) (some ((0,0,0,0,[],ByteArray.empty),0,false,()))<|it (v1.1>(i6 ((i6 ((a0.length:Int)-v1.2.1))-4))) (some ((0,0,0,0,[],ByteArray.empty),0,false,()))<|ck ((i6 (v1.2.1+v1.1))=(i6 (v1.2.1+v1.1)))<|ck (0≤v1.2.1)<|ck (v1.2.1≤(i6 (v1.2.1+v1.1)))<|ck ((i6 (v1.2.1+v1.1))≤a0.length)<|(x_o1 K ((a0.take ((i6 (v1.2.1+v1.1)).toNat)).drop v1.2.1.toNat)).bind fun v2=>cond (!v2.2.1) (some ((0,0,0,0,[],ByteArray.empty),0,false,()))<|(x_a8 K v2.1).bind fun v3=>ck ((i6 ((i6 (v1.2.1+v1.1))+4))=(i6 ((i6 (v1.2.1+v1.1))+4)))<|ck (0≤a1)<|ck (a1≤(i6 ((i6 (v1.2.1+v1.1))+4)))<|ck ((i6 ((i6 (v1.2.1+v1.1))+4))≤a0.length)<|nit ((x_jp v3.1).data.toList=(x_jp ((a0.take ((i6 ((i6 (v1.2.1+v1.1))+4)).toNat)).drop a1.toNat)).data.toList) (some ((0,0,0,0,[],ByteArray.empty),0,false,()))<|some (v2.1,i6 ((i6 (v1.2.1+v1.1))+4),true,())
def x_ep.l0b (K:Nat) (a0:y0) (L0:y88) (q0:y10) (q1:Int):Option y84:=
 (x_pu K a0 q1).bind fun v1=>cond (!v1.2.2.1) (some (q0,q1,()))<|gr 73 q0 [v1.1]<|L0 (q0++[v1.1]) v1.2.1
def x_ep.l0 (K:Nat) (a0:y0):Nat→y88:=lp2 (x_ep.l0b K a0)
def x_ep.b (K:Nat) (a0:y0) (L0:y88):Option y84:=
 L0 [] 0
def x_ep (K:Nat) (a0:y0):Option y84:=x_ep.b K a0 (x_ep.l0 K a0 K)
def x_eu (a0:TLog):Option y15:=
 gr 89 [] a0.2.2<|some ((a0.1,a0.2.1,[]++a0.2.2),())
def x_ld (a0:TRow):Option y16:=
 gr 57 [] a0.2.2<|some ((a0.1,a0.2.1,[]++a0.2.2),())
def x_fx (a0:y0):Option y29:=
 gr 9 [] a0<|some ([]++a0,())
def x_h7 (a0:x_ag):Option y21:=
 (x_fx a0.2.1).bind fun v1=>(x_fx a0.2.2.1).bind fun v2=>(x_fx a0.2.2.2).bind fun v3=>some ((a0.1,v1.1,v2.1,v3.1),())
def x_ia (a0:x_am):Option y22:=
 gr 17 [] a0.2.2.2.2<|some ((a0.1,a0.2.1,a0.2.2.1,a0.2.2.2.1,[]++a0.2.2.2.2),())
def x_ax.l0b (K:Nat) (a0:y14) (L0:y83) (q0:y14) (q1:Int):Option y48:=
 it (q1<a0.length) (ix q1 a0<|(x_ia (a0.getD q1.toNat x_bc)).bind fun v1=>gr 57 q0 [v1.1]<|L0 (q0++[v1.1]) (i6 (q1+1)))<|some (q0,())
def x_ax.l0 (K:Nat) (a0:y14):Nat→y83:=lp2 (x_ax.l0b K a0)
def x_ax.b (K:Nat) (a0:y14) (L0:y83):Option y48:=
 L0 [] 0
def x_ax (K:Nat) (a0:y14):Option y48:=x_ax.b K a0 (x_ax.l0 K a0 K)
def x_ad.l0b (K:Nat) (a0:x_as) (L0:y67) (L1:y101) (q0:Int) (q1:y3):Option y17:=
 it (q0<a0.1.length) (ix q0 a0.1<|(x_ld (a0.1.getD q0.toNat zRow)).bind fun v1=>gr 41 q1 [v1.1]<|L0 (i6 (q0+1)) (q1++[v1.1]))<|L1 0 q1 []
def x_ad.l1b (K:Nat) (a0:x_as) (L1:y101) (q2:Int) (q1:y3) (q3:y12):Option y17:=
 it (q2<a0.2.2.1.length) (ix q2 a0.2.2.1<|(x_h7 (a0.2.2.1.getD q2.toNat x_co)).bind fun v2=>gr 81 q3 [v2.1]<|L1 (i6 (q2+1)) q1 (q3++[v2.1]))<|(x_ax K a0.2.1).bind fun v3=>(x_fx a0.2.2.2.2.1).bind fun v4=>gr 49 [] a0.2.2.2.2.2<|some ((q1,v3.1,q3,a0.2.2.2.1,v4.1,[]++a0.2.2.2.2.2),())
def x_ad.l1 (K:Nat) (a0:x_as):Nat→y101:=lp3 (x_ad.l1b K a0)
def x_ad.l0 (K:Nat) (a0:x_as):Nat→y67:=lp2 fun r=>x_ad.l0b K a0 r (x_ad.l1 K a0 K)
def x_ad.b (K:Nat) (a0:x_as) (L0:y67):Option y17:=
 L0 0 []
def x_ad (K:Nat) (a0:x_as):Option y17:=x_ad.b K a0 (x_ad.l0 K a0 K)
def x_e9 (K:Nat) (a0:x_eh):Option y18:=
 (x_eu a0.2.2.1).bind fun v1=>(x_ad K a0.2.2.2).bind fun v2=>some ((a0.1,a0.2.1,v1.1,v2.1),())
def x_lz (a0:TLog) (a1:Int):Option y6:=
 it (a1=a0.1) (some (a0.2.1,()))<|(x_6 a0.1 0 300).bind fun v1=>cond (!v1.1) (some ((-1),()))<|(x_6 a1 0 300).bind fun v2=>cond (!v2.1) (some ((-1),()))<|(x_6 (i6 (a1-a0.1)) 1 (a0.2.2.length:Int)).bind fun v3=>cond (!v3.1) (some ((-1),()))<|ix (i6 ((i6 (a1-a0.1))-1)) a0.2.2<|some ((a0.2.2.getD ((i6 ((i6 (a1-a0.1))-1)).toNat) x_at).1,())
def x_dd.l0b (K:Nat) (a0:TLog) (a1:Int) (a2:Int) (a3:y13) (L0:y108) (q0:Int) (v2:y15) (q1:y13):Option y36:=
 it (q0<a3.length) (ix q0 a3<|it ((i6 ((i6 (a1-a0.1))+q0))<q1.length) (ix (i6 ((i6 (a1-a0.1))+q0)) q1<|it ((q1.getD ((i6 ((i6 (a1-a0.1))+q0)).toNat) x_at).1=(a3.getD q0.toNat x_at).1) (L0 (i6 (q0+1)) v2 q1)<|ck ((i6 ((i6 (a1-a0.1))+q0))=(i6 ((i6 (a1-a0.1))+q0)))<|ck (0≤(i6 ((i6 (a1-a0.1))+q0)))<|ck ((i6 ((i6 (a1-a0.1))+q0))≤q1.length)<|gr 89 ((q1.take ((i6 ((i6 (a1-a0.1))+q0)).toNat)).drop 0) [a3.getD q0.toNat x_at]<|L0 (i6 (q0+1)) v2 (((q1.take ((i6 ((i6 (a1-a0.1))+q0)).toNat)).drop 0)++[a3.getD q0.toNat x_at]))<|ck ((i6 ((i6 (a1-a0.1))+q0))=(i6 ((i6 (a1-a0.1))+q0)))<|ck (0≤(i6 ((i6 (a1-a0.1))+q0)))<|ck ((i6 ((i6 (a1-a0.1))+q0))≤q1.length)<|gr 89 ((q1.take ((i6 ((i6 (a1-a0.1))+q0)).toNat)).drop 0) [a3.getD q0.toNat x_at]<|L0 (i6 (q0+1)) v2 (((q1.take ((i6 ((i6 (a1-a0.1))+q0)).toNat)).drop 0)++[a3.getD q0.toNat x_at]))<|(x_d1 K (v2.1.1,v2.1.2.1,q1)).bind fun v4=>cond (!v4.1) ((x_eu a0).bind fun v5=>some (v5.1,false,()))<|some ((v2.1.1,v2.1.2.1,q1),true,())
def x_dd.l0 (K:Nat) (a0:TLog) (a1:Int) (a2:Int) (a3:y13):Nat→y108:=lp3 (x_dd.l0b K a0 a1 a2 a3)
def x_dd.b (K:Nat) (a0:TLog) (a1:Int) (a2:Int) (a3:y13) (L0:y108):Option y36:=
 (x_d1 K a0).bind fun v1=>cond (!v1.1) (some ((0,0,[]),false,()))<|(x_eu a0).bind fun v2=>it (a2<0) (some (v2.1,false,()))<|(x_lz a0 a1).bind fun v3=>nit (v3.1=a2) (some (v2.1,false,()))<|L0 0 v2 v2.1.2.2
def x_dd (K:Nat) (a0:TLog) (a1:Int) (a2:Int) (a3:y13):Option y36:=x_dd.b K a0 a1 a2 a3 (x_dd.l0 K a0 a1 a2 a3 K)
def x_g6 (K:Nat) (a1:TRow) (a2:x_g):Option y51:=
 (x_y K a2).bind fun v1=>(x_cq K v1.2.1).bind fun v2=>(x_cq K v2.2.1).bind fun v3=>(x_y K v3.2.1).bind fun v4=>(x_y K v4.2.1).bind fun v5=>gr 57 a1.2.2 [(v1.1,v2.1,v3.1,v4.1,v5.1)]<|some ((a1.1,a1.2.1,a1.2.2++[(v1.1,v2.1,v3.1,v4.1,v5.1)]),v5.2.1,())
def x_f.l0b (K:Nat) (a0:x_g) (a2:TRow) (L0:y123) (v1:y47) (q0:Int) (q1:y24) (q2:TRow):Option y52:=
 it (q0<v1.1) (cond (!q1.1.2.2) ((x_g6 K q2 q1.1).bind fun v2=>L0 v1 (i6 (q0+1)) v2.2 v2.1)<|some (q1.1,q2,()))<|some (q1.1,q2,())
def x_f.l0 (K:Nat) (a0:x_g) (a2:TRow):Nat→y123:=lp4 (x_f.l0b K a0 a2)
def x_f.b (K:Nat) (a0:x_g) (a2:TRow) (L0:y123):Option y52:=
 (x_y K a0).bind fun v1=>L0 v1 0 v1.2 a2
def x_f (K:Nat) (a0:x_g) (a2:TRow):Option y52:=x_f.b K a0 a2 (x_f.l0 K a0 a2 K)
def x_g1 (K:Nat) (a0:x_g):Option y51:=
 (x_y K a0).bind fun v1=>(x_y K v1.2.1).bind fun v2=>(x_f K v2.2.1 (v1.1,v2.1,[])).bind fun v3=>some (v3.2.1,v3.1,())
def x_my (K:Nat) (a0:x_as) (a2:x_g):Option y58:=
 (x_g1 K a2).bind fun v1=>gr 41 a0.1 [v1.1]<|some ((a0.1++[v1.1],a0.2),v1.2.1,())
def x_o.l0b (K:Nat) (a0:x_g) (a1:x_as) (L0:y125) (v1:y47) (q0:Int) (q1:y24) (q2:x_as):Option y64:=
 it (q0<v1.1) (cond (!q1.1.2.2) ((x_my K q2 q1.1).bind fun v2=>L0 v1 (i6 (q0+1)) v2.2 v2.1)<|some (q1.1,q2,()))<|some (q1.1,q2,())
def x_o.l0 (K:Nat) (a0:x_g) (a1:x_as):Nat→y125:=lp4 (x_o.l0b K a0 a1)
def x_o.b (K:Nat) (a0:x_g) (a1:x_as) (L0:y125):Option y64:=
 (x_y K a0).bind fun v1=>L0 v1 0 v1.2 a1
def x_o (K:Nat) (a0:x_g) (a1:x_as):Option y64:=x_o.b K a0 a1 (x_o.l0 K a0 a1 K)
def x_fj (K:Nat) (a1:x_am) (a2:x_g):Option y71:=
 (x_y K a2).bind fun v1=>(x_y K v1.2.1).bind fun v2=>gr 17 a1.2.2.2.2 [(v1.1,v2.1)]<|some ((a1.1,a1.2.1,a1.2.2.1,a1.2.2.2.1,a1.2.2.2.2++[(v1.1,v2.1)]),v2.2.1,())
def x_d.l0b (K:Nat) (a0:x_g) (a2:x_am) (L0:y126) (v1:y47) (q0:Int) (q1:y24) (q2:x_am):Option y75:=
 it (q0<v1.1) (cond (!q1.1.2.2) ((x_fj K q2 q1.1).bind fun v2=>L0 v1 (i6 (q0+1)) v2.2 v2.1)<|some (q1.1,q2,()))<|some (q1.1,q2,())
def x_d.l0 (K:Nat) (a0:x_g) (a2:x_am):Nat→y126:=lp4 (x_d.l0b K a0 a2)
def x_d.b (K:Nat) (a0:x_g) (a2:x_am) (L0:y126):Option y75:=
 (x_y K a0).bind fun v1=>L0 v1 0 v1.2 a2
def x_d (K:Nat) (a0:x_g) (a2:x_am):Option y75:=x_d.b K a0 a2 (x_d.l0 K a0 a2 K)
def x_fg (K:Nat) (a0:x_g):Option y71:=
 (x_y K a0).bind fun v1=>(x_y K v1.2.1).bind fun v2=>(x_y K v2.2.1).bind fun v3=>(x_y K v3.2.1).bind fun v4=>(x_d K v4.2.1 (v1.1,v2.1,v3.1,i6 (v4.1-1),[])).bind fun v5=>some (v5.2.1,v5.1,())
def x_nf (K:Nat) (a0:x_as) (a2:x_g):Option y58:=
 (x_fg K a2).bind fun v1=>gr 57 a0.2.1 [v1.1]<|some ((a0.1,a0.2.1++[v1.1],a0.2.2),v1.2.1,())
def x_n.l0b (K:Nat) (a0:x_g) (a1:x_as) (L0:y125) (v1:y47) (q0:Int) (q1:y24) (q2:x_as):Option y64:=
 it (q0<v1.1) (cond (!q1.1.2.2) ((x_nf K q2 q1.1).bind fun v2=>L0 v1 (i6 (q0+1)) v2.2 v2.1)<|some (q1.1,q2,()))<|some (q1.1,q2,())
def x_n.l0 (K:Nat) (a0:x_g) (a1:x_as):Nat→y125:=lp4 (x_n.l0b K a0 a1)
def x_n.b (K:Nat) (a0:x_g) (a1:x_as) (L0:y125):Option y64:=
 (x_y K a0).bind fun v1=>L0 v1 0 v1.2 a1
def x_n (K:Nat) (a0:x_g) (a1:x_as):Option y64:=x_n.b K a0 a1 (x_n.l0 K a0 a1 K)
def x_fu (K:Nat) (a0:x_ag) (a2:x_g):Option y72:=
 (x_y K a2).bind fun v1=>gr 9 a0.2.1 [v1.1]<|(x_y K v1.2.1).bind fun v2=>gr 9 a0.2.2.1 [v2.1]<|some ((a0.1,a0.2.1++[v1.1],a0.2.2.1++[v2.1],a0.2.2.2),v2.2.1,())
def x_c.l0b (K:Nat) (a0:x_g) (a1:x_ag) (L0:y127) (v1:y47) (q0:Int) (q1:y24) (q2:x_ag):Option y76:=
 it (q0<v1.1) (cond (!q1.1.2.2) ((x_fu K q2 q1.1).bind fun v2=>L0 v1 (i6 (q0+1)) v2.2 v2.1)<|some (q1.1,q2,()))<|some (q1.1,q2,())
def x_c.l0 (K:Nat) (a0:x_g) (a1:x_ag):Nat→y127:=lp4 (x_c.l0b K a0 a1)
def x_c.b (K:Nat) (a0:x_g) (a1:x_ag) (L0:y127):Option y76:=
 (x_y K a0).bind fun v1=>L0 v1 0 v1.2 a1
def x_c (K:Nat) (a0:x_g) (a1:x_ag):Option y76:=x_c.b K a0 a1 (x_c.l0 K a0 a1 K)
def x_ab.l0b (K:Nat) (a0:x_g) (a1:Int) (L0:y128) (q0:Int) (q1:x_g) (v2:y76) (q2:y0):Option y72:=
 it (q0<a1) ((x_y K q1).bind fun v3=>gr 9 q2 [v3.1]<|L0 (i6 (q0+1)) v3.2.1 v2 (q2++[v3.1]))<|some ((v2.2.1.1,v2.2.1.2.1,v2.2.1.2.2.1,q2),q1,())
def x_ab.l0 (K:Nat) (a0:x_g) (a1:Int):Nat→y128:=lp4 (x_ab.l0b K a0 a1)
def x_ab.b (K:Nat) (a0:x_g) (a1:Int) (L0:y128):Option y72:=
 (x_y K a0).bind fun v1=>(x_c K v1.2.1 (v1.1,[],[],[])).bind fun v2=>L0 0 v2.1 v2 v2.2.1.2.2.2
def x_ab (K:Nat) (a0:x_g) (a1:Int):Option y72:=x_ab.b K a0 a1 (x_ab.l0 K a0 a1 K)
def x_l5 (K:Nat) (a0:x_as) (a2:x_e) (a3:x_g):Option (x_as×x_e×x_g×Unit):=
 (x_ab K a3 a2.1).bind fun v1=>gr 81 a0.2.2.1 [v1.1]<|some ((a0.1,a0.2.1,a0.2.2.1++[v1.1],a0.2.2.2),a2,v1.2.1,())
def x_p.l0b (K:Nat) (a0:x_g) (a1:x_as) (a3:x_e) (L0:y136) (v1:y47) (q0:Int) (q1:y24) (q2:x_as) (q3:x_e):Option y111:=
 it (q0<v1.1) (cond (!q1.1.2.2) ((x_l5 K q2 q3 q1.1).bind fun v2=>L0 v1 (i6 (q0+1)) v2.2.2 v2.1 v2.2.1)<|some (q1.1,q2,q3,()))<|some (q1.1,q2,q3,())
def x_p.l0 (K:Nat) (a0:x_g) (a1:x_as) (a3:x_e):Nat→y136:=lp5 (x_p.l0b K a0 a1 a3)
def x_p.b (K:Nat) (a0:x_g) (a1:x_as) (a3:x_e) (L0:y136):Option y111:=
 (x_y K a0).bind fun v1=>L0 v1 0 v1.2 a1 a3
def x_p (K:Nat) (a0:x_g) (a1:x_as) (a3:x_e):Option y111:=x_p.b K a0 a1 a3 (x_p.l0 K a0 a1 a3 K)
def x_cz.l0b (K:Nat) (a0:x_e) (a1:y0) (L0:y140) (q0:Int) (v4:y111) (v5:y47) (q1:y0) (q2:y19) (q3:y24):Option y42:=
 it (q0<4) ((x_y K q3.1).bind fun v6=>gr 9 q1 [v6.1]<|(x_y K v6.2.1).bind fun v7=>(x_y K v7.2.1).bind fun v8=>(x_cq K v8.2.1).bind fun v9=>(x_cq K v9.2.1).bind fun v10=>gr 49 q2 [(v7.1,i6 (v8.1-1),v9.1,v10.1)]<|L0 (i6 (q0+1)) v4 v5 (q1++[v6.1]) (q2++[(v7.1,i6 (v8.1-1),v9.1,v10.1)]) v10.2)<|cond q3.1.2.2 (some (([],[],[],0,[],[]),false,()))<|nit (q3.1.2.1=a1.length) (some (([],[],[],0,[],[]),false,()))<|(x_cs K v4.2.2.1 (v4.2.1.1,v4.2.1.2.1,v4.2.1.2.2.1,v5.1,q1,q2)).bind fun v11=>cond (!v11.1) (some (([],[],[],0,[],[]),false,()))<|some ((v4.2.1.1,v4.2.1.2.1,v4.2.1.2.2.1,v5.1,q1,q2),true,())
def x_cz.l0 (K:Nat) (a0:x_e) (a1:y0):Nat→y140:=lp6 (x_cz.l0b K a0 a1)
def x_cz.b (K:Nat) (a0:x_e) (a1:y0) (L0:y140):Option y42:=
 (x_g4 a0).bind fun v1=>cond (!v1.1) (some (([],[],[],0,[],[]),false,()))<|(x_o K (a1,0,false) ([],[],[],0,[],[])).bind fun v2=>(x_n K v2.1 v2.2.1).bind fun v3=>(x_p K v3.1 v3.2.1 a0).bind fun v4=>(x_y K v4.1).bind fun v5=>L0 0 v4 v5 v4.2.1.2.2.2.2.1 v4.2.1.2.2.2.2.2 v5.2
def x_cz (K:Nat) (a0:x_e) (a1:y0):Option y42:=x_cz.b K a0 a1 (x_cz.l0 K a0 a1 K)
def x_ov (a0:TLog) (a1:Int):Option y15:=
 (x_6 a0.1 0 300).bind fun v1=>cond (!v1.1) ((x_eu a0).bind fun v3=>some (v3.1,()))<|(x_6 a1 0 300).bind fun v2=>cond (!v2.1) ((x_eu a0).bind fun v4=>some (v4.1,()))<|it (a1≤a0.1) ((x_eu a0).bind fun v5=>some (v5.1,()))<|it ((i6 (a1-a0.1))>a0.2.2.length) ((x_eu a0).bind fun v6=>some (v6.1,()))<|ix (i6 ((i6 (a1-a0.1))-1)) a0.2.2<|ck ((a0.2.2.length:Int)=(a0.2.2.length:Int))<|ck (0≤(i6 (a1-a0.1)))<|ck ((i6 (a1-a0.1))≤a0.2.2.length)<|ck ((a0.2.2.length:Int)≤a0.2.2.length)<|gr 89 [] ((a0.2.2.take ((a0.2.2.length:Int).toNat)).drop ((i6 (a1-a0.1)).toNat))<|some ((a1,(a0.2.2.getD ((i6 ((i6 (a1-a0.1))-1)).toNat) x_at).1,[]++((a0.2.2.take ((a0.2.2.length:Int).toNat)).drop ((i6 (a1-a0.1)).toNat))),())
def x_fk.j0 (K:Nat) (a0:x_e) (p10:Int) (p11:Int) (p12:Int) (p13:Int) (p14:y13) (p15:x_as) (a1:x_eh):Option y18:=
 (x_iw K a0 (p10,p11,(p12,p13,p14),p15)).bind fun v16=>cond (!v16.1) ((x_e9 K a1).bind fun v17=>some (v17.1,()))<|some ((p10,p11,(p12,p13,p14),p15),())
def x_fk (K:Nat) (a0:x_e) (a1:x_eh) (a2:x_cw):Option y18:=
 (x_iw K a0 a1).bind fun v1=>cond (!v1.1) ((x_e9 K a1).bind fun v3=>some (v3.1,()))<|(x_j3 K a2).bind fun v2=>cond (!v2.1) ((x_e9 K a1).bind fun v4=>some (v4.1,()))<|(x_e9 K a1).bind fun v5=>it (a2.1=1) (x_fk.j0 K a0 a2.2.1 a2.2.2.1 v5.1.2.2.1.1 v5.1.2.2.1.2.1 v5.1.2.2.1.2.2 v5.1.2.2.2 a1)<|it (a2.1=2) ((x_dd K a1.2.2.1 a2.2.2.2.1 a2.2.1 a2.2.2.2.2.1).bind fun v6=>cond v6.2.1 (x_fk.j0 K a0 v5.1.1 v5.1.2.1 v6.1.1 v6.1.2.1 v6.1.2.2 v5.1.2.2.2 a1)<|(x_iw K a0 v5.1).bind fun v18=>cond (!v18.1) ((x_e9 K a1).bind fun v19=>some (v19.1,()))<|some (v5.1,()))<|(x_cz K a0 (x_ck a2.2.2.2.2.2)).bind fun v7=>cond (!v7.2.1) (some (v5.1,()))<|it (a2.2.2.2.1≤a1.2.2.1.1) (some (v5.1,()))<|(x_lz a1.2.2.1 a2.2.2.2.1).bind fun v8=>it (v8.1=a2.2.1) ((x_ov a1.2.2.1 a2.2.2.2.1).bind fun v9=>x_fk.j0 K a0 v5.1.1 v5.1.2.1 v9.1.1 v9.1.2.1 v9.1.2.2 v7.1 a1)<|x_fk.j0 K a0 v5.1.1 v5.1.2.1 a2.2.2.2.1 a2.2.1 [] v7.1 a1
def x_dc.l0b (K:Nat) (a0:x_e) (a1:y0) (L0:y113) (v2:y84) (q0:Int) (q1:y18):Option y18:=
 it (q0<v2.1.length) (ix q0 v2.1<|(x_fk K a0 q1.1 (v2.1.getD q0.toNat zNote)).bind fun v3=>L0 v2 (i6 (q0+1)) v3)<|some (q1.1,())
def x_dc.l0 (K:Nat) (a0:x_e) (a1:y0):Nat→y113:=lp3 (x_dc.l0b K a0 a1)
def x_dc.b (K:Nat) (a0:x_e) (a1:y0) (L0:y113):Option y18:=
 (x_hc K a0).bind fun v1=>(x_ep K a1).bind fun v2=>L0 v2 0 v1
def x_dc (K:Nat) (a0:x_e) (a1:y0):Option y18:=x_dc.b K a0 a1 (x_dc.l0 K a0 a1 K)
def x_c1.l0b (K:Nat) (a0:y13) (a1:y13) (L0:y28) (q0:Int):Option y11:=
 it (q0<a0.length) (ix q0 a0<|ix q0 a1<|cond (!(qEntry (a0.getD q0.toNat x_at) (a1.getD q0.toNat x_at))) (some (false,()))<|L0 (i6 (q0+1)))<|some (true,())
def x_c1.l0 (K:Nat) (a0:y13) (a1:y13):Nat→y28:=lp1 (x_c1.l0b K a0 a1)
def x_c1.b (K:Nat) (a0:y13) (a1:y13) (L0:y28):Option y11:=
 nit ((a0.length:Int)=a1.length) (some (false,()))<|L0 0
def x_c1 (K:Nat) (a0:y13) (a1:y13):Option y11:=x_c1.b K a0 a1 (x_c1.l0 K a0 a1 K)
def x_lh (K:Nat) (a0:TLog) (a1:TLog):Option y11:=
 it (a0.1=a1.1) (it (a0.2.1=a1.2.1) ((x_c1 K a0.2.2 a1.2.2).bind fun v1=>some (v1.1,()))<|some (false,()))<|some (false,())
def x_b8.l0b (K:Nat) (a0:y8) (a1:y8) (L0:y28) (q0:Int):Option y11:=
 it (q0<a0.length) (ix q0 a0<|ix q0 a1<|cond (!(qItem (a0.getD q0.toNat x_cb) (a1.getD q0.toNat x_cb))) (some (false,()))<|L0 (i6 (q0+1)))<|some (true,())
def x_b8.l0 (K:Nat) (a0:y8) (a1:y8):Nat→y28:=lp1 (x_b8.l0b K a0 a1)
def x_b8.b (K:Nat) (a0:y8) (a1:y8) (L0:y28):Option y11:=
 nit ((a0.length:Int)=a1.length) (some (false,()))<|L0 0
def x_b8 (K:Nat) (a0:y8) (a1:y8):Option y11:=x_b8.b K a0 a1 (x_b8.l0 K a0 a1 K)
def x_hb (K:Nat) (a0:TRow) (a1:TRow):Option y11:=
 it (a0.1=a1.1) (it (a0.2.1=a1.2.1) ((x_b8 K a0.2.2 a1.2.2).bind fun v1=>some (v1.1,()))<|some (false,()))<|some (false,())
def x_l.l0b (K:Nat) (a0:y3) (a1:y3) (L0:y28) (q0:Int):Option y11:=
 it (q0<a0.length) (ix q0 a0<|ix q0 a1<|(x_hb K (a0.getD q0.toNat zRow) (a1.getD q0.toNat zRow)).bind fun v1=>cond (!v1.1) (some (false,()))<|L0 (i6 (q0+1)))<|some (true,())
def x_l.l0 (K:Nat) (a0:y3) (a1:y3):Nat→y28:=lp1 (x_l.l0b K a0 a1)
def x_l.b (K:Nat) (a0:y3) (a1:y3) (L0:y28):Option y11:=
 nit ((a0.length:Int)=a1.length) (some (false,()))<|L0 0
def x_l (K:Nat) (a0:y3) (a1:y3):Option y11:=x_l.b K a0 a1 (x_l.l0 K a0 a1 K)
def x_ca.l0b (K:Nat) (a0:y9) (a1:y9) (L0:y28) (q0:Int):Option y11:=
 it (q0<a0.length) (ix q0 a0<|ix q0 a1<|cond (!(qMark (a0.getD q0.toNat x_io) (a1.getD q0.toNat x_io))) (some (false,()))<|L0 (i6 (q0+1)))<|some (true,())
def x_ca.l0 (K:Nat) (a0:y9) (a1:y9):Nat→y28:=lp1 (x_ca.l0b K a0 a1)
def x_ca.b (K:Nat) (a0:y9) (a1:y9) (L0:y28):Option y11:=
 nit ((a0.length:Int)=a1.length) (some (false,()))<|L0 0
def x_ca (K:Nat) (a0:y9) (a1:y9):Option y11:=x_ca.b K a0 a1 (x_ca.l0 K a0 a1 K)
def x_g8 (K:Nat) (a0:x_am) (a1:x_am):Option y11:=
 it (a0.1=a1.1) (it (a0.2.1=a1.2.1) (it (a0.2.2.1=a1.2.2.1) (it (a0.2.2.2.1=a1.2.2.2.1) ((x_ca K a0.2.2.2.2 a1.2.2.2.2).bind fun v1=>some (v1.1,()))<|some (false,()))<|some (false,()))<|some (false,()))<|some (false,())
def x_m.l0b (K:Nat) (a0:y14) (a1:y14) (L0:y28) (q0:Int):Option y11:=
 it (q0<a0.length) (ix q0 a0<|ix q0 a1<|(x_g8 K (a0.getD q0.toNat x_bc) (a1.getD q0.toNat x_bc)).bind fun v1=>cond (!v1.1) (some (false,()))<|L0 (i6 (q0+1)))<|some (true,())
def x_m.l0 (K:Nat) (a0:y14) (a1:y14):Nat→y28:=lp1 (x_m.l0b K a0 a1)
def x_m.b (K:Nat) (a0:y14) (a1:y14) (L0:y28):Option y11:=
 nit ((a0.length:Int)=a1.length) (some (false,()))<|L0 0
def x_m (K:Nat) (a0:y14) (a1:y14):Option y11:=x_m.b K a0 a1 (x_m.l0 K a0 a1 K)
def x_bp.l0b (K:Nat) (a0:y0) (a1:y0) (L0:y28) (q0:Int):Option y11:=
 it (q0<a0.length) (ix q0 a0<|ix q0 a1<|nit ((a0.getD q0.toNat 0)=(a1.getD q0.toNat 0)) (some (false,()))<|L0 (i6 (q0+1)))<|some (true,())
def x_bp.l0 (K:Nat) (a0:y0) (a1:y0):Nat→y28:=lp1 (x_bp.l0b K a0 a1)
def x_bp.b (K:Nat) (a0:y0) (a1:y0) (L0:y28):Option y11:=
 nit ((a0.length:Int)=a1.length) (some (false,()))<|L0 0
def x_bp (K:Nat) (a0:y0) (a1:y0):Option y11:=x_bp.b K a0 a1 (x_bp.l0 K a0 a1 K)
def x_hf (K:Nat) (a0:x_ag) (a1:x_ag):Option y11:=
 it (a0.1=a1.1) ((x_bp K a0.2.1 a1.2.1).bind fun v1=>cond v1.1 ((x_bp K a0.2.2.1 a1.2.2.1).bind fun v2=>cond v2.1 ((x_bp K a0.2.2.2 a1.2.2.2).bind fun v3=>some (v3.1,()))<|some (false,()))<|some (false,()))<|some (false,())
def x_k.l0b (K:Nat) (a0:y12) (a1:y12) (L0:y28) (q0:Int):Option y11:=
 it (q0<a0.length) (ix q0 a0<|ix q0 a1<|(x_hf K (a0.getD q0.toNat x_co) (a1.getD q0.toNat x_co)).bind fun v1=>cond (!v1.1) (some (false,()))<|L0 (i6 (q0+1)))<|some (true,())
def x_k.l0 (K:Nat) (a0:y12) (a1:y12):Nat→y28:=lp1 (x_k.l0b K a0 a1)
def x_k.b (K:Nat) (a0:y12) (a1:y12) (L0:y28):Option y11:=
 nit ((a0.length:Int)=a1.length) (some (false,()))<|L0 0
def x_k (K:Nat) (a0:y12) (a1:y12):Option y11:=x_k.b K a0 a1 (x_k.l0 K a0 a1 K)
def x_b1.l0b (K:Nat) (a0:y19) (a1:y19) (L0:y28) (q0:Int):Option y11:=
 it (q0<a0.length) (ix q0 a0<|ix q0 a1<|cond (!(qAnswer (a0.getD q0.toNat x_cc) (a1.getD q0.toNat x_cc))) (some (false,()))<|L0 (i6 (q0+1)))<|some (true,())
def x_b1.l0 (K:Nat) (a0:y19) (a1:y19):Nat→y28:=lp1 (x_b1.l0b K a0 a1)
def x_b1.b (K:Nat) (a0:y19) (a1:y19) (L0:y28):Option y11:=
 nit ((a0.length:Int)=a1.length) (some (false,()))<|L0 0
def x_b1 (K:Nat) (a0:y19) (a1:y19):Option y11:=x_b1.b K a0 a1 (x_b1.l0 K a0 a1 K)
def x_jf (K:Nat) (a0:x_as) (a1:x_as):Option y11:=
 (x_l K a0.1 a1.1).bind fun v1=>(x_m K a0.2.1 a1.2.1).bind fun v2=>(x_k K a0.2.2.1 a1.2.2.1).bind fun v3=>cond v1.1 (cond v2.1 (cond v3.1 (it (a0.2.2.2.1=a1.2.2.2.1) ((x_bp K a0.2.2.2.2.1 a1.2.2.2.2.1).bind fun v4=>cond v4.1 ((x_b1 K a0.2.2.2.2.2 a1.2.2.2.2.2).bind fun v5=>some (v5.1,()))<|some (false,()))<|some (false,()))<|some (false,()))<|some (false,()))<|some (false,())
def x_jg (K:Nat) (a0:x_eh) (a1:x_eh):Option y11:=
 it (a0.1=a1.1) (it (a0.2.1=a1.2.1) ((x_lh K a0.2.2.1 a1.2.2.1).bind fun v1=>cond v1.1 ((x_jf K a0.2.2.2 a1.2.2.2).bind fun v2=>some (v2.1,()))<|some (false,()))<|some (false,()))<|some (false,())
def x_xf (K:Nat) (a0:x_e) (a1:x_cg):Option y11:=
 (x_dc K a0 a1.2.2.2.2.2.2.2.2.1.1).bind fun v1=>(x_jg K v1.1 a1.2.1).bind fun v2=>some (v2.1,())
def x_f4 (K:Nat) (a0:x_as) (a1:x_as):Option y11:=
 (x_b K a0).bind fun v1=>(x_b K a1).bind fun v2=>it ((x_jp v1.1).data.toList=(x_jp v2.1).data.toList) (some (decide ((a0.2.2.2.2.1.length:Int)=a1.2.2.2.2.1.length),()))<|some (false,())
def x_f3 (K:Nat) (a0:x_eh) (a1:x_eh):Option y11:=
 it (a0.1=a1.1) (it (a0.2.1=a1.2.1) (it (a0.2.2.1.1=a1.2.2.1.1) (it (a0.2.2.1.2.1=a1.2.2.1.2.1) ((x_af K a0.2.2.1.2.2 a1.2.2.1.2.2).bind fun v1=>cond v1.1 ((x_f4 K a0.2.2.2 a1.2.2.2).bind fun v2=>some (v2.1,()))<|some (false,()))<|some (false,()))<|some (false,()))<|some (false,()))<|some (false,())
def s_Kept (K:Nat) (a0:x_e) (a1:x_cg):Option y11:=
 (x_hx K a0 a1.2.1).bind fun v1=>cond v1.1 ((x_ce K a0 a1.2.2.2.2.2.2.2.2.1.1).bind fun v2=>(x_f3 K v2.1 a1.2.1).bind fun v3=>some (v3.1,()))<|some (false,())
def x_wh (a0:Int):Option y6:=
 some (i6 ((Int.fdiv a0 (2 ^ 1))+1),())
def x_k7 (K:Nat) (a0:y0):Option y11:=
 (l_big a0).bind fun v1=>cond v1.1 (some (true,()))<|(x_f6 K a0).bind fun v2=>(x_li K v2.1 v2.2.1 v2.2.2.1).bind fun v3=>(x_g9 K v2.1 v2.2.1 v2.2.2.1).bind fun v4=>(x_g7 K a0).bind fun v5=>(x_je K a0).bind fun v6=>(x_jv K a0).bind fun v7=>cond (!(v3.2.1 == v4.2.1)) (some (false,()))<|(x_kd K v5.1 v5.2.1 v5.2.2.1).bind fun v8=>(x_ac K v5.1 v5.2.1 v5.2.2.1).bind fun v9=>cond (!(v8.1 == v9.1)) (some (false,()))<|(x_xf K v6.1 v6.2.1).bind fun v10=>(s_Kept K v6.1 v6.2.1).bind fun v11=>cond (!(v10.1 == v11.1)) (some (false,()))<|(x_wh v7.1).bind fun v12=>(x_nn v7.1).bind fun v13=>nit (v12.1=v13.1) (some (false,()))<|(x_wh v7.1).bind fun v14=>it ((i6 (2*v14.1))>v7.1) (cond (!v3.2.1) (some (true,()))<|(x_kd K v2.1 v3.1 v2.2.2.1).bind fun v15=>cond v15.1 ((x_xf K v2.1 v3.1).bind fun v16=>some (v16.1,()))<|some (false,()))<|some (false,())
end Go.Proofs.YtoiamgohjmjbiaaGreat.Pe
