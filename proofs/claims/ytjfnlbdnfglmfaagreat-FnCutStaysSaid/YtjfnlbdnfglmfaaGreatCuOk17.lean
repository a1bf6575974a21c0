/- The functions compute what is told of them. -/
import Derived.Test.YtjfnlbdnfglmfaaGreatCuOk16
set_option linter.all false
set_option maxRecDepth 100000
namespace Go.Proofs.YtjfnlbdnfglmfaaGreat.Cu
open Go Go.Kn
noncomputable def B242 (K:Nat):Bd PP:=⟨⟨[va x_bt 0,va x_dg 337],[ro (.sl (.i .u8)) 2],[],u2 (x_c K),false⟩,cn (o89 K)<|cn (o269 K)<|cn (o294 K)<|cn (o272 K)<|cn (o270 K) tt,hn [12,2097160,16,40,1879048232,4026531880,1879048360,1879048232,1879048232,40,985162418487336,2111062325329960,985162418487848,985162418487848,8264142330184297611304,17708875295923588038696,8264142330184297613352,8264142330184297611304,8264142330184297611304,985162418487336,40,138649284399962590788701913128,297105609428491265975789813800,138649284399962590788701921320,138649284399962590788701921320,9086658151720348312519157278056488,19471251868790003569580149936496680,9086658151720348312519157278105640,9086658151720348312519157278056488,9086658151720348312519157278056488,138649284399962590788701913128,138649284399962590788701913128,40,19513152048714295248843753488567316317732904,41813897247244918390379471761215677823713320,19513152048714295248843753488567316317929512,19513152048714295248843753488567316317732904,19513152048714295248843753488567316317732904,16],K,Tryz.f242,[.tmp 4]⟩
noncomputable def x_c.g0 (K:Nat) (a0:x_d) (a1:x_ai) (n:Nat) (q0:y0) (q1:Int):Option y31:=
 lq (B242 K) (dirs 6 6906) n ⟨dd 3++[vt 3 1 0, .dead,vl (.i .u8) 2 q0]++dd 22++[vl eRow 1 a1.1,vi (a1.1.length:Int),vi q1]++dd 140,dn 3++[bv x_dg 337 a1]++dn 169⟩
noncomputable def x_c.g1 (K:Nat) (a0:x_d) (a1:x_ai) (n:Nat) (q4:y0) (q5:Int):Option y31:=
 lq (B242 K) (dirs 8 172656) n ⟨dd 3++[vt 3 1 0, .dead,vl (.i .u8) 2 q4]++dd 41++[vl x_bs 1 a1.2.1,vi (a1.2.1.length:Int),vi q5]++dd 121,dn 3++[bv x_dg 337 a1]++dn 169⟩
noncomputable def x_c.g2 (K:Nat) (a0:x_d) (a1:x_ai) (n1:Nat) (n:Nat) (q6:y0) (q5:Int) (q7:Int):Option y31:=
 lq (B242 K) [.r, .r, .r, .r, .r, .l, .r, .b, .lp n1, .r, .r, .l, .b, .r, .r, .r, .b] n ⟨dd 3++[vt 3 1 0, .dead,vl (.i .u8) 2 q6]++dd 41++[vl x_bs 1 a1.2.1,vi (a1.2.1.length:Int),vi q5]++dd 20++[vl x_rv 0 (a1.2.1.getD q5.toNat x_bb).2.2.2.2,vi ((a1.2.1.getD q5.toNat x_bb).2.2.2.2.length:Int),vi q7]++dd 98,dn 3++[bv x_dg 337 a1]++dn 169⟩
noncomputable def x_c.g3 (K:Nat) (a0:x_d) (a1:x_ai) (n:Nat) (q10:y0) (q11:Int):Option y31:=
 lq (B242 K) (dirs 10 4316406) n ⟨dd 3++[vt 3 1 0, .dead,vl (.i .u8) 2 q10]++dd 88++[vl x_bh 1 a1.2.2.1,vi (a1.2.2.1.length:Int),vi q11]++dd 74,dn 3++[bv x_dg 337 a1]++dn 169⟩
noncomputable def x_c.g4 (K:Nat) (a0:x_d) (a1:x_ai) (n3:Nat) (n:Nat) (q12:y0) (q11:Int) (q13:Int):Option y31:=
 lq (B242 K) [.r, .r, .r, .r, .r, .r, .r, .l, .r, .b, .lp n3, .r, .r, .l, .b, .r, .r, .l, .r, .b] n ⟨dd 3++[vt 3 1 0, .dead,vl (.i .u8) 2 q12]++dd 7++[vt 13 1 0]++dd 80++[vl x_bh 1 a1.2.2.1,vi (a1.2.2.1.length:Int),vi q11]++dd 13++[vl (.i .i64) 0 (a1.2.2.1.getD q11.toNat x_bv).2.1,vi ((a1.2.2.1.getD q11.toNat x_bv).2.1.length:Int),vi q13]++dd 58,dn 3++[bv x_dg 337 a1]++dn 9++[bv x_bh 0 (a1.2.2.1.getD q11.toNat x_bv)]++dn 159⟩
noncomputable def x_c.g5 (K:Nat) (a0:x_d) (a1:x_ai) (n:Nat) (q14:y0) (q15:Int):Option y31:=
 lq (B242 K) (dirs 12 107910156) n ⟨dd 3++[vt 3 1 0, .dead,vl (.i .u8) 2 q14]++dd 135++[vl x_bz 1 a1.2.2.2.2.2,vi (a1.2.2.2.2.2.length:Int),vi q15]++dd 27,dn 3++[bv x_dg 337 a1]++dn 169⟩
theorem x_c.ok2 (K:Nat) (a0:x_d) (a1:x_ai) (n1:Nat):x_c.g2 K a0 a1 n1=x_c.l2 K a0 a1 (x_c.g1 K a0 a1 n1):=
 funext (lpe3 (fun _ _ _=>by kernel_rfl) fun _ _ _ _=>by kernel_rfl)
theorem x_c.ok4 (K:Nat) (a0:x_d) (a1:x_ai) (n3:Nat):x_c.g4 K a0 a1 n3=x_c.l4 K a0 a1 (x_c.g3 K a0 a1 n3):=
 funext (lpe3 (fun _ _ _=>by kernel_rfl) fun _ _ _ _=>by kernel_rfl)
theorem x_c.ok5 (K:Nat) (a0:x_d) (a1:x_ai):x_c.g5 K a0 a1=x_c.l5 K a0 a1:=
 funext (lpe2 (fun _ _=>by kernel_rfl) fun _ _ _=>by kernel_rfl)
theorem x_c.ok3 (K:Nat) (a0:x_d) (a1:x_ai):x_c.g3 K a0 a1=x_c.l3 K a0 a1:=
 funext (lpe2 (fun _ _=>by kernel_rfl) fun n q10 q11=>(show x_c.g3 K a0 a1 (n+1) q10 q11=x_c.l3b K a0 a1 (x_c.g4 K a0 a1 n K) (x_c.g5 K a0 a1 K) q10 q11 by kernel_rfl).trans (by rw [x_c.ok4,x_c.ok5]<;>rfl))
theorem x_c.ok1 (K:Nat) (a0:x_d) (a1:x_ai):x_c.g1 K a0 a1=x_c.l1 K a0 a1:=
 funext (lpe2 (fun _ _=>by kernel_rfl) fun n q4 q5=>(show x_c.g1 K a0 a1 (n+1) q4 q5=x_c.l1b K a0 a1 (x_c.g2 K a0 a1 n K) (x_c.g3 K a0 a1 K) q4 q5 by kernel_rfl).trans (by rw [x_c.ok2,x_c.ok3]<;>rfl))
theorem x_c.ok0 (K:Nat) (a0:x_d) (a1:x_ai):x_c.g0 K a0 a1=x_c.l0 K a0 a1:=
 funext (lpe2 (fun _ _=>by kernel_rfl) fun n q0 q1=>(show x_c.g0 K a0 a1 (n+1) q0 q1=x_c.l0b K a0 a1 (x_c.g0 K a0 a1 n) (x_c.g1 K a0 a1 K) q0 q1 by kernel_rfl).trans (by rw [x_c.ok1]<;>rfl))
theorem o242 (K:Nat):FOk PP 242 (B242 K).F:=bok mixed Tryz.func242 fun v=>by
 have e:(B242 K).run v=x_c.b K v.1 v.2.1 (x_c.g0 K v.1 v.2.1 K):=by kernel_rfl
 rw [x_c.ok0] at e
 exact e.trans (by kernel_rfl)
noncomputable def B144:Bd PP:=⟨⟨[va eLog 9,vo (.i .i64) 0],[ro (.i .i64) 0],[],u2 x_kg,false⟩,cn o17 tt,hn [6,262,16,1073741830,16,16],0,Tryz.f144,[.tmp 4]⟩
theorem o144:FOk PP 144 B144.F:=bok mixed Tryz.func144
noncomputable def B181 (K:Nat):Bd PP:=⟨⟨[va x_bt 0,va x_it 81972],[ro (.sl (.i .u8)) 2],[],u2 (x_au K),false⟩,cn (o87 K)<|cn (o203 K)<|cn (o242 K)<|cn o144 tt,hn [12,4108,16,44,4194348,40,104,8796093022312,104,232,488,104,16],K,Tryz.f181,[.tmp 4]⟩
noncomputable def x_au.g0 (K:Nat) (a0:x_d) (a1:x_dh) (n:Nat) (q2:y0) (q3:Int):Option y31:=
 lq (B181 K) (dirs 7 34531) n ⟨dd 3++[vt 3 1 0, .dead,vl (.i .u8) 2 q2,vi q3]++dd 67,dn 3++[bv x_it 81972 a1]++dn 72⟩
noncomputable def x_au.g1 (K:Nat) (a0:x_d) (a1:x_dh) (n:Nat) (q4:y0) (q5:Int):Option y31:=
 lq (B181 K) (dirs 7 34531) n ⟨dd 3++[vt 3 1 0, .dead,vl (.i .u8) 2 q4,vi q5]++dd 67,dn 3++[bv x_it 81972 a1]++dn 72⟩
theorem x_au.ok0 (K:Nat) (a0:x_d) (a1:x_dh):x_au.g0 K a0 a1=x_au.l0 K a0 a1:=
 funext (lpe2 (fun _ _=>by kernel_rfl) fun _ _ _=>by kernel_rfl)
theorem x_au.ok1 (K:Nat) (a0:x_d) (a1:x_dh):x_au.g1 K a0 a1=x_au.l1 K a0 a1:=
 funext (lpe2 (fun _ _=>by kernel_rfl) fun _ _ _=>by kernel_rfl)
theorem o181 (K:Nat):FOk PP 181 (B181 K).F:=bok mixed Tryz.func181 fun v=>by
 have e:(B181 K).run v=x_au.b K v.1 v.2.1 (x_au.g0 K v.1 v.2.1 K) (x_au.g1 K v.1 v.2.1 K):=by kernel_rfl
 rw [x_au.ok0,x_au.ok1] at e
 exact e.trans (by kernel_rfl)
noncomputable def B110 (K:Nat):Bd PP:=⟨⟨[vp x_be 118584,vo (.i .i64) 0],[ro (.i .i64) 0],[],u2 (x_i7 K),false⟩,cn o145<|cn (o170 K)<|cn (o181 K) tt,hn [3,35,1073741859,17,35,35,99,9007199254741091,17,35,1,17],K,Tryz.f110,[.tmp 4]⟩
theorem o110 (K:Nat):FOk PP 110 (B110 K).F:=bok mixed Tryz.func110
noncomputable def B56 (K:Nat):Bd PP:=⟨⟨[vp x_be 118584,va x_o8 0],[ro (.i .i64) 0],[],u2 (x_h4 K),false⟩,cn (o110 K) tt,hn [9,41,105,262249,17,8650857,105,274878169193,105,36028797019226217,73786976294838206569,17,489,361,105,1237940039285380274899124329,105,105,649037107316853453566312041152553,17,1,17],K,Tryz.f56,[.tmp 4]⟩
theorem o56 (K:Nat):FOk PP 56 (B56 K).F:=bok mixed Tryz.func56
end Go.Proofs.YtjfnlbdnfglmfaaGreat.Cu
