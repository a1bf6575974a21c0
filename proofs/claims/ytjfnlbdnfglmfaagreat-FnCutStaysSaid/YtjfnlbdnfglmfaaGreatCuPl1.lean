/- Plain facts of what the functions compute. -/
import Derived.Test.YtjfnlbdnfglmfaaGreatCuPl0
set_option linter.all false
set_option maxRecDepth 100000
namespace Go.Proofs.YtjfnlbdnfglmfaaGreat.Cu
open Go Go.Kn
open List (length_append length_cons length_nil length_take length_drop length_singleton length_set length_replicate length_map mem_append mem_singleton mem_cons)
theorem t_l7Keep {K:Nat} (hK:2097152≤K) {b:List Int} (hb:BSt b) (c:x_dt) (hc:C7 b c) (rows:Int) (hr:0≤rows∧rows≤4):Tot (x_j K c rows) fun r=>KSz r.1∧C7 b r.2.1:=by
 have hl:=hb.2
 unfold x_j x_j.b
 have L3:∀ (u:x_dt×Unit) (rs:List TRow) (ms:List x_at) (gs:List x_ar),C7 b u.1→rs.length<2097152→(∀ r∈rs,RSz r)→MsSz ms→gs.length<2097152→(∀ g∈gs,GSz g)→Tot (x_j.j0 K (x_j.l3 K c rows K) u rs ms gs) fun r=>KSz r.1∧C7 b r.2.1:=by
  intro u rs ms gs hu h1 h2 h3 h4 h5
  unfold x_j.j0
  refine tb (x_cm hK hb _ hu) fun v7 g7=>?_
  refine l1_ (L:=fun n (q:Int×(x_dt×Unit)×List Int×List x_dl)=>x_j.l3 K c rows n q.1 q.2.1 rs ms gs v7 q.2.2.1 q.2.2.2) (b:=fun L' q=>x_j.l3b K c rows (fun a b _ _ _ _ e f=>L' (a,b,e,f)) q.1 q.2.1 rs ms gs v7 q.2.2.1 q.2.2.2)
   (fun _ _=>rfl) (fun m q=> ∃ i:Nat,q.1=i∧i+m=4∧C7 b q.2.1.1∧q.2.2.1.length=i∧q.2.2.2.length=i∧ ∀ a∈q.2.2.2,ASz a) (fun m q L' hi kk=>?_) (x:=(0,v7.2,[],[])) (m:=4) (by omega) ⟨0,rfl,by omega,g7.2.1,rfl,rfl,fun a ha=>by simp at ha⟩
  obtain ⟨j,v,ds,as⟩:=q
  obtain ⟨i,hj,hm,hv,hd,ha,haz⟩:=hi
  simp only at hj hv hd ha haz
  subst hj
  unfold x_j.l3b
  simp only
  refine ti (fun a1=>?_) fun a1=>tr ⟨⟨h1,h2,h3,h4,h5,by show ds.length<_;omega,by show as.length<_;omega,haz⟩,hv⟩
  rw [wi (i:=i) (by omega)]
  refine tb (x_cm hK hb _ hv) fun v8 g8=>tb (x_cm hK hb _ g8.2.1) fun v9 g9=>tb (x_cm hK hb _ g9.2.1) fun v10 g10=>tb (x_j5 hK hb _ g10.2.1) fun v11 g11=>tb (x_j5 hK hb _ g11.2.1) fun v12 g12=>tc (by show _≤70368744177664;(try dsimp only);(try simp only [ll_]);omega) (tc (by show _≤70368744177664;(try dsimp only);(try simp only [ll_]);omega) ?_)
  refine kk (m-1) ((i:Int)+1,v12.2,ds++[v8.1],as++[(v9.1,i6 (v10.1-1),v11.1,v12.1)]) (by omega) ⟨i+1,by push_cast;rfl,by omega,g12.2.1,by show (ds++[_]).length=_;simp;omega,by show (as++[_]).length=_;simp;omega,fun a ha=>?_⟩
  have ha:a∈as++[_]:=ha
  rw [mem_append,mem_singleton] at ha
  rcases ha with ha | rfl
  ·exact haz a ha
  ·exact ⟨g11.1,g12.1⟩
 have L2:∀ (u:x_dt×Unit) (rs:List TRow) (ms:List x_at),C7 b u.1→rs.length<2097152→(∀ r∈rs,RSz r)→MsSz ms→Tot (x_j.j1 K (x_j.l2 K c rows K) u rs ms) fun r=>KSz r.1∧C7 b r.2.1:=by
  intro u rs ms hu h1 h2 h3
  unfold x_j.j1
  refine tb (x_cm hK hb _ hu) fun v5 g5=>?_
  have lf:=x_o0 (b:=b) (c:=v5.2.1)
  refine l1_ (L:=fun n (q:(Int×x_dt×Unit)×Int×(x_dt×Unit)×List x_ar)=>x_j.l2 K c rows n q.1 q.2.1 q.2.2.1 rs ms q.2.2.2) (b:=fun L' q=>x_j.l2b K c rows (fun a b d _ _ e=>L' (a,b,d,e)) (x_j.l3 K c rows K) q.1 q.2.1 q.2.2.1 rs ms q.2.2.2)
   (fun _ _=>rfl) (fun m q=>q.1.1≤2147483647∧(0≤q.2.1∧q.2.1≤2147483647)∧C7 b q.2.2.1.1∧left b q.2.2.1.1=m∧q.2.2.2.length+m≤b.length+1∧ ∀ g∈q.2.2.2,GSz g) (fun m q L' hi kk=>?_) (x:=(v5,0,v5.2,[])) (m:=left b v5.2.1) (by omega) ⟨g5.1.2,by show (0:Int)≤0∧(0:Int)≤2147483647;decide,g5.2.1,rfl,by show 0+_≤_;omega,fun a ha=>by simp at ha⟩
  obtain ⟨w,j,v,gs⟩:=q
  obtain ⟨hw,hj,hv,hm,hlen,hgs⟩:=hi
  simp only at hw hj hv hm hlen hgs
  unfold x_j.l2b
  simp only
  have fin:=L3 v rs ms gs hv h1 h2 h3 (by omega) hgs
  refine ti (fun a1=>tB (fun a2=>?_) fun _=>fin) fun _=>fin
  rw [w6 (n:=j+1) (by omega) (by omega)]
  have a1:j<w.1:=a1
  refine tb (t_l7Group hK hb _ hv rows hr) fun v6 g6=>tc (by show _≤70368744177664;(try dsimp only);(try simp only [ll_]);omega) ?_
  have lt:=x_ng hv g6.2.1 g6.2.2 a2
  refine kk (left b v6.2.1) (w,j+1,v6.2,gs++[v6.1]) (by omega) ⟨hw,⟨by show 0≤j+1;omega,by show j+1≤_;omega⟩,g6.2.1,rfl,by show (gs++[_]).length+_≤_;simp;omega,fun g hg=>?_⟩
  have hg:g∈gs++[_]:=hg
  rw [mem_append,mem_singleton] at hg
  rcases hg with hg | rfl
  ·exact hgs g hg
  ·exact g6.1
 have L1:∀ (u:x_dt×Unit) (rs:List TRow),C7 b u.1→rs.length<2097152→(∀ r∈rs,RSz r)→Tot (x_j.j2 K (x_j.l1 K c rows K) u rs) fun r=>KSz r.1∧C7 b r.2.1:=by
  intro u rs hu h1 h2
  unfold x_j.j2
  refine tb (x_cm hK hb _ hu) fun v3 g3=>?_
  have lf:=x_o0 (b:=b) (c:=v3.2.1)
  refine l1_ (L:=fun n (q:(Int×x_dt×Unit)×Int×(x_dt×Unit)×List x_at)=>x_j.l1 K c rows n q.1 q.2.1 q.2.2.1 rs q.2.2.2) (b:=fun L' q=>x_j.l1b K c rows (fun a b d _ e=>L' (a,b,d,e)) (x_j.l2 K c rows K) q.1 q.2.1 q.2.2.1 rs q.2.2.2)
   (fun _ _=>rfl) (fun m q=>q.1.1≤2147483647∧(0≤q.2.1∧q.2.1≤2147483647)∧C7 b q.2.2.1.1∧left b q.2.2.1.1=m∧q.2.2.2.length+m≤b.length+1∧ ∀ g∈q.2.2.2,MkS g) (fun m q L' hi kk=>?_) (x:=(v3,0,v3.2,[])) (m:=left b v3.2.1) (by omega) ⟨g3.1.2,by show (0:Int)≤0∧(0:Int)≤2147483647;decide,g3.2.1,rfl,by show 0+_≤_;omega,fun a ha=>by simp at ha⟩
  obtain ⟨w,j,v,ms⟩:=q
  obtain ⟨hw,hj,hv,hm,hlen,hms⟩:=hi
  simp only at hw hj hv hm hlen hms
  unfold x_j.l1b
  simp only
  have fin:=L2 v rs ms hv h1 h2 ⟨by omega,hms⟩
  refine ti (fun a1=>tB (fun a2=>?_) fun _=>fin) fun _=>fin
  rw [w6 (n:=j+1) (by omega) (by omega)]
  have a1:j<w.1:=a1
  refine tb (t_l7Maker hK hb _ hv) fun v4 g4=>tc (by show _≤70368744177664;(try dsimp only);(try simp only [ll_]);omega) ?_
  have lt:=x_ng hv g4.2.1 g4.2.2 a2
  refine kk (left b v4.2.1) (w,j+1,v4.2,ms++[v4.1]) (by omega) ⟨hw,⟨by show 0≤j+1;omega,by show j+1≤_;omega⟩,g4.2.1,rfl,by show (ms++[_]).length+_≤_;simp;omega,fun g hg=>?_⟩
  have hg:g∈ms++[_]:=hg
  rw [mem_append,mem_singleton] at hg
  rcases hg with hg | rfl
  ·exact hms g hg
  ·exact g4.1
 refine tb (x_cm hK hb _ hc) fun v1 g1=>?_
 have lf:=x_o0 (b:=b) (c:=v1.2.1)
 refine l1_ (L:=fun n (q:(Int×x_dt×Unit)×Int×(x_dt×Unit)×List TRow)=>x_j.l0 K c rows n q.1 q.2.1 q.2.2.1 q.2.2.2) (b:=fun L' q=>x_j.l0b K c rows (fun a b d e=>L' (a,b,d,e)) (x_j.l1 K c rows K) q.1 q.2.1 q.2.2.1 q.2.2.2)
  (fun _ _=>rfl) (fun m q=>q.1.1≤2147483647∧(0≤q.2.1∧q.2.1≤2147483647)∧C7 b q.2.2.1.1∧left b q.2.2.1.1=m∧q.2.2.2.length+m≤b.length+1∧ ∀ g∈q.2.2.2,RSz g) (fun m q L' hi kk=>?_) (x:=(v1,0,v1.2,[])) (m:=left b v1.2.1) (by omega) ⟨g1.1.2,by show (0:Int)≤0∧(0:Int)≤2147483647;decide,g1.2.1,rfl,by show 0+_≤_;omega,fun a ha=>by simp at ha⟩
 obtain ⟨w,j,v,rs⟩:=q
 obtain ⟨hw,hj,hv,hm,hlen,hrs⟩:=hi
 simp only at hw hj hv hm hlen hrs
 unfold x_j.l0b
 simp only
 have fin:=L1 v rs hv (by omega) hrs
 refine ti (fun a1=>tB (fun a2=>?_) fun _=>fin) fun _=>fin
 rw [w6 (n:=j+1) (by omega) (by omega)]
 have a1:j<w.1:=a1
 refine tb (t_l7Row hK hb _ hv) fun v2 g2=>tc (by show _≤70368744177664;(try dsimp only);(try simp only [ll_]);omega) ?_
 have lt:=x_ng hv g2.2.1 g2.2.2 a2
 refine kk (left b v2.2.1) (w,j+1,v2.2,rs++[v2.1]) (by omega) ⟨hw,⟨by show 0≤j+1;omega,by show j+1≤_;omega⟩,g2.2.1,rfl,by show (rs++[_]).length+_≤_;simp;omega,fun g hg=>?_⟩
 have hg:g∈rs++[_]:=hg
 rw [mem_append,mem_singleton] at hg
 rcases hg with hg | rfl
 ·exact hrs g hg
 ·exact g2.1
theorem x_0y {K:Nat} (hK:2097152≤K) (s:x_d) (b:List Int) (hb:BSt b):Tot (x_kd K s b) fun x=>(x.2.1=true→KOk s x.1)∧(x.2.1=false→x.1=([],[],[],0,[],[])):=by
 have no:Tot (some ((([],[],[],0,[],[]):x_ai),false,())) fun x=>(x.2.1=true→KOk s x.1)∧(x.2.1=false→x.1=([],[],[],0,[],[])):=tr ⟨fun h=>bad h,fun _=>rfl⟩
 unfold x_kd
 refine tb (x_f5 s) fun v1 g1=>tg g1 (fun _=>no) fun a=>?_
 refine tb (t_l7Keep hK hb (b,0,true) ⟨rfl,Int.le_refl _,by show (0:Int)≤_;omega⟩ _ (by have:=a.1;omega)) fun v2 g2=>tN (fun _=>no) fun _=>tn (fun _=>no) fun _=>?_
 exact tb (x_q2 hK s _ g2.1) fun v3 g3=>tg g3 (fun _=>no) fun k=>tr ⟨fun _=>k,fun h=>bad' h⟩
theorem HSz.bd {h:x_dh} (k:HSz h):LBd h.2.2.1:=⟨k.2.1,k.1.1⟩
theorem x_vj (s:ByteArray) (h:s.size≤30000):BSt (x_co s):=⟨(x_ga s).1,by rw [(x_ga s).2];omega⟩
theorem t_l11Do {K:Nat} (hK:2097152≤K) (p:x_d) (h:x_dh) (hh:HOk p h) (r:x_df) (hr:NtOk r):Tot (x_pr K p h r) fun x=>HSz x.1:=by
 obtain ⟨h1,h2,h3,h4,h5⟩:=hh
 have hz:HSz h:=HOk.sz ⟨h1,h2,h3,h4,h5⟩
 have hb:=h3.1
 have he:=hr.2.2.1
 unfold x_pr
 refine ti (fun _=>tr hz) fun _=>ti (fun _=>?_) fun _=>ti (fun _=>?_) fun _=>tr hz
 ·refine tb (x_t1 hK _ hz.1 _ _ _ he.sz he.2) fun v1 g1=>tB (fun a=>tr ?_) fun _=>tr hz
  have g:=g1.1 h3
  by_cases k:x_pf h.2.2.1 r.2.2.2.1 r.2.1 r.2.2.2.2.1
  ·rw [g.1 k]
   exact ⟨k.2.2.sz,hz.2⟩
  ·rw [g.2 k] at a;exact bad a
 ·refine tb (x_0y hK p _ (x_vj _ hr.2.2.2.1)) fun v2 g2=>tN (fun _=>tr hz) fun a=>ti (fun _=>tr hz) fun a2=>?_
  have hk:=(g2.1 a).sz
  have hp:=hr.2.1
  refine tb (x_hz _ hz.bd _) fun v3 g3=>ti (fun _=>?_) fun _=>tr ⟨⟨by show ([]:List x_c6).length<_;decide,fun x hx=>by simp at hx⟩,by show -1000000≤r.2.2.2.1∧r.2.2.2.1≤1000000;omega,hk⟩
  refine tb (x_re _ hz.bd _) fun v4 g4=>tr ?_
  have:=(x_m4 h3 r.2.2.2.1).1
  rw [g4]
  have hb2:=this.1
  exact ⟨this.sz,⟨show -1000000≤(x_hd h.2.2.1 r.2.2.2.1).1 by omega,show (x_hd h.2.2.1 r.2.2.2.1).1≤1000000 by omega⟩,hk⟩
theorem x_tq {K:Nat} (hK:2097152≤K) (p:x_d) (h:x_dh) (hz:HSz h) (r:x_df) (he:EsSz r.2.2.2.2.1):Tot (x_g8 K p h r) fun x=>x.1=h∨(HOk p h∧HOk p x.1∧NtOk r):=by
 unfold x_g8
 have cp:=x_wd hK h hz.1.1 hz.2.2
 refine tb (x_0c hK p h hz) fun v1 g1=>tg g1 (fun _=>tv cp (tr (.inl rfl))) fun a1=>?_
 refine tb (x_ol hK r he) fun v2 g2=>tg g2 (fun _=>tv cp (tr (.inl rfl))) fun a2=>?_
 refine tv cp (tb (t_l11Do hK p h a1 r a2) fun v6 g6=>tb (x_0c hK p _ g6) fun v7 g7=>tg g7 (fun _=>tv cp (tr (.inl rfl))) fun a3=>tr (.inr ⟨a1,a3,a2⟩))
theorem x_pt {K:Nat} (hK:2097152≤K) (p:x_d) (n:x_bq) (hn:NSz n) (hb:BOk n.2.2.2.2.2.2.2.2.1.1) (r:x_df) (he:EsSz r.2.2.2.2.1):Tot (x_hh K p n r) fun x=>(x.2.1=false∧x.1=n)∨(x.2.1=true∧POk p x.1 (n.2.2.2.1.length:Int)∧BOk x.1.2.2.2.2.2.2.2.2.1.1∧ ∃ h d,x.1=(n.1,h,n.2.2.1,n.2.2.2.1,n.2.2.2.2.1,n.2.2.2.2.2.1,n.2.2.2.2.2.2.1,n.2.2.2.2.2.2.2.1,d,n.2.2.2.2.2.2.2.2.2)):=by
 unfold x_hh
 have cp:=x_fv hK n hn
 have hz:=hn.1.1
 refine tv cp (tb (x_hu hK r he) fun v2 g2=>?_)
 have hl2:=g2.2.2.2
 refine tb (t_Append _ hn.2.2.2.2 v2.1 (by omega)) fun v3 g3=>tb (x_tq hK p _ hz r he) fun v4 g4=>tN (fun _=>tv cp (tr (.inl ⟨rfl,rfl⟩))) fun a=>?_
 rcases g3 with ⟨_,h1,h2,h3⟩ | ⟨h1,_⟩
 ·refine tb (x_ol hK r he) fun v5 g5=>tg g5 (fun _=>tv cp (tr (.inl ⟨rfl,rfl⟩))) fun a2=>?_
  have hz4:HSz v4.1:=by
   rcases g4 with e | e
   ·rw [e];exact hz
   ·exact e.2.1.sz
  refine tb (x_ha hK p _ _ ?_) fun v6 g6=>tg g6 (fun _=>tv cp (tr (.inl ⟨rfl,rfl⟩))) fun a3=>tr (.inr ⟨rfl,a3,?_,v4.1,v3.1,rfl⟩)
  ·exact ⟨hz4,hn.1.2.1,hn.1.2.2.1,hn.1.2.2.2⟩
  ·show BOk v3.1.1
   rw [h2]
   exact hb.app g2.2.2.1
 ·rw [h1] at a;exact bad a
def AT (a:x_dl):Prop:=a.2.2.1.size≤30∧a.2.2.2.size≤30
theorem AT.sz {a:x_dl} (h:AT a):ASz a:=⟨by have:=h.1;omega,by have:=h.2;omega⟩
def MkW (m:x_at):Prop:=m.2.2.2.2.length≤5∧ ∀ x∈m.2.2.2.2,0≤x.1
theorem MkW.s {m:x_at} (h:MkW m):MkS m:=⟨by have:=h.1;omega,h.2⟩
def KW (N:Nat) (s:x_d) (k:x_ai):Prop:=SOk s∧(k.1.length:Int)=s.1∧k.2.2.1.length=2∧k.2.2.2.2.1.length=4∧k.2.2.2.2.2.length=4∧(0≤k.2.2.2.1∧k.2.2.2.1≤100000)∧(k.2.1.length≤N∧ ∀ m∈k.2.1,MkW m)∧
 (∀ i,i<k.1.length→ROk (k.1.getD i zRow))∧(∀ i,i<2→GOk s.1 (k.2.2.1.getD i x_bv))∧ ∀ i,i<4→AT (k.2.2.2.2.2.getD i x_b7)
theorem AOk.at {a:x_dl} (h:AOk a):AT a:=⟨h.2.2.1.1,h.2.2.2.1⟩
theorem KOk.kw {s:x_d} {k:x_ai} (h:KOk s k) {N:Nat} (hN:16≤N):KW N s k:=by
 obtain ⟨h1,h2,h3,h4,h5,h6,h7,h8,h9,h10⟩:=h
 refine ⟨h1,h2,h3,h4,h5,h6,⟨Nat.le_trans h7.len hN,fun m hm=>?_⟩,h8,h9,fun i hi=>(h10 i hi).2.at⟩
 obtain ⟨i,hi,rfl⟩:=List.mem_iff_getElem.1 hm
 have h71:=(h7 i hi).1
 rw [x_az hi] at h71
 exact ⟨by have:=h71.2.1;have:=h1.2.1;omega,h71.seq⟩
theorem KW.mono {N M:Nat} {s:x_d} {k:x_ai} (h:KW N s k) (hN:N≤M):KW M s k:=⟨h.1,h.2.1,h.2.2.1,h.2.2.2.1,h.2.2.2.2.1,h.2.2.2.2.2.1,⟨Nat.le_trans h.2.2.2.2.2.2.1.1 hN,h.2.2.2.2.2.2.1.2⟩,h.2.2.2.2.2.2.2⟩
theorem KW.sz {N:Nat} {s:x_d} {k:x_ai} (h:KW N s k) (hN:N<2097152):KSz k:=by
 obtain ⟨h1,h2,h3,h4,h5,h6,h7,h8,h9,h10⟩:=h
 have hr:=h1.1
 refine ⟨by omega,fun r hr=>?_,⟨by omega,fun m hm=>(h7.2 m hm).s⟩,by omega,fun g hg=>?_,by omega,by omega,fun a ha=>?_⟩
 ·obtain ⟨i,hi,rfl⟩:=List.mem_iff_getElem.1 hr
  have:=(h8 i hi).sz
  rwa [x_az hi] at this
 ·obtain ⟨i,hi,rfl⟩:=List.mem_iff_getElem.1 hg
  have:=(h9 i (by omega)).sz (by omega)
  rwa [x_az hi] at this
 ·obtain ⟨i,hi,rfl⟩:=List.mem_iff_getElem.1 ha
  have:=(h10 i (by omega)).sz
  rwa [x_az hi] at this
def PI (N:Nat) (p:x_d) (s:Int) (n:x_bq):Prop:=(1≤s∧s≤5∧0≤n.1∧n.1≤s-1)∧HOk p n.2.1∧((n.2.2.2.1.length:Int)=s∧(n.2.2.2.2.1.length:Int)=s∧(n.2.2.2.2.2.1.length:Int)=s)∧(n.2.1.2.2.1.1≤n.2.2.2.2.2.2.1∧n.2.2.2.2.2.2.1≤300)∧KW N p n.2.2.2.2.2.2.2.1∧
 (n.2.2.2.2.2.2.2.2.1.1.length≤80000∧BOk n.2.2.2.2.2.2.2.2.1.1)∧n.2.2.2.2.2.2.2.2.2.length≤40∧ ∀ r∈n.2.2.2.2.2.2.2.2.2,RpSz r
theorem PI.mono {N M:Nat} {p:x_d} {s:Int} {n:x_bq} (h:PI N p s n) (hN:N≤M):PI M p s n:=⟨h.1,h.2.1,h.2.2.1,h.2.2.2.1,h.2.2.2.2.1.mono hN,h.2.2.2.2.2⟩
theorem PI.nsz {N:Nat} {p:x_d} {s:Int} {n:x_bq} (h:PI N p s n) (hN:N<2097152):NSz n:=by
 obtain ⟨h1,h2,h3,h4,h5,h6,h7,h8⟩:=h
 exact ⟨⟨h2.sz,h5.sz hN,by omega,h8⟩,by omega,by omega,by omega,by omega⟩
theorem POk.pi {p:x_d} {n:x_bq} {s:Int} (h:POk p n s) (hb:BOk n.2.2.2.2.2.2.2.2.1.1) {N:Nat} (hN:16≤N):PI N p s n:=by
 have hz:=h.sz
 obtain ⟨h1,h2,h3,h4,h5,h6,h7,h8,h9,h10,h11,h12,h13,h14⟩:=h
 exact ⟨⟨h1.1,h1.2,h2.1,h2.2⟩,h3,⟨h6,h7,h8⟩,⟨h11.1,by have:=h3.2.2.1.last;omega⟩,h12.kw hN,⟨h13.1,hb⟩,h14,hz.2.2.2⟩
theorem HOk.lsz {p:x_d} {h:x_dh} (k:HOk p h):h.2.2.1.2.2.length<2097152∧(-1000000≤h.2.2.1.1∧h.2.2.1.1≤1000000):=⟨k.sz.1.1,k.sz.2.1⟩
def W1 (N:Nat) (w x:x_c7):Prop:=x.1=w.1∧x.2.1=w.2.1∧PI N w.1 w.2.1 x.2.2.1
def WI (N:Nat) (w:x_c7):Prop:=PI N w.1 w.2.1 w.2.2.1
theorem W1.wi {N:Nat} {w x:x_c7} (h:W1 N w x):WI N x:=by unfold WI;rw [h.1,h.2.1];exact h.2.2
theorem W1.trans {N M:Nat} {w x y:x_c7} (h:W1 N w x) (k:W1 M x y):W1 M w y:=⟨k.1.trans h.1,k.2.1.trans h.2.1,by rw [←h.1, ←h.2.1];exact k.2.2⟩
theorem WI.refl {N:Nat} {w:x_c7} (h:WI N w):W1 N w w:=⟨rfl,rfl,h⟩
theorem W1.mono {N M:Nat} {w x:x_c7} (h:W1 N w x) (hN:N≤M):W1 M w x:=⟨h.1,h.2.1,h.2.2.mono hN⟩
variable {K N:Nat}
theorem EsSz.nil:EsSz []:=⟨by show (0:Nat)<_;decide,fun x hx=>by simp at hx⟩
theorem x_hi (hK:2097152≤K) (hN:N<2097152) (w:x_c7) (h:WI N w) (r:x_df) (he:EsSz r.2.2.2.2.1):Tot (x_fk K w r) fun x=>W1 N w x.1:=by
 unfold x_fk
 refine tN (fun _=>tr h.refl) fun _=>tb (x_pt hK _ _ (h.nsz hN) h.2.2.2.2.2.1.2 r he) fun v g=>tr ⟨rfl,rfl,?_⟩
 show PI N _ _ v.1
 rcases g with ⟨_,g⟩ | ⟨_,g,b,hh,d,e⟩
 ·rw [g];exact h
 ·rw [e] at g b ⊢
  obtain ⟨h1,h2,h3,h4,h5,h6,h7⟩:=h
  exact ⟨h1,g.2.2.1,h3,⟨g.2.2.2.2.2.2.2.2.2.2.1.1,h4.2⟩,h5,⟨g.2.2.2.2.2.2.2.2.2.2.2.2.1.1,b⟩,h7⟩
theorem x_lk (hK:2097152≤K) (hN:N<2097152) (w:x_c7) (h:WI N w) (t:Int):Tot (x_gk K w t) fun x=>W1 N w x.1:=by
 unfold x_gk
 exact ti (fun _=>tb (x_hi hK hN w h _ EsSz.nil) fun v g=>tr ⟨g.1,g.2.1,g.2.2⟩) fun _=>tr ⟨rfl,rfl,h⟩
theorem t_Newer (l:TLog) (h:l.2.2.length<2097152∧(-1000000≤l.1∧l.1≤1000000)) (a b:Int):Tot (x_ta l a b) fun _=>True:=by
 unfold x_ta
 exact tb (x_f0 l h.1 h.2) fun v g=>ti (fun _=>tr trivial) fun _=>ti (fun _=>tr trivial) fun _=>tr trivial
theorem t_Tell (hK:2097152≤K) (hN:N<2097152) {p:x_d} {s:Int} (n:x_bq) (h:PI N p s n) (r:TRpc) (hr:RpSz r):Tot (s_Tell K n r) fun x=>PI N p s x.1:=by
 unfold s_Tell
 refine tv (x_fv hK n (h.nsz hN)) (ti (fun _=>tr h) fun a=>tv (x_tn r hr.1) ?_)
 obtain ⟨h1,h2,h3,h4,h5,h6,h7,h8⟩:=h
 refine tc (by show _≤70368744177664;(try dsimp only);(try simp only [ll_]);omega) (tr ⟨h1,h2,h3,h4,h5,h6,?_,fun q hq=>?_⟩)
 ·show (n.2.2.2.2.2.2.2.2.2++[r]).length≤40
  simp only [length_append,length_singleton];omega
 ·have hq:q∈n.2.2.2.2.2.2.2.2.2++[r]:=hq
  rw [mem_append,mem_singleton] at hq
  rcases hq with hq | rfl
  ·exact h8 q hq
  ·exact hr
theorem x_jm (hK:2097152≤K) (hN:N<2097152) (w:x_c7) (h:WI N w) (r:TRpc) (hr:RpSz r):Tot (x_e5 K w r) fun x=>W1 N w x.1:=by
 unfold x_e5
 refine tN (fun _=>tr h.refl) fun _=>tb (t_Tell hK hN _ h _ hr) fun v g=>tB (fun _=>?_) fun _=>tr ⟨rfl,rfl,g⟩
 exact tb (x_vn hK _ _ hr) fun v2 g2=>tr ⟨rfl,rfl,g⟩
theorem t_l14Ask (hK:2097152≤K) (hN:N<2097152) (w:x_c7) (h:WI N w) (r:TRpc):Tot (x_f3 K w r) fun x=>W1 N w x.1:=by
 have j:∀ b,Tot (x_f3.j0 K b w r) fun x=>W1 N w x.1:=fun b=>by
  unfold x_f3.j0
  refine tB (fun _=>ti (fun _=>?_) fun _=>?_) fun _=>?_
  ·exact tb (x_hi hK hN w h _ EsSz.nil) fun v g=>tb (x_jm hK hN _ g.wi _ EsSz.nil) fun v5 g5=>tr (g.trans g5)
  ·exact tb (x_jm hK hN _ h _ EsSz.nil) fun v5 g5=>tr g5
  ·exact tb (x_jm hK hN _ h _ EsSz.nil) fun v5 g5=>tr g5
 have nw:=t_Newer w.2.2.1.2.1.2.2.1 h.2.1.lsz r.2.2.2.2.1 r.2.2.2.2.2.1
 unfold x_f3
 exact ti (fun _=>ti (fun _=>tb nw fun v _=>j _) fun _=>ti (fun _=>tb nw fun v _=>j _) fun _=>j _) fun _=>j _
theorem t_l1Bit (b:Bool):Tot (x_r6 b) fun r=>0≤r.1∧r.1≤1:=by
 unfold x_r6
 exact tB (fun _=>tr (by decide)) fun _=>tr (by decide)
theorem x_u0 (hK:2097152≤K) (hN:N<2097152) (w:x_c7) (h:WI N w):Tot (x_lg K w) fun x=>W1 N w x.1:=by
 have hs:=h.1
 unfold x_lg
 refine tv (x_fv hK _ (h.nsz hN)) (tb (x_f0 _ h.2.1.lsz.1 h.2.1.lsz.2) fun v2 g2=>tb (x_q9 hK _ _ (by omega)) fun v3 g3=>?_)
 refine tc rfl (tc (by omega) (tc (by show _≤70368744177664;(try dsimp only);(try simp only [ll_]);omega) ?_))
 have hw:WI N (w.1,w.2.1,(w.2.2.1.1,w.2.2.1.2.1,2,w.2.2.1.2.2.2.1,v3.1,List.replicate (Int.toNat w.2.1) 0,w.2.2.1.2.2.2.2.2.2.1,w.2.2.1.2.2.2.2.2.2.2.1,w.2.2.1.2.2.2.2.2.2.2.2.1,w.2.2.1.2.2.2.2.2.2.2.2.2),w.2.2.2):=by
  obtain ⟨h1,h2,h3,h4⟩:=h
  refine ⟨h1,h2,⟨h3.1,?_,?_⟩,h4⟩
  ·show ((v3.1.length:Nat):Int)=w.2.1
   rw [g3,length_replicate];omega
  ·show (((List.replicate (Int.toNat w.2.1) (0:Int)).length:Nat):Int)=w.2.1
   rw [length_replicate];omega
 refine tb (x_hi hK hN _ hw _ ⟨by show (1:Nat)<_;decide,fun x hx=>?_⟩) fun v4 g4=>?_
 ·obtain rfl:=mem_singleton.1 hx
  exact ⟨by show ByteArray.empty.size<_;decide,by show ByteArray.empty.size<_;decide⟩
 ·have back:W1 N w (v4.1.1,v4.1.2.1,(w.2.2.1.1,w.2.2.1.2.1,0,w.2.2.1.2.2.2.1,w.2.2.1.2.2.2.2.1,w.2.2.1.2.2.2.2.2.1,w.2.2.1.2.2.2.2.2.2.1,w.2.2.1.2.2.2.2.2.2.2.1,w.2.2.1.2.2.2.2.2.2.2.2.1,w.2.2.1.2.2.2.2.2.2.2.2.2),true):=⟨g4.1,g4.2.1,h⟩
  exact tN (fun _=>tr back) fun _=>ti (fun _=>tr back) fun _=>tr ⟨g4.1,g4.2.1,g4.2.2⟩
theorem t_l14Vote (hK:2097152≤K) (hN:N<2097152) (w:x_c7) (h:WI N w) (r:TRpc) (hf:0≤r.2.1∧r.2.1≤w.2.1-1):Tot (x_cf K w r) fun x=>W1 N w x.1:=by
 have hs:=h.1
 have hv:=h.2.2.1.1
 unfold x_cf x_cf.b
 refine tn (fun _=>tr h.refl) fun _=>tN (fun _=>tr h.refl) fun _=>tn (fun _=>tr h.refl) fun _=>?_
 refine t2_ (by omega) (?_)
 have hw:WI N (w.1,w.2.1,(w.2.2.1.1,w.2.2.1.2.1,w.2.2.1.2.2.1,w.2.2.1.2.2.2.1.set (Int.toNat r.2.1) true,w.2.2.1.2.2.2.2.1,w.2.2.1.2.2.2.2.2.1,w.2.2.1.2.2.2.2.2.2.1,w.2.2.1.2.2.2.2.2.2.2.1,w.2.2.1.2.2.2.2.2.2.2.2.1,w.2.2.1.2.2.2.2.2.2.2.2.2),w.2.2.2):=by
  obtain ⟨h1,h2,h3,h4⟩:=h
  refine ⟨h1,h2,⟨?_,h3.2⟩,h4⟩
  show (((w.2.2.1.2.2.2.1.set (Int.toNat r.2.1) true).length:Nat):Int)=w.2.1
  rw [length_set];exact hv
 refine l2_ (L:=x_cf.l0 K w r) (fun _ _ _=>rfl) (fun m _ x=> ∃ i:Nat,x=i∧(i:Int)+m=w.2.1) (fun m c x L' hi k=>?_) (m:=(w.2.1).toNat) (by omega) ⟨0,rfl,by omega⟩
 obtain ⟨i,rfl,hm⟩:=hi
 unfold x_cf.l0b
 refine ti (fun a=>?_) fun a=>?_
 ·have e:(((w.2.2.1.2.2.2.1.set (Int.toNat r.2.1) true).length:Nat):Int)=w.2.1:=by rw [length_set];exact hv
  rw [wi (i:=i) (by omega)]
  exact t2_ (by omega) ((tb (t_l1Bit _) fun v1 g1=>k (m-1) _ _ (by omega) ⟨i+1,by push_cast;rfl,by omega⟩))
 ·unfold x_uw
  refine tb (Q:=fun _=>True) (tr trivial) fun v2 _=>ti (fun _=>?_) fun _=>tr ⟨rfl,rfl,hw⟩
  exact tb (x_u0 hK hN _ hw) fun v3 g3=>tr ⟨g3.1,g3.2.1,g3.2.2⟩
theorem x_ix (hK:2097152≤K) (hN:N<2097152) (w:x_c7) (h:WI N w) (t:Int) (b:Bool) (i:Int):Tot (x_ey K w t b i) fun x=>W1 N w x.1:=by
 unfold x_ey
 exact tb (x_jm hK hN w h _ EsSz.nil) fun v g=>tr g
theorem t_l14Lost (hK:2097152≤K) (n:x_bq) (h:LBd n.2.1.2.2.1) (hb:0≤n.2.1.2.2.1.1) (hc:n.2.2.2.2.2.2.1≤300) (l:TLog) (hl:LBd l):Tot (x_da K n l) fun _=>True:=by
 have hb1:=h.1
 unfold x_da x_da.b
 refine tb (x_f0 l hl.2 hl.1) fun v g=>ti (fun _=>tr trivial) fun _=>?_
 rw [w6 (n:=n.2.1.2.2.1.1+1) (by omega) (by omega)]
 refine l1_ (L:=x_da.l0 K n l) (fun _ _=>rfl) (fun m x=>0≤x∧x≤1000001∧(x≤n.2.2.2.2.2.2.1→x+m=n.2.2.2.2.2.2.1+1)) (fun m x L' hi k=>?_) (m:=(n.2.2.2.2.2.2.1+1-(n.2.1.2.2.1.1+1)).toNat) (by omega) ⟨by omega,by omega,fun a=>by omega⟩
 unfold x_da.l0b
 refine ti (fun a=>?_) fun a=>tr trivial
 obtain ⟨i1,i2,i3⟩:=hi
 have:=i3 a
 rw [w6 (n:=x+1) (by omega) (by omega)]
 exact tb (x_hz l hl _) fun v2 _=>tb (x_hz _ h _) fun v3 _=>tn (fun _=>tr trivial) fun _=>k (m-1) _ (by omega) ⟨by omega,by omega,fun _=>by omega⟩
theorem x_tv (hK:2097152≤K) (a b:List x_c6) (h:a.length<2097152):Tot (x_bd K a b) fun _=>True:=by
 unfold x_bd x_bd.b
 refine l1_ (L:=x_bd.l0 K a b) (fun _ _=>rfl) (fun m x=> ∃ i:Nat,x=i∧i+m=a.length) (fun m x L' hi k=>?_) (m:=a.length) (by omega) ⟨0,rfl,by omega⟩
 obtain ⟨i,rfl,hm⟩:=hi
 unfold x_bd.l0b
 refine ti (fun h1=>ti (fun h2=>?_) fun _=>tr trivial) fun _=>tr trivial
 rw [wi (i:=i) (by omega)]
 exact tc (by omega) (tc h1 (tc (by omega) (tc h2 (tN (fun _=>tr trivial) fun _=>k (m-1) _ (by omega) ⟨i+1,by push_cast;rfl,by omega⟩))))
theorem x_r5 (hK:2097152≤K) (w:x_c7) (h:WI N w) (a:Int):Tot (x_b1 K w a) fun x=>W1 N w x.1:=by
 have hs:=h.1
 unfold x_b1 x_b1.b
 refine l3_ (L:=x_b1.l0 K w a) (fun _ _ _ _=>rfl) (fun m x p q=> ∃ i:Nat,x=i∧(i:Int)+m=w.2.1∧(p.length:Int)=w.2.1∧(q.length:Int)=w.2.1) (fun m x p q L' hi k=>?_) (m:=(w.2.1).toNat) (by omega) ⟨0,rfl,by omega,h.2.2.1.2.1,h.2.2.1.2.2⟩
 obtain ⟨i,rfl,hm,hp,hq⟩:=hi
 unfold x_b1.l0b
 refine ti (fun h1=>?_) fun _=>?_
 ·rw [wi (i:=i) (by omega)]
  refine t2_ (by omega) ((tb (x_ij _ _) fun v1 _=>t2_ (by omega) ((t2_ (by omega) ((tb (x_ij _ _) fun v2 _=>t2_ (by omega) (?_)))))))
  exact k (m-1) _ _ _ (by omega) ⟨i+1,by push_cast;rfl,by omega,by rw [length_set];exact hp,by rw [length_set];exact hq⟩
 ·obtain ⟨h1,h2,h3,h4⟩:=h
  exact tr ⟨rfl,rfl,h1,h2,⟨h3.1,hp,hq⟩,h4⟩
variable {K N:Nat}
theorem x_lz {α : Type} {l:List α} {i j:Nat} {x z : α}:(l.set j x).getD i z=l.getD i z∨(l.set j x).getD i z=x:=by
 by_cases h:i<l.length
 ·have h':i<(l.set j x).length:=by rw [length_set];exact h
  rw [x_az h',x_az h,List.getElem_set]
  split
  ·exact .inr rfl
  ·exact .inl rfl
 ·left
  simp only [gd_]
  rw [List.getElem?_eq_none (l:=l) (by omega),List.getElem?_eq_none (l:=l.set j x) (by rw [length_set];omega)]
theorem az (c n:Int):AT (c,n,ByteArray.empty,ByteArray.empty):=⟨by show ByteArray.empty.size≤_;decide,by show ByteArray.empty.size≤_;decide⟩
theorem KW.row {s:x_d} {k:x_ai} (h:KW N s k) {r:TRow} (hr:ROk r) (i:Nat):KW N s (k.1.set i r,k.2.1,k.2.2.1,k.2.2.2.1,k.2.2.2.2.1,k.2.2.2.2.2):=by
 obtain ⟨h1,h2,h3,h4,h5,h6,h7,h8,h9,h10⟩:=h
 refine ⟨h1,?_,h3,h4,h5,h6,h7,fun j hj=>?_,h9,h10⟩
 ·show ((k.1.set i r).length:Int)=_
  rw [length_set];exact h2
 ·have hj:j<(k.1.set i r).length:=hj
  show ROk ((k.1.set i r).getD j zRow)
  rw [length_set] at hj
  rcases x_lz (l:=k.1) (i:=j) (j:=i) (x:=r) (z:=zRow) with e | e<;>rw [e]
  ·exact h8 j hj
  ·exact hr
theorem KW.group {s:x_d} {k:x_ai} (h:KW N s k) {g:x_ar} (hg:GOk s.1 g) (i:Nat):KW N s (k.1,k.2.1,k.2.2.1.set i g,k.2.2.2.1,k.2.2.2.2.1,k.2.2.2.2.2):=by
 obtain ⟨h1,h2,h3,h4,h5,h6,h7,h8,h9,h10⟩:=h
 refine ⟨h1,h2,?_,h4,h5,h6,h7,h8,fun j hj=>?_,h10⟩
 ·show (k.2.2.1.set i g).length=_
  rw [length_set];exact h3
 ·show GOk _ ((k.2.2.1.set i g).getD j x_bv)
  rcases x_lz (l:=k.2.2.1) (i:=j) (j:=i) (x:=g) (z:=x_bv) with e | e<;>rw [e]
  ·exact h9 j hj
  ·exact hg
theorem KW.makers {M:Nat} {s:x_d} {k:x_ai} (h:KW N s k) {l:List x_at} (hl:l.length≤M∧ ∀ m∈l,MkW m):KW M s (k.1,l,k.2.2.1,k.2.2.2.1,k.2.2.2.2.1,k.2.2.2.2.2):=
 ⟨h.1,h.2.1,h.2.2.1,h.2.2.2.1,h.2.2.2.2.1,h.2.2.2.2.2.1,hl,h.2.2.2.2.2.2.2⟩
theorem COk.act {c:TCmd} (h:COk c) (hw:¬ c.1<0):(0≤c.1∧c.1≤3)∧(1≤c.2.2.1∧c.2.2.1≤10)∧(0≤c.2.2.2.1∧c.2.2.2.1≤100000)∧(0≤c.2.2.2.2.1∧c.2.2.2.2.1≤100000)∧(0≤c.2.2.2.2.2.1∧c.2.2.2.2.2.1≤100000):=by
 rcases h with h | h
 ·have:=h.1;omega
 ·exact ⟨h.2.1,h.2.2.2.1,h.2.2.2.2.1,h.2.2.2.2.2.1,h.2.2.2.2.2.2.1⟩
theorem t_l6Group (hK:2097152≤K) (s:x_d) (k:x_ai) (h:KW N s k) (c:TCmd) (hc:COk c) (hw:¬ c.1<0) (ha:c.2.2.2.1<2):Tot (x_my K s k c) fun x=>KW N s x.1∧AT x.2.1:=by
 have hr:=h.1.1
 have hg2:=h.2.2.1
 have hcc:=hc.act hw
 have h9:=h.2.2.2.2.2.2.2.2.1
 have hg:GOk s.1 (k.2.2.1.getD (Int.toNat c.2.2.2.1) x_bv):=h9 _ (by omega)
 have ls:∀ g:x_ar,c.2.2.2.1<(((k.2.2.1.set (Int.toNat c.2.2.2.1) g).length:Nat):Int):=fun g=>by rw [length_set];omega
 unfold x_my
 refine t2_ (by omega) ((ti (fun _=>?_) fun _=>ti (fun _=>?_) fun _=>ti (fun _=>?_) fun _=>ti (fun _=>tr ⟨h,az _ _⟩) fun hb=>?_))
 ·exact tb (x_pl hK (by omega) _ hg _ _ h.2.2.2.2.2.1) fun v1 g1=>t2_ (by omega) ((tc (by omega) (tc (ls _) (tr ⟨h.group g1 _,az _ _⟩))))
 ·exact tb (x_or hK (by omega) _ hg _) fun v1 g1=>t2_ (by omega) ((tc (by omega) (tc (ls _) (tr ⟨h.group g1.1 _,az _ _⟩))))
 ·exact tb (x_px (by omega) _ hg _ _ _ _ hcc.2.2.2.2) fun v1 g1=>tN (fun _=>tr ⟨h,az _ _⟩) fun _=>t2_ (by omega) ((tr ⟨h.group g1.1 _,az _ _⟩))
 ·have:=hg.2.2.1
  exact t2_ (by omega) ((tr ⟨h,az _ _⟩))
theorem x_vq (hK:2097152≤K) (l:List x_at) (hl:l.length<2097152) (hm:∀ m∈l,MkW m) (a b:Int):Tot (x_cq K l a b) fun x=>MkW x.1:=by
 unfold x_cq x_cq.b
 refine l1_ (L:=x_cq.l0 K l a b) (fun _ _=>rfl) (fun m x=> ∃ i:Nat,x=i∧i+m=l.length) (fun m x L' hi k=>?_) (m:=l.length) (by omega) ⟨0,rfl,by omega⟩
 obtain ⟨i,rfl,hi⟩:=hi
 unfold x_cq.l0b
 refine ti (fun h1=>?_) fun _=>tr ⟨by show (0:Nat)≤5;decide,fun x hx=>by simp at hx⟩
 rw [wi (i:=i) (by omega),tz]
 have go:=k (m-1) ((i:Int)+1) (by omega) ⟨i+1,by push_cast;rfl,by omega⟩
 have hm:=hm _ (x_ad (z:=x_bb) (show i<l.length by omega))
 exact tc (by omega) (tc h1 (ti (fun _=>tc (by omega) (tc h1 (ti (fun _=>tc (by omega) (tc h1 (tv (x_n9 _ (by have:=hm.1;omega)) (tr hm)))) fun _=>go))) fun _=>go))
theorem x_ti (hK:2097152≤K) (m:x_at) (hm:m.2.2.2.2.length<2097152) (a b:Int):Tot (x_b2 K m a b) fun _=>True:=by
 unfold x_b2 x_b2.b
 refine ti (fun _=>tr trivial) fun _=>ti (fun _=>ti (fun _=>tr trivial) fun _=>tr trivial) fun _=>ti (fun _=>ti (fun _=>tr trivial) fun _=>tr trivial) fun _=>?_
 refine l1_ (L:=x_b2.l0 K m a b) (fun _ _=>rfl) (fun d x=> ∃ i:Nat,x=i∧i+d=m.2.2.2.2.length) (fun d x L' hi k=>?_) (m:=m.2.2.2.2.length) (by omega) ⟨0,rfl,by omega⟩
 obtain ⟨i,rfl,hi⟩:=hi
 unfold x_b2.l0b
 refine ti (fun h1=>?_) fun _=>tr trivial
 rw [wi (i:=i) (by omega)]
 exact tc (by omega) (tc h1 (ti (fun _=>tc (by omega) (tc h1 (tr trivial))) fun _=>k (d-1) _ (by omega) ⟨i+1,by push_cast;rfl,by omega⟩))
theorem x_s6 (hK:2097152≤K) (m:x_at) (hm:MkW m) (w:Int) (hw:1≤w∧w≤5) (e q o:Int) (hq:0≤q):Tot (x_ef K m w e q o) fun x=>MkW x.1∧(x.1.2.2.2.1=q∨x.1.2.2.2.1=m.2.2.2.1):=by
 have j:∀ (l:List x_q3) (v:x_at×Unit),(l.length≤5∧ ∀ x∈l,0≤x.1)→Tot (x_ef.j0 K l q o w v e) fun x=>MkW x.1∧(x.1.2.2.2.1=q∨x.1.2.2.2.1=m.2.2.2.1):=fun l v hls=>by
  obtain ⟨hl,hs⟩:=hls
  have hs':∀ x∈l++[(q,o)],0≤x.1:=fun x hx=>by
   rw [mem_append,mem_singleton] at hx
   rcases hx with hx | rfl
   ·exact hs x hx
   ·exact hq
  have e1:(l++[(q,o)]).length=l.length+1:=by simp
  unfold x_ef.j0
  refine tc (by show _≤70368744177664;(try dsimp only);(try simp only [ll_]);omega) (tv (x_ks _ _) (ti (fun a=>tv (x_ks _ _) ?_) fun a=>tr ?_))
  ·rw [w6 (n:=(((l++[(q,o)]).length:Nat):Int)-max w 0) (by omega) (by omega)]
   have hlen:(((l++[(q,o)]).take (Int.toNat (((l++[(q,o)]).length:Nat):Int))).drop (Int.toNat ((((l++[(q,o)]).length:Nat):Int)-max w 0))).length≤5:=by
    rw [length_drop,length_take];omega
   refine tc rfl (t2_ (by omega) ((tc (Int.le_refl _) (tc (by show _≤70368744177664;simp only [length_nil];omega) (tr ?_)))))
   refine ⟨⟨?_,fun x hx=>?_⟩, .inl rfl⟩
   ·show (([]:List x_q3)++_).length≤5
    rw [List.nil_append];exact hlen
   ·have hx:x∈(([]:List x_q3)++_):=hx
    rw [List.nil_append] at hx
    exact hs' x (List.mem_of_mem_take (List.mem_of_mem_drop hx))
  ·refine ⟨⟨?_,hs'⟩, .inl rfl⟩
   show (l++[(q,o)]).length≤5
   omega
 unfold x_ef
 have hm1:=hm.1
 exact tv (x_n9 m (by omega)) (tb (x_ti hK m (by omega) _ _) fun v2 _=>tn (fun _=>tr ⟨hm, .inr rfl⟩) fun _=>ti (fun _=>j _ _ ⟨by show (0:Nat)≤5;decide,fun x hx=>by simp at hx⟩) fun _=>j _ _ hm)
theorem x_r3 (hK:2097152≤K) (l:List x_at) (hl:l.length≤1000000) (hm:∀ m∈l,MkW m) (x:x_at) (hx:MkW x):Tot (x_bi K l x) fun r=>r.1.length≤l.length+1∧ ∀ m∈r.1,MkW m:=by
 have cx:=x_n9 x (by have:=hx.1;omega)
 have app:∀ (p:List x_at) (y:x_at),(∀ m∈p,MkW m)→MkW y→ ∀ m∈p++[y],MkW m:=fun p y h1 h2 m hm=>by
  rw [mem_append,mem_singleton] at hm
  rcases hm with hm | rfl
  ·exact h1 m hm
  ·exact h2
 unfold x_bi x_bi.b
 refine l3_ (L:=x_bi.l0 K l x) (fun _ _ _ _=>rfl) (fun d p b i=> ∃ j:Nat,i=j∧j+d=l.length∧(b=false→p.length≤j)∧p.length≤j+1∧ ∀ m∈p,MkW m) (fun d p b i L' hi k=>?_) (m:=l.length) (by omega) ⟨0,rfl,by omega,fun _=>Nat.le_refl _,by show (0:Nat)≤1;decide,fun m hm=>by simp at hm⟩
 obtain ⟨j,rfl,hj,h1,h2,h3⟩:=hi
 unfold x_bi.l0b
 refine ti (fun a=>?_) fun a=>tN (fun hb=>tv cx (tc (by show _≤70368744177664;(try dsimp only);(try simp only [ll_]);omega) (tr ⟨?_,app _ _ h3 hx⟩))) fun hb=>tr ⟨by show p.length≤_;omega,h3⟩
 ·rw [wi (i:=j) (by omega),tz]
  have hy:=hm _ (x_ad (z:=x_bb) (show j<l.length by omega))
  have cy:=x_n9 (l.getD j x_bb) (by have:=hy.1;omega)
  have two:b=false→ ∀ i',i'=(j:Int)+1→Tot (L' ((p++[x])++[l.getD j x_bb]) true i') fun r=>r.1.length≤l.length+1∧ ∀ m∈r.1,MkW m:=fun hb i' e=>k (d-1) _ _ _ (by omega) ⟨j+1,by rw [e];push_cast;rfl,by omega,fun h=>bad' h,by have:=h1 hb;simp only [length_append,length_singleton];omega,app _ _ (app _ _ h3 hx) hy⟩
  have one:∀ i',i'=(j:Int)+1→Tot (L' (p++[l.getD j x_bb]) b i') fun r=>r.1.length≤l.length+1∧ ∀ m∈r.1,MkW m:=fun i' e=>k (d-1) _ _ _ (by omega) ⟨j+1,by rw [e];push_cast;rfl,by omega,fun h=>by have:=h1 h;simp only [length_append,length_singleton];omega,by simp only [length_append,length_singleton];omega,app _ _ h3 hy⟩
  have jn:Tot (x_bi.j0 K L' b l (j:Int) x p) fun r=>r.1.length≤l.length+1∧ ∀ m∈r.1,MkW m:=by
   unfold x_bi.j0
   rw [wi (i:=j) (by omega),tz]
   have o1:Tot ((x_ex (l.getD j x_bb)).bind fun v=>bif decide ((p.length+[v.1].length)*57≤x_en) then L' (p++[v.1]) b ((j:Int)+1) else none) fun r=>r.1.length≤l.length+1∧ ∀ m∈r.1,MkW m:=tv cy (tc (by show _≤70368744177664;(try dsimp only);(try simp only [ll_]);omega) (one _ rfl))
   refine tN (fun hb=>ti (fun _=>?_) fun _=>ti (fun _=>ti (fun _=>?_) fun _=>o1) fun _=>o1) fun _=>o1
   ·exact tv cx (tc (by show _≤70368744177664;(try dsimp only);(try simp only [ll_]);omega) (tv cy (tc (by show _≤70368744177664;(try dsimp only);(try simp only [ll_]);omega) (two hb _ rfl))))
   ·exact tv cx (tc (by show _≤70368744177664;(try dsimp only);(try simp only [ll_]);omega) (tv cy (tc (by show _≤70368744177664;(try dsimp only);(try simp only [ll_]);omega) (two hb _ rfl))))
  refine tc (by omega) (tc a (ti (fun _=>ti (fun _=>tN (fun hb=>?_) fun hb=>?_) fun _=>jn) fun _=>jn))
  ·exact tv cx (tc (by show _≤70368744177664;(try dsimp only);(try simp only [ll_]);omega) (k (d-1) _ _ _ (by omega) ⟨j+1,by push_cast;rfl,by omega,fun h=>bad' h,by have:=h1 hb;simp only [length_append,length_singleton];omega,app _ _ h3 hx⟩))
  ·exact k (d-1) _ _ _ (by omega) ⟨j+1,by push_cast;rfl,by omega,fun h=>by rw [hb] at h;exact bad' h,by omega,h3⟩
 ·have:=h1 hb
  simp only [length_append,length_singleton];omega
variable {K N:Nat}
theorem KW.ms {s:x_d} {k:x_ai} (h:KW N s k):k.2.1.length≤N∧ ∀ m∈k.2.1,MkW m:=h.2.2.2.2.2.2.1
theorem KW.rok {s:x_d} {k:x_ai} (h:KW N s k) {i:Nat} (hi:i<k.1.length):ROk (k.1.getD i zRow):=h.2.2.2.2.2.2.2.1 i hi
theorem t_l6Put (hK:2097152≤K) (hN:N<1000000) (s:x_d) (k:x_ai) (h:KW N s k) (c:TCmd) (hc:COk c) (hw:¬ c.1<0) (ha:c.2.2.2.1<s.1):Tot (x_wt K s k c) fun x=>KW (N+1) s x.1∧AT x.2.1:=by
 have hcc:=hc.act hw
 have hr:=h.2.1
 have hm:=h.ms
 have up:=h.mono (Nat.le_succ N)
 have hs:=hc.sz
 unfold x_wt
 refine tb (x_vq hK _ (by omega) hm.2 _ _) fun v1 g1=>tb (x_ti hK _ (by have:=g1.1;omega) _ _) fun v2 g2=>?_
 refine ti (fun _=>tr ⟨up,az _ _⟩) fun _=>ti (fun _=>tr ⟨up,az _ _⟩) fun _=>ti (fun _=>tr ⟨up,az _ _⟩) fun _=>ti (fun _=>tr ⟨up,az _ _⟩) fun _=>?_
 have ho:=h.rok (i:=Int.toNat c.2.2.2.1) (by omega)
 refine t2_ (by omega) ((tb (x_t4 hK _ ho.sz (by have:=ho.2.2.1;omega) _ _ hs.1 hs.2 _ _) fun v3 g3=>?_))
 rcases g3 with ⟨_,g3,e⟩ | ⟨_,e⟩
 ·rw [e]
  refine tN (fun h=>bad' h) fun _=>t2_ (by omega) ((tb (x_s6 hK _ g1 _ h.1.2.1 _ _ _ (by omega)) fun v4 g4=>tb (x_r3 hK _ (by omega) hm.2 _ g4.1) fun v5 g5=>tr ⟨?_,az _ _⟩))
  exact (h.row g3 _).makers ⟨by have:=g5.1;omega,g5.2⟩
 ·rw [e]
  exact tN (fun _=>tr ⟨up,az _ _⟩) fun h=>bad h
theorem t_l6Epoch (hK:2097152≤K) (hN:N<1000000) (s:x_d) (k:x_ai) (h:KW N s k) (c:TCmd):Tot (x_ms K k c) fun x=>KW (N+1) s x.1∧AT x.2.1:=by
 have hm:=h.ms
 unfold x_ms
 refine tb (x_vq hK _ (by omega) hm.2 _ _) fun v1 g1=>ti (fun _=>tr ⟨h.mono (Nat.le_succ N),az _ _⟩) fun _=>?_
 refine tb (x_r3 hK _ (by omega) hm.2 _ ⟨by show (0:Nat)≤5;decide,fun x hx=>by simp at hx⟩) fun v2 g2=>tr ⟨h.makers ⟨by have:=g2.1;omega,g2.2⟩,az _ _⟩
theorem t_RowGet (hK:2097152≤K) (r:TRow) (h:ROk r) (o:Int):Tot (x_d2 K r o) fun x=>x.1.2.1.size≤30∧x.1.2.2.1.size≤30:=by
 have z:((0,ByteArray.empty,ByteArray.empty,0,0):x_l9).2.1.size≤30∧((0,ByteArray.empty,ByteArray.empty,0,0):x_l9).2.2.1.size≤30:=⟨by show ByteArray.empty.size≤_;decide,by show ByteArray.empty.size≤_;decide⟩
 have hl:=h.2.2.1
 unfold x_d2 x_d2.b
 refine ti (fun _=>tr z) fun _=>?_
 refine l1_ (L:=x_d2.l0 K r o) (fun _ _=>rfl) (fun d x=> ∃ i:Nat,x=i∧i+d=r.2.2.length) (fun d x L' hi k=>?_) (m:=r.2.2.length) (by omega) ⟨0,rfl,by omega⟩
 obtain ⟨i,rfl,hi⟩:=hi
 unfold x_d2.l0b
 refine ti (fun h1=>?_) fun _=>tr z
 rw [wi (i:=i) (by omega),tz]
 exact tc (by omega) (tc h1 (ti (fun _=>tc (by omega) (tc h1 (tr ⟨(h.2.2.2 i (by omega)).1.1.1,(h.2.2.2 i (by omega)).1.2.1.1⟩))) fun _=>k (d-1) _ (by omega) ⟨i+1,by push_cast;rfl,by omega⟩))
theorem t_l6Row (hK:2097152≤K) (hN:N<1000000) (s:x_d) (k:x_ai) (h:KW N s k) (c:TCmd) (hc:COk c) (hw:¬ c.1<0) (ha:c.2.2.2.1<s.1):Tot (x_vw K s k c) fun x=>KW (N+1) s x.1∧AT x.2.1:=by
 have hcc:=hc.act hw
 have hr:=h.2.1
 have up:=h.mono (Nat.le_succ N)
 have ho:=h.rok (i:=Int.toNat c.2.2.2.1) (by omega)
 have ls:∀ r:TRow,c.2.2.2.1<(((k.1.set (Int.toNat c.2.2.2.1) r).length:Nat):Int):=fun g=>by rw [length_set];omega
 have hl:=h.1.2.2.1
 unfold x_vw
 refine ti (fun _=>tb (t_l6Put hK hN s k h c hc hw ha) fun v g=>tr g) fun _=>ti (fun _=>tb (t_l6Epoch hK hN s k h c) fun v g=>tr g) fun _=>ti (fun _=>?_) fun _=>ti (fun _=>?_) fun _=>?_
 ·exact t2_ (by omega) ((tb (t_RowGet hK _ ho _) fun v3 g3=>ti (fun _=>tr ⟨up,az _ _⟩) fun _=>ti (fun _=>tr ⟨up,az _ _⟩) fun _=>tr ⟨up,g3⟩))
 ·exact t2_ (by omega) ((tb (x_v0 hK _ ho.sz _ _ (by omega)) fun v3 g3=>t2_ (by omega) ((tc (by omega) (tc (ls _) (tr ⟨up.row (g3.1 ho).1 _,az _ _⟩))))))
 ·exact t2_ (by omega) ((tb (x_wj hK _ ho.sz _ (by omega)) fun v3 g3=>t2_ (by omega) ((tc (by omega) (tc (ls _) (tr ⟨up.row (g3.1 ho).1 _,az _ _⟩))))))
theorem t_l6New (hK:2097152≤K) (hN:N<1000000) (s:x_d) (k:x_ai) (h:KW N s k) (c:TCmd) (hc:COk c) (hw:¬ c.1<0):Tot (x_fj K s k c) fun x=>KW (N+1) s x.1∧AT x.2.1:=by
 have hcc:=hc.act hw
 have up:=h.mono (Nat.le_succ N)
 have hr:=h.1.1
 unfold x_fj x_fj.b
 refine ti (fun _=>?_) fun _=>?_
 ·have ht:=h.2.2.2.2.2.1
  rw [w6 (n:=k.2.2.2.1+c.2.2.2.1) (by omega) (by omega)]
  refine tb (x_ij _ _) fun v1 g1=>?_
  have hv:0≤v1.1∧v1.1≤100000:=by omega
  refine l3_ (L:=x_fj.l0 K s k c) (fun _ _ _ _=>rfl) (fun d x g v=>v=v1∧ ∃ i:Nat,x=i∧i+d=2∧KW (N+1) s (k.1,k.2.1,g,v1.1,k.2.2.2.2.1,k.2.2.2.2.2)) (fun d x g v L' hi kk=>?_) (m:=2) (by omega) ⟨rfl,0,rfl,rfl,?_⟩
  ·obtain ⟨rfl,i,rfl,hi,hg⟩:=hi
   have hlen:g.length=2:=hg.2.2.1
   unfold x_fj.l0b
   refine ti (fun a=>?_) fun a=>tr ⟨hg,az _ _⟩
   rw [wi (i:=i) (by omega),tz]
   have g9:GOk s.1 (g.getD i x_bv):=hg.2.2.2.2.2.2.2.2.1 i (by omega)
   refine tc (by omega) (tc a (tb (x_p3 hK (by omega) _ g9 _ (by omega)) fun v2 g2=>tc (by omega) (tc a (kk (d-1) _ _ _ (by omega) ⟨rfl,i+1,by push_cast;rfl,by omega,?_⟩))))
   exact hg.group g2 i
  ·obtain ⟨h1,h2,h3,h4,h5,h6,h7⟩:=up
   exact ⟨h1,h2,h3,h4,h5,hv,h7⟩
 ·refine tb (x_bk _ _ _) fun v3 g3=>tf g3 (fun _=>ti (fun _=>tr ⟨up,az _ _⟩) fun a=>?_) fun _=>ti (fun _=>tr ⟨up,az _ _⟩) fun a=>?_
  ·exact tb (t_l6Group hK s k h c hc hw (by omega)) fun v g=>tr ⟨g.1.mono (Nat.le_succ N),g.2⟩
  ·exact tb (t_l6Row hK hN s k h c hc hw (by omega)) fun v g=>tr g
theorem KW.said {s:x_d} {k:x_ai} (h:KW N s k) (i:Nat) (q:Int) {a:x_dl} (ha:AT a):KW N s (k.1,k.2.1,k.2.2.1,k.2.2.2.1,k.2.2.2.2.1.set i q,k.2.2.2.2.2.set i a):=by
 obtain ⟨h1,h2,h3,h4,h5,h6,h7,h8,h9,h10⟩:=h
 refine ⟨h1,h2,h3,?_,?_,h6,h7,h8,h9,fun j hj=>?_⟩
 ·show (k.2.2.2.2.1.set i q).length=4
  rw [length_set];exact h4
 ·show (k.2.2.2.2.2.set i a).length=4
  rw [length_set];exact h5
 ·show AT ((k.2.2.2.2.2.set i a).getD j x_b7)
  rcases x_lz (l:=k.2.2.2.2.2) (i:=j) (j:=i) (x:=a) (z:=x_b7) with e | e<;>rw [e]
  ·exact h10 j hj
  ·exact ha
theorem t_l6Do (hK:2097152≤K) (hN:N<1000000) (s:x_d) (k:x_ai) (h:KW N s k) (c:TCmd) (hc:COk c):Tot (x_zi K s k c) fun x=>KW (N+1) s x.1∧AT x.2.1:=by
 have up:=h.mono (Nat.le_succ N)
 have cp:=x_l2 hK k (h.sz (by omega))
 unfold x_zi
 refine ti (fun _=>tv cp (tr ⟨up,az _ _⟩)) fun hw=>?_
 have hcc:=hc.act hw
 have hd:=h.2.2.2.1
 have hl:=h.2.2.2.2.1
 refine t2_ (by omega) ((ti (fun _=>tv cp (t2_ (by omega) ((tr ⟨up,h.2.2.2.2.2.2.2.2.2 _ (by omega)⟩)))) fun _=>tv cp (tb (t_l6New hK hN s k h c hc hw) fun v4 g4=>?_)))
 have hd:=g4.1.2.2.2.1
 have hl:=g4.1.2.2.2.2.1
 exact t2_ (by omega) ((t2_ (by omega) ((tr ⟨g4.1.said _ _ g4.2,g4.2⟩))))
theorem t_l6Step (hK:2097152≤K) (hN:N<1000000) (s:x_d) (k:x_ai) (h:KW N s k) (c:TCmd) (hc:COk c):Tot (x_rp K s k c) fun x=>KW (N+1) s x.1:=by
 unfold x_rp
 exact tb (t_l6Do hK hN s k h c hc) fun v g=>tr g.1
theorem x_0f (hK:2097152≤K) (hN:N<900000) (w:x_c7) (h:WI N w) (a:Int):Tot (x_em K w a) fun x=>W1 (N+300) w x.1:=by
 obtain ⟨h1,h2,h3,h4,h5,h6⟩:=h
 have hlog:=h2.2.2.1
 have hb:=hlog.1
 have hla:=hlog.last
 unfold x_em x_em.b
 refine tb (x_f0 _ h2.lsz.1 h2.lsz.2) fun v g=>?_
 subst g
 refine l3_ (L:=x_em.l0 K w a) (fun _ _ _ _=>rfl) (fun m v q k=>v=(x_fb w.2.2.1.2.1.2.2.1,x_tj w.2.2.1.2.1.2.2.1,())∧(w.2.2.1.2.2.2.2.2.2.1≤q∧q≤300)∧q+m=300∧KW (N+(300-m)) w.1 k) (fun m v q k L' hi kk=>?_) (m:=(300-w.2.2.1.2.2.2.2.2.2.1).toNat) (by omega) ⟨rfl,⟨Int.le_refl _,h4.2⟩,by omega,h5.mono (by omega)⟩
 obtain ⟨rfl,hq,hm,hk⟩:=hi
 unfold x_em.l0b
 refine tb (x_ij _ _) fun v2 g2=>ti (fun b=>?_) fun b=>tr ⟨rfl,rfl,h1,h2,h3,⟨Int.le_trans h4.1 hq.1,hq.2⟩,hk.mono (by omega),h6⟩
 have hlt:q<x_fb w.2.2.1.2.1.2.2.1:=by rw [g2] at b;have:=Int.min_le_right a (x_fb w.2.2.1.2.1.2.2.1);omega
 rw [w6 (n:=q-w.2.2.1.2.1.2.2.1.1) (by omega) (by omega),w6 (n:=q+1) (by omega) (by omega)]
 unfold x_fb at hlt hla
 refine t2_ (by omega) ((tb (t_l6Step hK (by omega) _ _ hk _ (hlog.2.2.2 _ (by omega)).2) fun v3 g3=>kk (m-1) _ _ _ (by omega) ⟨rfl,by omega,by omega,g3.mono (by omega)⟩))
theorem t_l14Put (hK:2097152≤K) (hN:N<900000) (w:x_c7) (h:WI N w) (r:TRpc) (hr:RpOk r w.2.1):Tot (x_ge K w r) fun x=>W1 (N+300) w x.1:=by
 have hup:N≤N+300:=by omega
 have hlz:=h.2.1.lsz
 have hes:=hr.2.2.2.2.2.2.2.2.2.1
 have hix:=hr.2.2.2.2.2.2.1
 have hlog:=h.2.1.2.2.1
 unfold x_ge
 refine tb (x_f0 _ hlz.1 hlz.2) fun v1 e1=>ti (fun _=>tb (x_ix hK (by omega) w h _ _ _) fun v g=>tr (g.mono hup)) fun _=>?_
 refine tb (x_lk hK (by omega) w h _) fun v3 g3=>ti (fun _=>tb (x_ix hK (by omega) _ g3.wi _ _ _) fun v g=>tr ((g3.trans g).mono hup)) fun _=>?_
 refine tb (x_t1 hK _ hlog.sz _ _ _ hes.sz hes.2) fun v5 g5=>?_
 have hl5:LBd v5.1:=by
  by_cases hp:x_pf w.2.2.1.2.1.2.2.1 r.2.2.2.2.1 r.2.2.2.2.2.1 r.2.2.2.2.2.2.2.1
  ·rw [(g5.1 hlog).1 hp];exact hp.2.2.bd
  ·rw [(g5.1 hlog).2 hp];exact hlog.bd
 have fin:∀ (x:x_c7),W1 N w x→ ∀ i,Tot ((x_em K x i).bind fun v16=>(x_ey K v16.1 r.2.1 true (i6 (r.2.2.2.2.1+((r.2.2.2.2.2.2.2.1.length:Nat):Int)))).bind fun v17=>some (v17.1,())) fun x=>W1 (N+300) w x.1:=fun x hx i=>
  tb (x_0f hK hN x hx.wi i) fun v16 g16=>tb (x_ix hK (by omega) _ g16.wi _ _ _) fun v17 g17=>tr ((hx.mono hup).trans (g16.trans g17))
 have got:∀ (x:x_c7),W1 N w x→ ∀ b i,Tot ((x_ey K x r.2.1 b i).bind fun v17=>some (v17.1,())) fun x=>W1 (N+300) w x.1:=fun x hx b i=>
  tb (x_ix hK (by omega) _ hx.wi _ _ _) fun v17 g17=>tr ((hx.trans g17).mono hup)
 have j:∀ b v6,Tot (x_ge.j0 K b v1 r v3 v5 w v6) fun x=>W1 (N+300) w x.1:=fun b v6=>by
  unfold x_ge.j0
  refine tB (fun _=>?_) fun _=>?_
  ·exact tb (x_ij _ _) fun v9 _=>tb (x_ks _ _) fun v10 _=>got _ g3 _ _
  ·refine tb (x_tv hK _ _ hl5.2) fun v12 _=>tN (fun _=>?_) fun _=>?_
   ·refine tb (x_r5 hK _ g3.wi _) fun v13 g13=>tb (x_hi hK (by omega) _ g13.wi _ hes.sz) fun v14 g14=>?_
    have gg:=g3.trans (g13.trans g14)
    exact tB (fun _=>tb (x_ij _ _) fun v15 _=>fin _ gg _) fun _=>got _ gg _ _
   ·exact tB (fun _=>tb (x_ij _ _) fun v15 _=>fin _ g3 _) fun _=>got _ g3 _ _
 refine tb (x_f0 _ hl5.2 hl5.1) fun v6 _=>tN (fun _=>j _ _) fun _=>ti (fun _=>j _ _) fun _=>?_
 have h3:=g3.2.2.2.1.2.2.1
 exact tb (t_l14Lost hK _ h3.bd h3.1.1 g3.2.2.2.2.2.1.2 _ hl5) fun v7 _=>j _ _
theorem t_l14Snap (hK:2097152≤K) (hN:N<900000) (h16:16≤N) (w:x_c7) (h:WI N w) (r:TRpc) (hr:RpOk r w.2.1):Tot (x_jb K w r) fun x=>W1 (N+300) w x.1:=by
 have hup:N≤N+300:=by omega
 have hlz:=h.2.1.lsz
 have hix:=hr.2.2.2.2.2.2.1
 unfold x_jb
 refine tb (x_f0 _ hlz.1 hlz.2) fun v1 e1=>ti (fun _=>tb (x_ix hK (by omega) w h _ _ _) fun v g=>tr (g.mono hup)) fun _=>?_
 refine tb (x_lk hK (by omega) w h _) fun v3 g3=>ti (fun _=>tb (x_ix hK (by omega) _ g3.wi _ _ _) fun v g=>tr ((g3.trans g).mono hup)) fun a=>?_
 refine tb (x_hz _ h.2.1.2.2.1.bd _) fun v5 _=>ti (fun _=>?_) fun _=>?_
 ·exact tb (x_0f hK hN _ g3.wi _) fun v6 g6=>tb (x_ix hK (by omega) _ g6.wi _ _ _) fun v7 g7=>tr ((g3.mono hup).trans (g6.trans g7))
 ·refine tb (x_0y hK _ _ (x_vj _ hr.2.2.2.2.2.2.2.2.2.2)) fun v8 g8=>tN (fun _=>tr (g3.mono hup)) fun b=>ti (fun _=>tr (g3.mono hup)) fun _=>?_
  have hk:=(g8.1 b).kw h16
  have g3':=g3
  obtain ⟨e1,e2,p1,p2,p3,p4,p5,p6⟩:=g3'
  rw [e1] at hk
  have hx:W1 N w (v3.1.1,v3.1.2.1,(v3.1.2.2.1.1,v3.1.2.2.1.2.1,v3.1.2.2.1.2.2.1,v3.1.2.2.1.2.2.2.1,v3.1.2.2.1.2.2.2.2.1,v3.1.2.2.1.2.2.2.2.2.1,r.2.2.2.2.1,v8.1,v3.1.2.2.1.2.2.2.2.2.2.2.2.1,v3.1.2.2.1.2.2.2.2.2.2.2.2.2),v3.1.2.2.2):=⟨e1,e2,p1,p2,p3,⟨Int.le_trans p4.1 (Int.le_of_lt (Int.not_le.1 a)),hix.2⟩,hk,p6⟩
  exact tb (x_r5 hK _ hx.wi _) fun v9 g9=>tb (x_hi hK (by omega) _ g9.wi _ EsSz.nil) fun v10 g10=>tb (x_ix hK (by omega) _ g10.wi _ _ _) fun v11 g11=>tr ((hx.trans (g9.trans (g10.trans g11))).mono hup)
theorem x_ok (hK:2097152≤K) (hN:N<900000) (w:x_c7) (h:WI N w):Tot (x_al K w) fun x=>W1 (N+300) w x.1:=by
 have hlz:=h.2.1.lsz
 have hlog:=h.2.1.2.2.1
 have hs:=h.1
 have hc:=h.2.2.2.1
 have hb:=hlog.1
 have hla:=hlog.last
 have hm:=h.2.2.1.2.2
 unfold x_al x_al.b
 refine tb (x_f0 _ hlz.1 hlz.2) fun v1 e1=>?_
 subst e1
 refine l1_ (L:=x_al.l0 K w) (b:=fun L'=>x_al.l0b K w (x_al.l1 K w L' K)) (fun _ _=>rfl) (fun m x=>x≤300∧(w.2.2.1.2.2.2.2.2.2.1<x→x=w.2.2.1.2.2.2.2.2.2.1+m)) (fun m x L' hi k=>?_) (m:=(x_fb w.2.2.1.2.1.2.2.1-w.2.2.1.2.2.2.2.2.2.1).toNat) (by show (x_fb w.2.2.1.2.1.2.2.1-w.2.2.1.2.2.2.2.2.2.1).toNat<K;omega) ⟨hla.2,fun a=>by have a:_<x_fb w.2.2.1.2.1.2.2.1:=a;show x_fb w.2.2.1.2.1.2.2.1=_;omega⟩
 unfold x_al.l0b
 refine ti (fun a=>ti (fun _=>?_) fun _=>tr (h.refl.mono (by omega))) fun _=>tr (h.refl.mono (by omega))
 have hx:=hi.2 a
 refine l3_ (L:=x_al.l1 K w L') (fun _ _ _ _=>rfl) (fun d y c z=>y=x∧ ∃ i:Nat,z=i∧(i:Int)+d=w.2.1) (fun d y c z L1 hj kk=>?_) (m:=(w.2.1).toNat) (by omega) ⟨rfl,0,rfl,by omega⟩
 obtain ⟨rfl,i,rfl,hj⟩:=hj
 unfold x_al.l1b
 refine ti (fun b=>?_) fun b=>?_
 ·rw [wi (i:=i) (by omega)]
  exact t2_ (by omega) ((tb (t_l1Bit _) fun v2 _=>kk (d-1) _ _ _ (by omega) ⟨rfl,i+1,by push_cast;rfl,by omega⟩))
 ·have go:=k (m-1) (y-1) (by omega) ⟨by omega,fun _=>by omega⟩
  rw [w6 (n:=y-1) (by omega) (by omega)]
  refine tb (x_hz _ hlog.bd _) fun v3 _=>ti (fun _=>?_) fun _=>go
  unfold x_uw
  exact tb (Q:=fun _=>True) (tr trivial) fun v4 _=>ti (fun _=>tb (x_0f hK hN w h _) fun v5 g5=>tr g5) fun _=>go
variable {K N:Nat}
def HW (p:x_d) (h:x_dh):Prop:=(0≤h.1∧h.1≤300)∧(-1≤h.2.1∧h.2.1≤4)∧LOk h.2.2.1∧x_tj h.2.2.1≤h.1∧KW 400 p h.2.2.2
theorem HOk.hw {p:x_d} {h:x_dh} (k:HOk p h):HW p h:=⟨k.1,k.2.1,k.2.2.1,k.2.2.2.1,k.2.2.2.2.kw (by decide)⟩
theorem HW.sz {p:x_d} {h:x_dh} (k:HW p h):HSz h:=⟨k.2.2.1.sz,by have:=k.2.2.1.1;omega,k.2.2.2.2.sz (by decide)⟩
def NI (p:x_d) (s:Int) (n:x_bq):Prop:=(1≤s∧s≤5∧0≤n.1∧n.1≤s-1)∧HW p n.2.1∧((n.2.2.2.1.length:Int)=s∧(n.2.2.2.2.1.length:Int)=s∧(n.2.2.2.2.2.1.length:Int)=s)∧(n.2.1.2.2.1.1≤n.2.2.2.2.2.2.1∧n.2.2.2.2.2.2.1≤300)∧KW 400 p n.2.2.2.2.2.2.2.1∧
 (n.2.2.2.2.2.2.2.2.1.1.length≤80000∧BOk n.2.2.2.2.2.2.2.2.1.1)∧n.2.2.2.2.2.2.2.2.2.length≤40∧ ∀ r∈n.2.2.2.2.2.2.2.2.2,RpSz r
theorem PI.ni {p:x_d} {s:Int} {n:x_bq} (h:PI N p s n) (hN:N≤400):NI p s n:=⟨h.1,h.2.1.hw,h.2.2.1,h.2.2.2.1,h.2.2.2.2.1.mono hN,h.2.2.2.2.2⟩
theorem NI.nsz {p:x_d} {s:Int} {n:x_bq} (h:NI p s n):NSz n:=by
 obtain ⟨h1,h2,h3,h4,h5,h6,h7,h8⟩:=h
 exact ⟨⟨h2.sz,h5.sz (by decide),by omega,h8⟩,by omega,by omega,by omega,by omega⟩
theorem NI.bok {p:x_d} {s:Int} {n:x_bq} (h:NI p s n):BOk n.2.2.2.2.2.2.2.2.1.1:=h.2.2.2.2.2.1.2
theorem x_y5 (hK:2097152≤K) (hN:N<900000) (w:x_c7) (h:WI N w) (r:TRpc) (hr:RpOk r w.2.1):Tot (x_ep K w r) fun x=>W1 (N+300) w x.1:=by
 have hup:N≤N+300:=by omega
 have hlz:=h.2.1.lsz
 have hf:=hr.2.2.1
 have hs:=h.1
 have hl:=h.2.2.1
 have ln:∀ x:Int,(((w.2.2.1.2.2.2.2.1.set (Int.toNat r.2.1) x).length:Nat):Int)=w.2.1:=fun x=>by rw [length_set];exact hl.2.1
 have lm:∀ x:Int,(((w.2.2.1.2.2.2.2.2.1.set (Int.toNat r.2.1) x).length:Nat):Int)=w.2.1:=fun x=>by rw [length_set];exact hl.2.2
 have wn:∀ x:Int,WI N (w.1,w.2.1,(w.2.2.1.1,w.2.2.1.2.1,w.2.2.1.2.2.1,w.2.2.1.2.2.2.1,w.2.2.1.2.2.2.2.1.set (Int.toNat r.2.1) x,w.2.2.1.2.2.2.2.2.1,w.2.2.1.2.2.2.2.2.2.1,w.2.2.1.2.2.2.2.2.2.2.1,w.2.2.1.2.2.2.2.2.2.2.2.1,w.2.2.1.2.2.2.2.2.2.2.2.2),w.2.2.2):=fun x=>by
  obtain ⟨h1,h2,h3,h4⟩:=h
  exact ⟨h1,h2,⟨h3.1,ln x,h3.2.2⟩,h4⟩
 have wm:∀ x y:Int,WI N (w.1,w.2.1,(w.2.2.1.1,w.2.2.1.2.1,w.2.2.1.2.2.1,w.2.2.1.2.2.2.1,w.2.2.1.2.2.2.2.1.set (Int.toNat r.2.1) x,w.2.2.1.2.2.2.2.2.1.set (Int.toNat r.2.1) y,w.2.2.1.2.2.2.2.2.2.1,w.2.2.1.2.2.2.2.2.2.2.1,w.2.2.1.2.2.2.2.2.2.2.2.1,w.2.2.1.2.2.2.2.2.2.2.2.2),w.2.2.2):=fun x y=>by
  obtain ⟨h1,h2,h3,h4⟩:=h
  exact ⟨h1,h2,⟨h3.1,ln x,lm y⟩,h4⟩
 have j:Tot (x_ep.j0 K r w) fun x=>W1 (N+300) w x.1:=by
  unfold x_ep.j0
  exact t2_ (by omega) ((t2_ (by omega) ((tb (x_ks _ _) fun v6 _=>t2_ (by omega) ((tb (x_ok hK hN _ (wn _)) fun v7 g7=>tr ⟨g7.1,g7.2.1,g7.2.2⟩))))))
 unfold x_ep
 refine tn (fun _=>tr (h.refl.mono hup)) fun _=>tn (fun _=>tr (h.refl.mono hup)) fun _=>tb (x_f0 _ hlz.1 hlz.2) fun v1 _=>tN (fun _=>?_) fun _=>?_
 ·exact t2_ (by omega) ((tb (x_ij _ _) fun v2 _=>t2_ (by omega) ((tb (x_ks _ _) fun v3 _=>t2_ (by omega) ((tr ⟨rfl,rfl,PI.mono (wn _) hup⟩))))))
 ·refine t2_ (by omega) ((ti (fun _=>ti (fun _=>?_) fun _=>j) fun _=>j))
  exact t2_ (by omega) ((t2_ (by omega) ((tc (by omega) (tc (by have:=lm r.2.2.2.2.1;omega) (tb (x_ks _ _) fun v4 _=>t2_ (by omega) ((tb (x_ok hK hN _ (wm _ _)) fun v7 g7=>tr ⟨g7.1,g7.2.1,g7.2.2⟩))))))))
def Went (p:x_d) (s:Int) (n:x_bq) (x:x_bq×Bool×Unit):Prop:=(x.2.1=false→x.1=n)∧NI p s x.1
theorem t_Hear (hK:2097152≤K) (p:x_d) (n:x_bq) (s:Int) (h:NI p s n) (r:TRpc) (hr:RpSz r):Tot (x_jq K p n s r) fun x=>Went p s n x:=by
 have cp:=x_fv hK n h.nsz
 have no:Tot ((x_ae K n).bind fun v=>some (v.1,false,())) fun x=>Went p s n x:=tv cp (tr ⟨fun _=>rfl,h⟩)
 unfold x_jq
 refine tb (x_ha hK p n s h.nsz.1) fun v1 g1=>tg g1 (fun _=>no) fun a1=>tb (x_vn hK r s hr) fun v2 g2=>tg g2 (fun _=>no) fun a2=>tn (fun _=>no) fun _=>tv cp ?_
 have hp:=a1.pi h.bok (Nat.le_refl 16)
 have hw:WI 16 (p,s,n,true):=hp
 have fin:∀ x:x_c7,W1 316 (p,s,n,true) x→Tot (bif !x.2.2.2 then (x_ae K n).bind fun v=>some (v.1,false,()) else (x_as K p x.2.2.1 s).bind fun v=>bif !v.1 then (x_ae K n).bind fun v=>some (v.1,false,()) else some (x.2.2.1,true,())) fun x=>Went p s n x:=fun x hx=>
  tN (fun _=>no) fun _=>tb (x_ha hK p _ s (hx.2.2.nsz (by decide)).1) fun v g=>tg g (fun _=>no) fun _=>tr ⟨fun h=>bad' h,hx.2.2.ni (by decide)⟩
 have a2f:=a2.2.2.1
 have go:∀ (w:x_c7) (J:x_c7×Unit→Option (x_bq×Bool×Unit)),W1 16 (p,s,n,true) w→(∀ x,J x=bif !x.1.2.2.2 then (x_ae K n).bind fun v=>some (v.1,false,()) else (x_as K p x.1.2.2.1 s).bind fun v=>bif !v.1 then (x_ae K n).bind fun v=>some (v.1,false,()) else some (x.1.2.2.1,true,()))→Tot (bif decide (r.1=1) then (x_f3 K w r).bind fun v=>J v else bif decide (r.1=2) then (x_cf K w r).bind fun v=>J v else bif decide (r.1=3) then (x_ge K w r).bind fun v=>J v else bif decide (r.1=5) then (x_jb K w r).bind fun v=>J v else (x_ep K w r).bind fun v=>J v) fun x=>Went p s n x:=fun w J g J1=>by
  have e:w.2.1=s:=g.2.1
  have e2:RpOk r w.2.1:=by rw [e];exact a2
  refine ti (fun _=>tb (t_l14Ask hK (by decide) w g.wi r) fun v gv=>?_) fun _=>ti (fun _=>tb (t_l14Vote hK (by decide) w g.wi r e2.2.2.1) fun v gv=>?_) fun _=>ti (fun _=>tb (t_l14Put hK (by decide) w g.wi r e2) fun v gv=>?_) fun _=>ti (fun _=>tb (t_l14Snap hK (by decide) (by decide) w g.wi r e2) fun v gv=>?_) fun _=>tb (x_y5 hK (by decide) w g.wi r e2) fun v gv=>?_
  ·rw [J1];exact fin _ ((g.trans gv).mono (by decide))
  ·rw [J1];exact fin _ ((g.trans gv).mono (by decide))
  ·rw [J1];exact fin _ ((g.mono (M:=316) (by decide)).trans gv)
  ·rw [J1];exact fin _ ((g.mono (M:=316) (by decide)).trans gv)
  ·rw [J1];exact fin _ ((g.mono (M:=316) (by decide)).trans gv)
 refine ti (fun _=>tb (x_lk hK (by decide) _ hw _) fun v7 g7=>?_) fun _=>?_
 ·exact go _ (fun v=>x_jq.j0 K v n p s) g7 fun x=>rfl
 ·exact go _ (fun v=>x_jq.j1 K v n p s) hw.refl fun x=>rfl
theorem t_Propose (hK:2097152≤K) (p:x_d) (n:x_bq) (s:Int) (h:NI p s n) (c:TCmd) (hc:CSz c):Tot (x_ji K p n s c) fun x=>Went p s n x:=by
 have cp:=x_fv hK n h.nsz
 have no:Tot ((x_ae K n).bind fun v=>some (v.1,false,())) fun x=>Went p s n x:=tv cp (tr ⟨fun _=>rfl,h⟩)
 have hz:=h.2.1.sz
 unfold x_ji
 refine tb (x_ha hK p n s h.nsz.1) fun v1 g1=>tg g1 (fun _=>no) fun a1=>tn (fun _=>no) fun _=>tb (x_n7 hK c hc) fun v2 g2=>tg g2 (fun _=>no) fun a2=>?_
 have hp:=a1.pi h.bok (Nat.le_refl 16)
 refine tb (x_f0 _ hz.1.1 hz.2.1) fun v6 _=>tb (x_pt hK p n h.nsz h.bok _ ⟨by show (1:Nat)<_;decide,fun x hx=>?_⟩) fun v7 g7=>tN (fun _=>no) fun b=>ti (fun _=>no) fun _=>tr ⟨fun h=>bad' h,?_⟩
 ·obtain rfl:=mem_singleton.1 hx
  exact hc
 ·show NI p s v7.1
  rcases g7 with ⟨g,_⟩ | ⟨_,g,b,hh,d,e⟩
  ·rw [g] at b;exact bad b
  ·rw [a1.2.2.2.2.2.1] at g
   exact (g.pi b (Nat.le_refl 16)).ni (by decide)
theorem t_Ask (hK:2097152≤K) (p:x_d) (n:x_bq) (s:Int) (h:NI p s n):Tot (x_ph K p n s) fun x=>Went p s n x:=by
 have cp:=x_fv hK n h.nsz
 have no:Tot ((x_ae K n).bind fun v=>some (v.1,false,())) fun x=>Went p s n x:=tv cp (tr ⟨fun _=>rfl,h⟩)
 have hz:=h.2.1.sz
 have hs:=h.1
 unfold x_ph x_ph.b
 refine tb (x_ha hK p n s h.nsz.1) fun v1 g1=>tg g1 (fun _=>no) fun a1=>ti (fun _=>no) fun _=>ti (fun _=>no) fun _=>tv cp ?_
 have hw:WI 16 (p,s,n,true):=a1.pi h.bok (Nat.le_refl 16)
 refine tb (x_hi hK (by decide) _ hw _ EsSz.nil) fun v6 g6=>tc rfl (tc (by omega) (tc (by show _≤70368744177664;(try dsimp only);(try simp only [ll_]);omega) (tc (by omega) (tc (by rw [length_replicate];omega) ?_))))
 refine tb (x_f0 _ hz.1.1 hz.2.1) fun v7 _=>?_
 refine l5_ (L:=x_ph.l0 K p n s) (fun _ _ _ _ _ _=>rfl) (fun m v i w r vs=>W1 16 (p,s,n,true) w.1∧(vs.length:Int)=s∧ ∃ j:Nat,i=j∧(j:Int)+m=s) (fun m v i w r vs L' hi k=>?_) (m:=s.toNat) (by omega) ⟨g6,by rw [length_set,length_replicate];omega,0,rfl,by omega⟩
 obtain ⟨hx,hv,j,rfl,hm⟩:=hi
 have hx':W1 16 (p,s,n,true) (w.1.1,w.1.2.1,(w.1.2.2.1.1,w.1.2.2.1.2.1,r,vs,w.1.2.2.1.2.2.2.2.1,w.1.2.2.1.2.2.2.2.2.1,w.1.2.2.1.2.2.2.2.2.2.1,w.1.2.2.1.2.2.2.2.2.2.2.1,w.1.2.2.1.2.2.2.2.2.2.2.2.1,w.1.2.2.1.2.2.2.2.2.2.2.2.2),w.1.2.2.2):=by
  obtain ⟨e1,e2,h1,h2,h3,h4⟩:=hx
  exact ⟨e1,e2,h1,h2,⟨hv,h3.2⟩,h4⟩
 unfold x_ph.l0b
 refine ti (fun a=>?_) fun a=>tN (fun _=>no) fun _=>?_
 ·rw [wi (i:=j) (by omega)]
  refine tn (fun _=>?_) fun _=>k (m-1) _ _ _ _ _ (by omega) ⟨hx,hv,j+1,by push_cast;rfl,by omega⟩
  exact tb (x_jm hK (by decide) _ hx'.wi _ EsSz.nil) fun v8 g8=>k (m-1) _ _ _ _ _ (by omega) ⟨hx'.trans g8,(hx'.trans g8).2.2.2.2.1.1,j+1,by push_cast;rfl,by omega⟩
 ·unfold x_uw
  refine tb (Q:=fun _=>True) (tr trivial) fun v10 _=>ti (fun _=>?_) fun _=>tr ⟨fun h=>bad' h,hx'.2.2.ni (by decide)⟩
  exact tb (x_u0 hK (by decide) _ hx'.wi) fun v11 g11=>tr ⟨fun h=>bad' h,(hx'.trans g11).2.2.ni (by decide)⟩
theorem t_From (l:TLog) (h:LBd l) (i:Int) (hz:LSz l):Tot (s_From l i) fun x=>EsSz x.1:=by
 have h2:=hz.1
 unfold s_From
 refine tb (t_l8At l h i) fun v g=>ti (fun _=>tr EsSz.nil) fun a=>?_
 have hv:0≤v.1∧v.1≤(l.2.2.length:Int):=by
  have h0:=h.1
  by_cases k:l.1<i∧i≤x_fb l∧i≤300∧0≤l.1
  ·have:=g.1 k
   unfold x_fb at k
   omega
  ·have:=g.2 k
   omega
 refine tc rfl (tc hv.1 (tc hv.2 (tc (Int.le_refl _) (tc (by show _≤70368744177664;rw [length_drop,length_take];simp only [length_nil];omega) (tr ⟨?_,fun x hx=>?_⟩)))))
 ·show ([]++((l.2.2.take _).drop _)).length<2097152
  rw [List.nil_append,length_drop,length_take];omega
 ·have hx:x∈[]++((l.2.2.take _).drop _):=hx
  rw [List.nil_append] at hx
  exact hz.2 x (List.mem_of_mem_take (List.mem_of_mem_drop hx))
theorem t_Sync (d:x_pu) (h:d.1.length<2097152):Tot (s_Sync d) fun x=>x.1.1=d.1:=by
 unfold s_Sync
 exact tv (x_mz d h) (tb (x_qi d) fun v g=>tf g (fun _=>tr rfl) fun _=>tr rfl)
theorem t_SureNow (hK:2097152≤K) (p:x_d) (n:x_bq) (s:Int) (h:NI p s n):Tot (x_nd K p n s) fun x=>NI p s x.1∧x.2.1.length≤40∧ ∀ r∈x.2.1,RpOk r s:=by
 have cp:=x_fv hK n h.nsz
 have hz:=h.2.1.sz
 have hs:=h.1
 have hl:=h.2.2.1
 have hd:=h.2.2.2.2.2.1.1
 unfold x_nd
 refine tv cp (tb (x_ha hK p n s h.nsz.1) fun v2 g2=>tg g2 (fun _=>tr ⟨h,by show (0:Nat)≤40;decide,fun r hr=>by simp at hr⟩) fun a2=>tb (t_Sync _ (by omega)) fun v3 g3=>?_)
 have hp:=a2.pi h.bok (Nat.le_refl 16)
 have held:n.2.2.2.2.2.2.2.2.2.length≤40∧ ∀ r∈n.2.2.2.2.2.2.2.2.2,RpOk r s:=⟨h.2.2.2.2.2.2.1,fun r hr=>by
  obtain ⟨i,hi,rfl⟩:=List.mem_iff_getElem.1 hr
  have:=(a2.2.2.2.2.2.2.2.2.2.1 i hi).1
  rwa [x_az hi] at this⟩
 have hn:∀ m:List Int,(m.length:Int)=s→PI 16 p s (n.1,n.2.1,n.2.2.1,n.2.2.2.1,n.2.2.2.2.1,m,n.2.2.2.2.2.2.1,n.2.2.2.2.2.2.2.1,v3.1,[]):=fun m hm=>by
  obtain ⟨h1,h2,h3,h4,h5,h6,h7⟩:=hp
  refine ⟨h1,h2,⟨h3.1,h3.2.1,hm⟩,h4,h5,?_,by show (0:Nat)≤40;decide,fun r hr=>by simp at hr⟩
  show v3.1.1.length≤80000∧BOk v3.1.1
  rw [g3];exact h6
 refine ti (fun _=>?_) fun _=>tr ⟨(hn _ hl.2.2).ni (by decide),held⟩
 refine tb (x_f0 _ hz.1.1 hz.2.1) fun v4 _=>tc (by omega) (tc (by show n.1<(n.2.2.2.2.2.1.length:Int);omega) ?_)
 have hw:WI 16 (p,s,(n.1,n.2.1,n.2.2.1,n.2.2.2.1,n.2.2.2.2.1,n.2.2.2.2.2.1.set (Int.toNat n.1) v4.1,n.2.2.2.2.2.2.1,n.2.2.2.2.2.2.2.1,v3.1,[]),true):=hn _ (by rw [length_set];exact hl.2.2)
 exact tb (x_ok hK (by decide) _ hw) fun v5 g5=>tr ⟨g5.2.2.ni (by decide),held⟩
variable {K N:Nat}
theorem x_tc (hK:2097152≤K) (l:List Int) (h:l.length<200000):Tot (x_cc K l) fun x=>x.1.length≤5*l.length∧BOk x.1:=(x_ts hK l h).mono fun x e=>by rw [e];exact ⟨(x_ez l).2,(x_ez l).1⟩
theorem q_num (hK:2097152≤K) (n:Int):Tot (x_bw K n) fun x=>x.1.length≤5∧BOk x.1:=(x_gc hK n).mono fun x e=>by rw [e];exact ⟨(x_cd n).2,(x_cd n).1⟩
theorem q_text (hK:2097152≤K) (s:ByteArray) (h:s.size≤30):Tot (x_e4 K s) fun x=>x.1.length≤35∧BOk x.1:=(x_kk hK s (by omega)).mono fun x e=>by rw [e];exact ⟨by have:=(x_f9 s).2;omega,(x_f9 s).1⟩
theorem x_jf (hK:2097152≤K) (p:x_d) (k:x_ai) (h:KW N p k) (hN:N≤100000):Tot (x_b K k) fun x=>x.1.length≤100000+100*N∧BOk x.1:=by
 obtain ⟨h1,h2,h3,h4,h5,h6,h7,h8,h9,h10⟩:=h
 have hr:=h1.1
 have ap:∀ {a b:List Int},BOk a→BOk b→BOk (a++b):=fun x y=>x.app y
 have L6:∀ q:List Int,q.length≤80000+100*N→BOk q→Tot (x_b.l6 K k K q 0) fun x=>x.1.length≤100000+100*N∧BOk x.1:=fun q hq hb=>by
  refine l2_ (L:=x_b.l6 K k) (fun _ _ _=>rfl) (fun m q x=> ∃ i:Nat,x=i∧i+m=4∧q.length≤80000+100*N+100*i∧BOk q) (fun m q x L' hi kk=>?_) (m:=4) (by omega) ⟨0,rfl,rfl,hq,hb⟩
  obtain ⟨i,rfl,hm,hq,hb⟩:=hi
  unfold x_b.l6b
  refine ti (fun a=>?_) fun a=>tr ⟨by show q.length≤_;omega,hb⟩
  have ha:=h10 i (by omega)
  rw [wi (i:=i) (by omega),tz]
  refine t2_ (by omega) ((t2_ (by omega) ((tb (x_tc hK _ (by show (3:Nat)<_;decide)) fun v15 g15=>?_))))
  have e15:v15.1.length≤15:=g15.1
  refine tc (by show _≤70368744177664;(try dsimp only);(try simp only [ll_]);omega) (tb (q_text hK _ ha.1) fun v16 g16=>tc (by show _≤70368744177664;simp only [length_append];omega) (tb (q_text hK _ ha.2) fun v17 g17=>tc (by show _≤70368744177664;simp only [length_append];omega) ?_))
  exact kk (m-1) _ _ (by omega) ⟨i+1,by push_cast;rfl,by omega,by simp only [length_append];omega,ap (ap (ap hb g15.2) g16.2) g17.2⟩
 have L4:∀ q:List Int,q.length≤70000+100*N→BOk q→Tot (x_b.l4 K k K q 0) fun x=>x.1.length≤100000+100*N∧BOk x.1:=fun q hq hb=>by
  refine l2_ (L:=x_b.l4 K k) (b:=fun L'=>x_b.l4b K k (x_b.l5 K k L' K) (x_b.l6 K k K)) (fun _ _ _=>rfl) (fun m q x=> ∃ i:Nat,x=i∧i+m=2∧q.length≤70000+100*N+1000*i∧BOk q) (fun m q x L' hi kk=>?_) (m:=2) (by omega) ⟨0,rfl,rfl,hq,hb⟩
  obtain ⟨i,rfl,hm,hq,hb⟩:=hi
  unfold x_b.l4b
  refine ti (fun a=>?_) fun a=>tb (q_num hK _) fun v g=>tc (by show _≤70368744177664;(try dsimp only);(try simp only [ll_]);omega) (L6 _ (by rw [length_append];omega) (ap hb g.2))
  have hg:=h9 i (by omega)
  have hgl:=hg.len
  have hgb:=hg.2.1
  have hgo:=hg.2.2.1
  rw [tz]
  refine t2_ (by omega) ((tb (x_tc hK _ (by show (2:Nat)<_;decide)) fun v11 g11=>?_))
  have e11:v11.1.length≤10:=g11.1
  refine tc (by show _≤70368744177664;(try dsimp only);(try simp only [ll_]);omega) (l3_ (L:=x_b.l5 K k L') (fun _ _ _ _=>rfl) (fun d q y x=>y=(i:Int)∧ ∃ j:Nat,x=j∧j+d=(k.2.2.1.getD i x_bv).2.1.length∧q.length≤70000+100*N+1000*i+10+10*j∧BOk q) (fun d q y x L5 hj k5=>?_) (m:=(k.2.2.1.getD i x_bv).2.1.length) (by omega) ⟨rfl,0,rfl,by omega,by rw [length_append];omega,ap hb g11.2⟩)
  obtain ⟨rfl,j,rfl,hd,hq,hb⟩:=hj
  unfold x_b.l5b
  rw [tz,tz]
  refine ti (fun b=>?_) fun b=>?_
  ·rw [wi (i:=j) (by omega)]
   refine tc (by omega) (tc b (t2_ (by omega) ((tb (x_tc hK _ (by show (2:Nat)<_;decide)) fun v12 g12=>?_))))
   have e12:v12.1.length≤10:=g12.1
   exact tc (by show _≤70368744177664;(try dsimp only);(try simp only [ll_]);omega) (k5 (d-1) _ _ _ (by omega) ⟨rfl,j+1,by push_cast;rfl,by omega,by rw [length_append];omega,ap hb g12.2⟩)
  ·rw [wi (i:=i) (by omega)]
   refine tb (x_tc hK _ (by omega)) fun v13 g13=>tc (by show _≤70368744177664;(try dsimp only);(try simp only [ll_]);omega) (kk (m-1) _ _ (by omega) ⟨i+1,by push_cast;rfl,by omega,by rw [length_append];omega,ap hb g13.2⟩)
 have L2:∀ q:List Int,q.length≤60000→BOk q→Tot (x_b.l2 K k K q 0) fun x=>x.1.length≤100000+100*N∧BOk x.1:=fun q hq hb=>by
  refine l2_ (L:=x_b.l2 K k) (b:=fun L'=>x_b.l2b K k (x_b.l3 K k L' K) (x_b.l4 K k K)) (fun _ _ _=>rfl) (fun m q x=> ∃ i:Nat,x=i∧i+m=k.2.1.length∧q.length≤60000+100*i∧BOk q) (fun m q x L' hi kk=>?_) (m:=k.2.1.length) (by omega) ⟨0,rfl,by omega,hq,hb⟩
  obtain ⟨i,rfl,hm,hq,hb⟩:=hi
  unfold x_b.l2b
  refine ti (fun a=>?_) fun a=>tb (q_num hK _) fun v g=>tc (by show _≤70368744177664;(try dsimp only);(try simp only [ll_]);omega) (L4 _ (by rw [length_append];omega) (ap hb g.2))
  have hg:=(h7.2 _ (x_ad (z:=x_bb) (show i<k.2.1.length by omega))).1
  rw [tz]
  refine t2_ (by omega) ((tb (x_tc hK _ (by show (5:Nat)<_;decide)) fun v11 g11=>?_))
  have e11:v11.1.length≤25:=g11.1
  refine tc (by show _≤70368744177664;(try dsimp only);(try simp only [ll_]);omega) (l3_ (L:=x_b.l3 K k L') (fun _ _ _ _=>rfl) (fun d q y x=>y=(i:Int)∧ ∃ j:Nat,x=j∧j+d=(k.2.1.getD i x_bb).2.2.2.2.length∧q.length≤60000+100*i+25+10*j∧BOk q) (fun d q y x L5 hj k5=>?_) (m:=(k.2.1.getD i x_bb).2.2.2.2.length) (by omega) ⟨rfl,0,rfl,by omega,by rw [length_append];omega,ap hb g11.2⟩)
  obtain ⟨rfl,j,rfl,hd,hq,hb⟩:=hj
  unfold x_b.l3b
  rw [tz,tz]
  refine ti (fun b=>?_) fun b=>?_
  ·rw [wi (i:=j) (by omega)]
   refine tc (by omega) (tc b (tc (by omega) (tc b (tb (x_tc hK _ (by show (2:Nat)<_;decide)) fun v12 g12=>?_))))
   have e12:v12.1.length≤10:=g12.1
   exact tc (by show _≤70368744177664;(try dsimp only);(try simp only [ll_]);omega) (k5 (d-1) _ _ _ (by omega) ⟨rfl,j+1,by push_cast;rfl,by omega,by rw [length_append];omega,ap hb g12.2⟩)
  ·rw [wi (i:=i) (by omega)]
   exact kk (m-1) _ _ (by omega) ⟨i+1,by push_cast;rfl,by omega,by omega,hb⟩
 unfold x_b x_b.b
 refine tb (q_num hK _) fun v1 g1=>?_
 refine l2_ (L:=x_b.l0 K k) (b:=fun L'=>x_b.l0b K k (x_b.l1 K k L' K) (x_b.l2 K k K)) (fun _ _ _=>rfl) (fun m q x=> ∃ i:Nat,x=i∧i+m=k.1.length∧q.length≤5+10000*i∧BOk q) (fun m q x L' hi kk=>?_) (m:=k.1.length) (by omega) ⟨0,rfl,by omega,g1.1,g1.2⟩
 obtain ⟨i,rfl,hm,hq,hb⟩:=hi
 unfold x_b.l0b
 refine ti (fun a=>?_) fun a=>tb (q_num hK _) fun v g=>tc (by show _≤70368744177664;(try dsimp only);(try simp only [ll_]);omega) (L2 _ (by rw [length_append];omega) (ap hb g.2))
 have hg:=h8 i (by omega)
 have hgl:=hg.2.2.1
 rw [tz]
 refine t2_ (by omega) ((tb (x_tc hK _ (by show (3:Nat)<_;decide)) fun v11 g11=>?_))
 have e11:v11.1.length≤15:=g11.1
 refine tc (by show _≤70368744177664;(try dsimp only);(try simp only [ll_]);omega) (l3_ (L:=x_b.l1 K k L') (fun _ _ _ _=>rfl) (fun d q y x=>y=(i:Int)∧ ∃ j:Nat,x=j∧j+d=(k.1.getD i zRow).2.2.length∧q.length≤5+10000*i+15+100*j∧BOk q) (fun d q y x L5 hj k5=>?_) (m:=(k.1.getD i zRow).2.2.length) (by omega) ⟨rfl,0,rfl,by omega,by rw [length_append];omega,ap hb g11.2⟩)
 obtain ⟨rfl,j,rfl,hd,hq,hb⟩:=hj
 unfold x_b.l1b
 rw [tz,tz]
 refine ti (fun b=>?_) fun b=>?_
 ·rw [wi (i:=j) (by omega)]
  have hit:=(hg.2.2.2 j (by omega)).1
  refine tc (by omega) (tc b (tb (q_num hK _) fun v3 g3=>tc (by show _≤70368744177664;(try dsimp only);(try simp only [ll_]);omega) (tb (q_text hK _ hit.1.1) fun v4 g4=>tc (by show _≤70368744177664;simp only [length_append];omega) (tb (q_text hK _ hit.2.1.1) fun v5 g5=>tc (by show _≤70368744177664;simp only [length_append];omega) (tb (x_tc hK _ (by show (2:Nat)<_;decide)) fun v12 g12=>?_)))))
  have e12:v12.1.length≤10:=g12.1
  exact tc (by show _≤70368744177664;simp only [length_append];omega) (k5 (d-1) _ _ _ (by omega) ⟨rfl,j+1,by push_cast;rfl,by omega,by simp only [length_append];omega,ap (ap (ap (ap hb g3.2) g4.2) g5.2) g12.2⟩)
 ·rw [wi (i:=i) (by omega)]
  exact kk (m-1) _ _ (by omega) ⟨i+1,by push_cast;rfl,by omega,by omega,hb⟩
theorem t_Feed (hK:2097152≤K) (p:x_d) (n:x_bq) (s:Int) (h:NI p s n) (i:Int):Tot (s_Feed K p n s i) fun x=>Went p s n x:=by
 have cp:=x_fv hK n h.nsz
 have no:Tot ((x_ae K n).bind fun v=>some (v.1,false,())) fun x=>Went p s n x:=tv cp (tr ⟨fun _=>rfl,h⟩)
 have hs:=h.1
 have hl:=h.2.2.1
 have hlog:=h.2.1.2.2.1
 unfold s_Feed
 refine tb (x_ha hK p n s h.nsz.1) fun v1 g1=>tg g1 (fun _=>no) fun a1=>tn (fun _=>no) fun _=>ti (fun _=>no) fun _=>?_
 rw [w6 (n:=s-1) (by omega) (by omega)]
 refine tb (x_bk _ _ _) fun v2 g2=>tg g2 (fun _=>no) fun a2=>tv cp (t2_ (by omega) (?_))
 have hw:WI 16 (p,s,n,true):=a1.pi h.bok (Nat.le_refl 16)
 have tell:∀ r:TRpc,RpSz r→Tot ((x_e5 K (p,s,n,true) r).bind fun v=>bif !v.1.2.2.2 then (x_ae K n).bind fun v=>some (v.1,false,()) else some (v.1.2.2.1,true,())) fun x=>Went p s n x:=fun r hr=>
  tb (x_jm hK (by decide) _ hw r hr) fun v g=>tN (fun _=>no) fun _=>tr ⟨fun h=>bad' h,g.2.2.ni (by decide)⟩
 have hn:=(a1.2.2.2.2.2.2.2.2.1 (Int.toNat i) (by omega)).1
 have hla:=hlog.last
 have hb:=hlog.1
 refine ti (fun _=>tb (x_jf hK p _ h.2.1.2.2.2.2 (by decide)) fun v8 _=>tell _ EsSz.nil) fun _=>tb (t_From _ hlog.bd _ hlog.sz) fun v10 g10=>?_
 rw [w6 (n:=n.2.2.2.2.1.getD (Int.toNat i) 0-1) (by omega) (by omega)]
 refine ti (fun a=>tc (by omega) (tb (x_hz _ hlog.bd _) fun v11 _=>tell _ ⟨?_,fun x hx=>?_⟩)) fun _=>tb (x_hz _ hlog.bd _) fun v11 _=>tell _ g10
 ·show ((v10.1.take 40).drop 0).length<_
  rw [length_drop,length_take];omega
 ·have hx:x∈(v10.1.take 40).drop 0:=hx
  exact g10.2 x (List.mem_of_mem_take (List.mem_of_mem_drop hx))
variable {K N:Nat}
theorem t_Fall (d:x_pu) (h:d.1.length≤80000∧BOk d.1) (a:Int):Tot (s_Fall d a) fun x=>x.1.1.length≤80000∧BOk x.1.1:=by
 have hl:=h.1
 unfold s_Fall
 refine tb (x_qi d) fun v1 g1=>tg g1 (fun _=>tv (x_mz d (by omega)) (tr h)) fun k=>?_
 have hs:=k.2
 rw [w6 (n:=((d.1.length:Nat):Int)-d.2) (by omega) (by omega)]
 refine tb (x_ij _ _) fun v3 g3=>tb (x_ks _ _) fun v4 g4=>?_
 have hv:0≤v4.1∧v4.1≤(d.1.length:Int)-d.2:=by omega
 rw [w6 (n:=d.2+v4.1) (by omega) (by omega)]
 refine tc rfl (t2_ (by omega) ((tc (by show _≤70368744177664;rw [length_drop,length_take];simp only [length_nil];omega) (tr ⟨?_,fun x hx=>?_⟩))))
 ·show ([]++((d.1.take _).drop 0)).length≤80000
  rw [List.nil_append,length_drop,length_take];omega
 ·have hx:x∈[]++((d.1.take _).drop 0):=hx
  rw [List.nil_append] at hx
  exact h.2 x (List.mem_of_mem_take (List.mem_of_mem_drop hx))
theorem t_l7Cmd (hK:2097152≤K) {b:List Int} (hb:BSt b) (c:x_dt) (hc:C7 b c):Tot (x_v7 K c) fun r=>CSz r.1∧C7 b r.2.1∧Adv c r.2.1:=by
 unfold x_v7
 refine tb (x_cm hK hb _ hc) fun v1 g1=>tb (x_cm hK hb _ g1.2.1) fun v2 g2=>tb (x_cm hK hb _ g2.2.1) fun v3 g3=>tb (x_cm hK hb _ g3.2.1) fun v4 g4=>tb (x_cm hK hb _ g4.2.1) fun v5 g5=>tb (x_cm hK hb _ g5.2.1) fun v6 g6=>tb (x_j5 hK hb _ g6.2.1) fun v7 g7=>tb (x_j5 hK hb _ g7.2.1) fun v8 g8=>tr ⟨⟨g7.1,g8.1⟩,g8.2.1,?_⟩
 exact g1.2.2.trans (g2.2.2.trans (g3.2.2.trans (g4.2.2.trans (g5.2.2.trans (g6.2.2.trans (g7.2.2.trans g8.2.2))))))
theorem t_l9Read (hK:2097152≤K) {b:List Int} (hb:BSt b) (c:x_dt) (hc:C7 b c):Tot (x_du K c) fun r=>EsSz r.1.2.2.2.2.1:=by
 have hl:=hb.2
 unfold x_du x_du.b
 refine tb (x_cm hK hb _ hc) fun v1 g1=>tb (x_cm hK hb _ g1.2.1) fun v2 g2=>tb (x_cm hK hb _ g2.2.1) fun v3 g3=>tb (x_cm hK hb _ g3.2.1) fun v4 g4=>tb (x_cm hK hb _ g4.2.1) fun v5 g5=>?_
 have lf:=x_o0 (b:=b) (c:=v5.2.1)
 refine l1_ (L:=fun n (q:Int×(x_dt×Unit)×List x_c6)=>x_du.l0 K c n v5 q.1 q.2.1 v1 v2 v3 v4 q.2.2) (b:=fun L' q=>x_du.l0b K c (fun _ a b _ _ _ _ e=>L' (a,b,e)) v5 q.1 q.2.1 v1 v2 v3 v4 q.2.2)
  (fun _ _=>rfl) (fun m q=>(0≤q.1∧q.1≤2147483647)∧C7 b q.2.1.1∧left b q.2.1.1=m∧q.2.2.length+m≤b.length+1∧ ∀ e∈q.2.2,CSz e.2) (fun m q L' hi kk=>?_) (x:=(0,v5.2,[])) (m:=left b v5.2.1) (by omega) ⟨by show (0:Int)≤0∧(0:Int)≤2147483647;decide,g5.2.1,rfl,by show 0+_≤_;omega,fun a ha=>by simp at ha⟩
 obtain ⟨j,v,es⟩:=q
 obtain ⟨hj,hv,hm,hlen,hes⟩:=hi
 simp only at hj hv hm hlen hes
 unfold x_du.l0b
 simp only
 have fin:Tot ((x_fr K v.1).bind fun v9=>some (((v1.1,v2.1,i6 (v3.1-1),v4.1,es,v9.1):x_df),v9.2.1,())) fun r=>EsSz r.1.2.2.2.2.1:=tb (x_j5 hK hb _ hv) fun v9 _=>tr ⟨by show es.length<_;omega,hes⟩
 refine ti (fun a1=>tB (fun a2=>?_) fun _=>fin) fun _=>fin
 have h5:=g5.1
 rw [w6 (n:=j+1) (by omega) (by omega)]
 refine tb (x_cm hK hb _ hv) fun v6 g6=>tb (t_l7Cmd hK hb _ g6.2.1) fun v7 g7=>tc (by show _≤70368744177664;(try dsimp only);(try simp only [ll_]);omega) ?_
 have lt:=x_ng hv g7.2.1 (g6.2.2.trans g7.2.2) a2
 refine kk (left b v7.2.1) (j+1,v7.2,es++[(v6.1,v7.1)]) (by omega) ⟨⟨by show 0≤j+1;omega,by show j+1≤_;omega⟩,g7.2.1,rfl,by show (es++[_]).length+_≤_;simp;omega,fun g hg=>?_⟩
 have hg:g∈es++[_]:=hg
 rw [mem_append,mem_singleton] at hg
 rcases hg with hg | rfl
 ·exact hes g hg
 ·exact g7.1
theorem BOk.sub {l:List Int} (h:BOk l) (a b:Nat):BOk ((l.take a).drop b):=fun x hx=>h x (List.mem_of_mem_take (List.mem_of_mem_drop hx))
theorem t_NoteOf (hK:2097152≤K) (b:List Int) (hl:b.length≤80000) (hb:BOk b) (i:Int) (hi:0≤i∧i≤80000):Tot (x_q4 K b i) fun x=>x.2.2.1=true→NtOk x.1∧i<x.2.1∧x.2.1≤(b.length:Int):=by
 have no:Tot (some (((0,0,0,0,[],ByteArray.empty):x_df),(0:Int),false,())) fun x=>x.2.2.1=true→NtOk x.1∧i<x.2.1∧x.2.1≤(b.length:Int):=tr fun h=>bad h
 unfold x_q4
 refine tb (x_tt hK b hb (by omega) i (by omega)) fun v1 g1=>tN (fun _=>no) fun a=>?_
 have g:=g1.1 a
 rw [w6 (n:=((b.length:Nat):Int)-v1.2.1) (by omega) (by omega),w6 (n:=((b.length:Nat):Int)-v1.2.1-4) (by omega) (by omega),w6 (n:=v1.2.1+v1.1) (by omega) (by omega),w6 (n:=v1.2.1+v1.1+4) (by omega) (by omega)]
 refine ti (fun _=>no) fun a2=>tc rfl (t2_ (by omega) ((tc (by omega) (tb (t_l9Sum hK _ (by rw [length_drop,length_take];omega) (hb.sub _ _)) fun v2 _=>tc rfl (t2_ (by omega) ((tc (by omega) ?_)))))))
 refine tn (fun _=>no) fun _=>tb (t_l9Read hK (b:=(b.take (Int.toNat (v1.2.1+v1.1))).drop (Int.toNat v1.2.1)) ⟨hb.sub _ _,by rw [length_drop,length_take];omega⟩ _ ⟨rfl,Int.le_refl _,by show (0:Int)≤_;omega⟩) fun v3 g3=>tN (fun _=>no) fun _=>tn (fun _=>no) fun _=>tb (x_ol hK _ g3) fun v4 g4=>tg g4 (fun _=>no) fun a4=>tr fun _=>⟨a4,?_,?_⟩
 ·show i<v1.2.1+v1.1+4
  omega
 ·show v1.2.1+v1.1+4≤_
  omega
theorem t_Notes (hK:2097152≤K) (b:List Int) (hl:b.length≤80000) (hb:BOk b):Tot (x_e3 K b) fun x=>(∀ r∈x.1,NtOk r)∧x.1.length≤80000∧0≤x.2.1∧x.2.1≤(b.length:Int):=by
 unfold x_e3 x_e3.b
 refine l2_ (L:=x_e3.l0 K b) (fun _ _ _=>rfl) (fun m q x=>(0≤x∧x≤(b.length:Int))∧(m:Int)=b.length-x∧(q.length:Int)≤x∧ ∀ r∈q,NtOk r) (fun m q x L' hi kk=>?_) (m:=b.length) (by omega) ⟨by omega,by omega,by show ((0:Nat):Int)≤0;decide,fun r hr=>by simp at hr⟩
 obtain ⟨h1,h2,h3,h4⟩:=hi
 unfold x_e3.l0b
 have fin:Tot (some (q,x,())) fun x=>(∀ r∈x.1,NtOk r)∧x.1.length≤80000∧0≤x.2.1∧x.2.1≤(b.length:Int):=tr ⟨h4,by show q.length≤_;omega,h1⟩
 refine ti (fun a=>tb (t_NoteOf hK b hl hb x (by omega)) fun v1 g1=>tN (fun _=>fin) fun a1=>?_) fun _=>fin
 have g:=g1 a1
 refine tc (by show _≤70368744177664;(try dsimp only);(try simp only [ll_]);omega) (kk ((b.length:Int)-v1.2.1).toNat _ _ (by omega) ⟨by omega,by omega,by rw [length_append,length_singleton];push_cast;omega,fun r hr=>?_⟩)
 rw [mem_append,mem_singleton] at hr
 rcases hr with hr | rfl
 ·exact h4 r hr
 ·exact g.1
theorem NtOk.es {r:x_df} (h:NtOk r):EsSz r.2.2.2.2.1:=h.2.2.1.sz
theorem t_HardOf (hK:2097152≤K) (p:x_d) (hp:SOk p) (b:List Int) (hl:b.length≤80000) (hb:BOk b):Tot (x_d5 K p b) fun x=>HOk p x.1:=by
 unfold x_d5 x_d5.b
 refine tb (x_mw hK p hp) fun v1 g1=>tb (t_Notes hK b hl hb) fun v2 g2=>?_
 refine l3_ (L:=x_d5.l0 K p b) (fun _ _ _ _=>rfl) (fun m v x h=>v=v2∧HOk p h.1∧ ∃ i:Nat,x=i∧i+m=v2.1.length) (fun m v x h L' hi kk=>?_) (m:=v2.1.length) (by omega) ⟨rfl,g1.1,0,rfl,by omega⟩
 obtain ⟨rfl,hh,i,rfl,hm⟩:=hi
 unfold x_d5.l0b
 refine ti (fun a=>?_) fun _=>tr hh
 rw [wi (i:=i) (by omega),tz]
 refine tc (by omega) (tc a (tb (x_tq hK p _ hh.sz _ (g2.1 _ (x_ad (by omega))).es) fun v3 g3=>kk (m-1) _ _ _ (by omega) ⟨rfl,?_,i+1,by push_cast;rfl,by omega⟩))
 rcases g3 with g3 | g3
 ·rw [g3];exact hh
 ·exact g3.2.1
theorem t_Rise (hK:2097152≤K) (p:x_d) (n:x_bq) (s:Int) (h:NI p s n):Tot (s_Rise K p n s) fun x=>NI p s x.1:=by
 have cp:=x_fv hK n h.nsz
 have no:Tot ((x_ae K n).bind fun v=>some (v.1,())) fun x=>NI p s x.1:=tv cp (tr h)
 have hs:=h.1
 have hd:=h.2.2.2.2.2.1
 have hd1:=hd.1
 unfold s_Rise
 refine tb (x_ha hK p n s h.nsz.1) fun v1 g1=>tg g1 (fun _=>no) fun a1=>tb (t_Notes hK _ hd.1 hd.2) fun v3 g3=>tb (t_HardOf hK p h.2.2.2.2.1.1 _ hd.1 hd.2) fun v4 g4=>?_
 have g3':=g3.2.2
 refine tc rfl (tc (by omega) (tc (by show _≤70368744177664;(try dsimp only);(try simp only [ll_]);omega) (tb (x_q9 hK _ _ (by omega)) fun v5 g5=>tc rfl (tc (by omega) (tc (by show _≤70368744177664;(try dsimp only);(try simp only [ll_]);omega) (tv (x_l2 hK _ g4.sz.2.2) (tc rfl (t2_ (by omega) ((tc (by show _≤70368744177664;rw [length_drop,length_take];simp only [length_nil];omega) ?_))))))))))
 refine tb (x_ha hK p _ s ⟨g4.sz,g4.sz.2.2,by show (0:Nat)<_;decide,fun r hr=>by simp at hr⟩) fun v7 g7=>tg g7 (fun _=>no) fun a7=>tr ((a7.pi ?_ (Nat.le_refl 16)).ni (by decide))
 show BOk ([]++((n.2.2.2.2.2.2.2.2.1.1.take _).drop 0))
 rw [List.nil_append]
 exact hd.2.sub _ _
theorem x_zp (hK:2097152≤K) (p:x_d) (h:x_dh) (hh:HW p h):Tot (x_aw K h) fun x=>BOk x.1:=by
 have hlog:=hh.2.2.1
 have hla:=hlog.last
 have hb:=hlog.1
 have hlen:=hlog.2.2.1
 have hsz:=hlog.sz
 have j:∀ q:List Int,q.length≤68800→BOk q→Tot (x_aw.j0 K (x_aw.l0 K h K) q h) fun x=>BOk x.1:=fun q hq hbq=>by
  unfold x_aw.j0
  refine l3_ (L:=x_aw.l0 K h) (fun _ _ _ _=>rfl) (fun m q t x=> ∃ i:Nat,x=40*(i:Int)∧i+m=10∧q.length≤68800+34400*i∧BOk q) (fun m q t x L' hi kk=>?_) (m:=10) (by omega) ⟨0,rfl,rfl,hq,hbq⟩
  obtain ⟨i,rfl,hm,hq,hbq⟩:=hi
  unfold x_aw.l0b
  refine ti (fun a=>?_) fun _=>tr hbq
  rw [w6 (n:=40*(i:Int)+40) (by omega) (by omega),w6 (n:=h.2.2.1.1+40*(i:Int)) (by omega) (by omega)]
  refine tb (x_ij _ _) fun v5 g5=>?_
  have hv:40*(i:Int)<v5.1∧v5.1≤(h.2.2.1.2.2.length:Int):=by omega
  rw [w6 (n:=v5.1-1) (by omega) (by omega)]
  refine tc rfl (t2_ (by omega) ((tc (by omega) (tb (x_hu hK _ ⟨?_,fun x hx=>?_⟩) fun v6 g6=>?_))))
  ·show ((h.2.2.1.2.2.take _).drop _).length<_
   rw [length_drop,length_take];omega
  ·have hx:x∈(h.2.2.1.2.2.take _).drop _:=hx
   exact hsz.2 x (List.mem_of_mem_take (List.mem_of_mem_drop hx))
  ·have g6l:=g6.2.2.2
   exact tc (by show _≤70368744177664;(try dsimp only);(try simp only [ll_]);omega) (t2_ (by omega) ((kk (m-1) _ _ _ (by omega) ⟨i+1,by push_cast;omega,by omega,by rw [length_append];omega,hbq.app g6.2.2.1⟩)))
 unfold x_aw x_aw.b
 refine tb (x_hu hK _ EsSz.nil) fun v1 g1=>?_
 have g1l:=g1.2.2.2
 refine ti (fun _=>tb (x_jf hK p _ hh.2.2.2.2 (by decide)) fun v2 _=>tb (x_hu hK _ EsSz.nil) fun v3 g3=>?_) fun _=>j _ (by omega) g1.2.2.1
 have g3l:=g3.2.2.2
 exact tc (by show _≤70368744177664;(try dsimp only);(try simp only [ll_]);omega) (j _ (by rw [length_append];omega) (g1.2.2.1.app g3.2.2.1))
variable {K N:Nat}
def GI (w:x_u):Prop:=SOk w.1∧(1≤w.2.1∧w.2.1≤5)∧(w.2.2.1.length:Int)=w.2.1∧(∀ n∈w.2.2.1,NI w.1 w.2.1 n)∧(w.2.2.2.1.length≤40∧ ∀ r∈w.2.2.2.1,RpOk r w.2.1)∧(w.2.2.2.2.1.length=4∧ ∀ c∈w.2.2.2.2.1,CSz c)∧w.2.2.2.2.2.1.length=4∧(w.2.2.2.2.2.2.1.length≤300∧ ∀ h∈w.2.2.2.2.2.2.1,ASz h.2.2.1)∧w.2.2.2.2.2.2.2.length≤300∧ ∀ c∈w.2.2.2.2.2.2.2,CSz c
theorem GI.wsz {w:x_u} (h:GI w):WSz w:=by
 obtain ⟨h1,h2,h3,h4,h5,h6,h7,h8,h9⟩:=h
 exact ⟨by omega,fun n hn=>(h4 n hn).nsz,by omega,fun r hr=>(h5.2 r hr).sz,by omega,by omega,by have:=h8.1;omega,by have:=h9.1;omega⟩
theorem x_ma {α : Type} {l:List α} {i:Nat} {x y : α} (h:y∈l.set i x):y∈l∨y=x:=List.mem_or_eq_of_mem_set h
theorem GI.nodes {w:x_u} (h:GI w) (i:Nat) {n:x_bq} (hn:NI w.1 w.2.1 n):GI (w.1,w.2.1,w.2.2.1.set i n,w.2.2.2.1,w.2.2.2.2.1,w.2.2.2.2.2.1,w.2.2.2.2.2.2.1,w.2.2.2.2.2.2.2):=by
 obtain ⟨h1,h2,h3,h4,h5⟩:=h
 refine ⟨h1,h2,?_,fun m hm=>?_,h5⟩
 ·show ((w.2.2.1.set i n).length:Int)=_
  rw [length_set];exact h3
 ·rcases x_ma hm with hm | rfl
  ·exact h4 m hm
  ·exact hn
theorem GI.net {w:x_u} (h:GI w) {l:List TRpc} (hl:l.length≤40∧ ∀ r∈l,RpOk r w.2.1):GI (w.1,w.2.1,w.2.2.1,l,w.2.2.2.2.1,w.2.2.2.2.2.1,w.2.2.2.2.2.2.1,w.2.2.2.2.2.2.2):=
 ⟨h.1,h.2.1,h.2.2.1,h.2.2.2.1,hl,h.2.2.2.2.2⟩
theorem GI.said {w:x_u} (h:GI w) (i j:Nat) {c:TCmd} (hc:CSz c) (x:Int):GI (w.1,w.2.1,w.2.2.1,w.2.2.2.1,w.2.2.2.2.1.set i c,w.2.2.2.2.2.1.set j x,w.2.2.2.2.2.2.1,w.2.2.2.2.2.2.2):=by
 obtain ⟨h1,h2,h3,h4,h5,h6,h7,h8⟩:=h
 refine ⟨h1,h2,h3,h4,h5,⟨?_,fun m hm=>?_⟩,?_,h8⟩
 ·show (w.2.2.2.2.1.set i c).length=4
  rw [length_set];exact h6.1
 ·rcases x_ma hm with hm | rfl
  ·exact h6.2 m hm
  ·exact hc
 ·show (w.2.2.2.2.2.1.set j x).length=4
  rw [length_set];exact h7
theorem GI.at {w:x_u} (h:GI w) {i:Nat} (hi:(i:Int)<w.2.1):NI w.1 w.2.1 (w.2.2.1.getD i x_bx):=h.2.2.2.1 _ (x_ad (by have:=h.2.2.1;omega))
theorem t_l15Net (hK:2097152≤K) (w:x_u) (h:GI w) (d:x_kc):Tot (x_q6 K w d) fun x=>GI x.1:=by
 have hn:=h.2.2.2.2.1
 have hs:=h.2.2.1
 have hn1:=hn.1
 unfold x_q6
 rw [w6 (n:=((w.2.2.2.1.length:Nat):Int)-1) (by omega) (by omega)]
 refine tb (x_bk _ _ _) fun v1 g1=>tg g1 (fun _=>tr h) fun a1=>t2_ (by omega) (?_)
 have hr:=hn.2 _ (x_ad (z:=zRpc) (show Int.toNat d.2.1<w.2.2.2.1.length by omega))
 refine ti (fun _=>ti (fun _=>tr h) fun a2=>tv (x_tn _ hr.sz.1) (tc (by show _≤70368744177664;(try dsimp only);(try simp only [ll_]);omega) (tr (h.net ⟨?_,fun r hm=>?_⟩)))) fun _=>?_
 ·rw [length_append,length_singleton];omega
 ·rw [mem_append,mem_singleton] at hm
  rcases hm with hm | rfl
  ·exact hn.2 r hm
  ·exact hr
 ·rw [w6 (n:=d.2.1+1) (by omega) (by omega)]
  have e1:([]++((w.2.2.2.1.take (Int.toNat d.2.1)).drop 0):List TRpc)=w.2.2.2.1.take (Int.toNat d.2.1):=by rw [List.nil_append,List.drop_zero]
  have hcut:GI (w.1,w.2.1,w.2.2.1,([]++((w.2.2.2.1.take (Int.toNat d.2.1)).drop 0))++((w.2.2.2.1.take (Int.toNat ((w.2.2.2.1.length:Nat):Int))).drop (Int.toNat (d.2.1+1))),w.2.2.2.2.1,w.2.2.2.2.2.1,w.2.2.2.2.2.2.1,w.2.2.2.2.2.2.2):=h.net ⟨by rw [e1,length_append,length_take,length_drop,length_take];omega,fun r hm=>by
   rw [e1,mem_append] at hm
   rcases hm with hm | hm
   ·exact hn.2 r (List.mem_of_mem_take hm)
   ·exact hn.2 r (List.mem_of_mem_take (List.mem_of_mem_drop hm))⟩
  refine tc rfl (t2_ (by omega) ((tc (by show _≤70368744177664;rw [length_drop,length_take];simp only [length_nil];omega) (tc rfl (t2_ (by omega) ((tc (Int.le_refl _) (tc (by show _≤70368744177664;rw [e1,length_take,length_drop,length_take];omega) ?_))))))))
  refine ti (fun _=>?_) fun _=>tr hcut
  have ht:=hr.2.2.2.1
  refine t2_ (by omega) ((tb (t_Hear hK _ _ _ (h.at (by omega)) _ hr.sz) fun v3 g3=>tB (fun _=>t2_ (by omega) ((tr (hcut.nodes _ g3.2)))) fun _=>tr hcut))
theorem t_Told (hK:2097152≤K) (w:x_u) (h:w.2.2.2.2.2.2.1.length≤300) (a b:Int):Tot (x_hc K w a b) fun _=>True:=by
 unfold x_hc x_hc.b
 refine l1_ (L:=x_hc.l0 K w a b) (fun _ _=>rfl) (fun m x=> ∃ i:Nat,x=i∧i+m=w.2.2.2.2.2.2.1.length) (fun m x L' hi k=>?_) (m:=w.2.2.2.2.2.2.1.length) (by omega) ⟨0,rfl,by omega⟩
 obtain ⟨i,rfl,hi⟩:=hi
 unfold x_hc.l0b
 refine ti (fun h1=>?_) fun _=>tr trivial
 rw [wi (i:=i) (by omega)]
 have go:=k (m-1) ((i:Int)+1) (by omega) ⟨i+1,by push_cast;rfl,by omega⟩
 exact tc (by omega) (tc h1 (ti (fun _=>tc (by omega) (tc h1 (ti (fun _=>tr trivial) fun _=>go))) fun _=>go))
theorem t_l15Tell (hK:2097152≤K) (w:x_u) (h:GI w) (d:x_kc) (ha:0≤d.2.1∧d.2.1≤w.2.1-1) (hb:0≤d.2.2.1∧d.2.2.1≤3):Tot (x_na K w d) fun x=>GI x.1:=by
 have hs:=h.2.2.1
 have h4:=h.2.2.2.2.2.1.1
 have hf:=h.2.2.2.2.2.2.1
 have hh:=h.2.2.2.2.2.2.2.1.1
 have hn:=(h.at (i:=Int.toNat d.2.1) (by omega)).2.2.2.2.1
 have hd:=hn.2.2.2.1
 have hl:=hn.2.2.2.2.1
 unfold x_na
 refine t2_ (by omega) ((t2_ (by omega) ((ti (fun _=>tr h) fun _=>tb (t_Told hK w hh _ _) fun v1 _=>tB (fun _=>tr h) fun _=>t2_ (by omega) ((ti (fun _=>tr h) fun _=>ti (fun _=>tr h) fun _=>t2_ (by omega) ((t2_ (by omega) ((tc (by show _≤70368744177664;(try dsimp only);(try simp only [ll_]);omega) (tr ?_)))))))))))
 obtain ⟨h1,h2,h3,h4,h5,h6,h7,h8,h9⟩:=h
 refine ⟨h1,h2,h3,h4,h5,h6,h7,⟨?_,fun y hy=>?_⟩,h9⟩
 ·show (w.2.2.2.2.2.2.1++[_]).length≤300
  rw [length_append,length_singleton];omega
 ·have hy:y∈w.2.2.2.2.2.2.1++[_]:=hy
  rw [mem_append,mem_singleton] at hy
  rcases hy with hy | rfl
  ·exact h8.2 y hy
  ·exact (hn.2.2.2.2.2.2.2.2.2 _ (by omega)).sz
theorem t_l15Say (hK:2097152≤K) (w:x_u) (h:GI w) (d:x_kc) (hc:CSz d.2.2.2) (ha:0≤d.2.1∧d.2.1≤w.2.1-1) (hb:0≤d.2.2.1∧d.2.2.1≤3):Tot (x_ia K w d) fun x=>GI x.1:=by
 have hs:=h.2.2.1
 have h4:=h.2.2.2.2.2.1
 have h41:=h4.1
 have hf:=h.2.2.2.2.2.2.1
 have hh:=h.2.2.2.2.2.2.2.1.1
 have hn:=h.at (i:=Int.toNat d.2.1) (by omega)
 have put:∀ c:TCmd,CSz c→Tot ((x_ji K w.1 (w.2.2.1.getD (Int.toNat d.2.1) x_bx) w.2.1 c).bind fun v2=>
   bif !v2.2.1 then some (w,(3:Int),())
   else bif decide (c.2.1=0) then some (w,3,())
   else bif decide ((0:Int)≤d.2.1) then bif decide (d.2.1<((w.2.2.1.length:Nat):Int)) then bif decide (d.1=7) then bif decide ((0:Int)≤d.2.2.1) then bif decide (d.2.2.1<((w.2.2.2.2.1.length:Nat):Int)) then bif decide ((0:Int)≤d.2.2.1) then bif decide (d.2.2.1<((w.2.2.2.2.2.1.length:Nat):Int)) then some ((w.1,w.2.1,w.2.2.1.set (Int.toNat d.2.1) v2.1,w.2.2.2.1,w.2.2.2.2.1.set (Int.toNat d.2.2.1) c,w.2.2.2.2.2.1.set (Int.toNat d.2.2.1) ((w.2.2.2.2.2.2.2.length:Nat):Int),w.2.2.2.2.2.2.1,w.2.2.2.2.2.2.2),0,())
    else none
    else none
    else none
    else none
   else some ((w.1,w.2.1,w.2.2.1.set (Int.toNat d.2.1) v2.1,w.2.2.2.1,w.2.2.2.2.1,w.2.2.2.2.2.1,w.2.2.2.2.2.2.1,w.2.2.2.2.2.2.2),0,())
   else none
   else none) fun x=>GI x.1:=fun c hc=>
  tb (t_Propose hK _ _ _ hn c hc) fun v2 g2=>tN (fun _=>tr h) fun _=>ti (fun _=>tr h) fun _=>t2_ (by omega) ((ti (fun _=>t2_ (by omega) ((t2_ (by omega) ((tr ((h.nodes _ g2.2).said _ _ hc _)))))) fun _=>tr (h.nodes _ g2.2)))
 have hsd:=h4.2 _ (x_ad (z:=zCmd) (show Int.toNat d.2.2.1<w.2.2.2.2.1.length by omega))
 have j:Tot (x_ia.j0 K d w) fun x=>GI x.1:=by
  unfold x_ia.j0
  refine t2_ (by omega) ((put _ ?_))
  exact hc
 unfold x_ia
 refine t2_ (by omega) ((ti (fun _=>ti (fun _=>tb (t_Told hK w hh _ _) fun v1 _=>tN (fun _=>tr h) fun _=>j) fun _=>j) fun _=>t2_ (by omega) ((put _ hsd))))
theorem x_z3 (w:x_u) (h:GI w) (n:x_bq) (hn:NI w.1 w.2.1 n) (b:Bool):Tot (x_no w n b) fun x=>GI x.1:=by
 have hs:=h.2.2.1
 have h1:=hn.1
 unfold x_no
 exact tN (fun _=>tr h) fun _=>t2_ (by omega) ((tr (h.nodes _ hn)))
theorem t_l15Sure (hK:2097152≤K) (w:x_u) (h:GI w) (a:Int) (ha:0≤a∧a≤w.2.1-1):Tot (x_mp K w a) fun x=>GI x.1:=by
 have hs:=h.2.2.1
 have hn:=h.2.2.2.2.1
 have hn1:=hn.1
 unfold x_mp
 rw [w6 (n:=40-((w.2.2.2.1.length:Nat):Int)) (by omega) (by omega)]
 refine t2_ (by omega) ((tb (t_SureNow hK _ _ _ (h.at (by omega))) fun v1 g1=>ti (fun _=>tr h) fun b=>t2_ (by omega) ((tc (by show _≤70368744177664;(try dsimp only);(try simp only [ll_]);omega) (tr ((h.nodes _ g1.1).net ⟨?_,fun r hr=>?_⟩))))))
 ·rw [length_append];omega
 ·rw [mem_append] at hr
  rcases hr with hr | hr
  ·exact hn.2 r hr
  ·exact g1.2.2 r hr
theorem t_l15Cut (hK:2097152≤K) (w:x_u) (h:GI w) (a:Int) (ha:0≤a∧a≤w.2.1-1):Tot (x_lq K w a) fun x=>GI x.1:=by
 have hs:=h.2.2.1
 have hn:=h.at (i:=Int.toNat a) (by omega)
 unfold x_lq
 refine t2_ (by omega) ((tn (fun _=>tr h) fun _=>ti (fun _=>tr h) fun _=>?_))
 obtain ⟨h1,h2,h3,h4,h5,h6,h7⟩:=hn
 have hlog:=x_m4 h2.2.2.1 (w.2.2.1.getD (Int.toNat a) x_bx).2.2.2.2.2.2.1
 have hw:HW w.1 ((w.2.2.1.getD (Int.toNat a) x_bx).2.1.1,(w.2.2.1.getD (Int.toNat a) x_bx).2.1.2.1,x_hd (w.2.2.1.getD (Int.toNat a) x_bx).2.1.2.2.1 (w.2.2.1.getD (Int.toNat a) x_bx).2.2.2.2.2.2.1,(w.2.2.1.getD (Int.toNat a) x_bx).2.2.2.2.2.2.2.1):=⟨h2.1,h2.2.1,hlog.1,by rw [show ∀ a b c d,((a,b,c,d):x_dh).2.2.1=c from fun _ _ _ _=>rfl,hlog.2.2];exact h2.2.2.2.1,h5⟩
 refine tv (x_re _ h2.2.2.1.bd _) (tv (x_l2 hK _ (h5.sz (by decide))) (tb (x_zp hK _ _ hw) fun v3 g3=>ti (fun _=>tr h) fun b=>t2_ (by omega) ((tr (h.nodes _ ⟨h1,hw,h3,⟨?_,h4.2⟩,h5,⟨by show v3.1.length≤80000;omega,g3⟩,h7⟩)))))
 show (x_hd _ _).1≤_
 unfold x_hd
 split
 ·exact Int.le_refl _
 ·exact h4.1
theorem x_x4 (hK:2097152≤K) (w:x_u) (h:GI w) (d:x_kc) (ha:0≤d.2.1∧d.2.1≤w.2.1-1):Tot (x_np K w d) fun x=>GI x.1:=by
 have hs:=h.2.2.1
 have hsz:=h.2.1
 have hn:=h.at (i:=Int.toNat d.2.1) (by omega)
 unfold x_np
 rw [w6 (n:=w.2.1-1) (by omega) (by omega)]
 refine t2_ (by omega) ((ti (fun _=>?_) fun _=>ti (fun _=>?_) fun _=>ti (fun _=>?_) fun _=>ti (fun _=>?_) fun _=>?_))
 ·exact tb (t_Ask hK _ _ _ hn) fun v1 g1=>tb (x_z3 w h _ g1.2 _) fun v2 g2=>tr g2
 ·exact tb (x_bk _ _ _) fun v3 g3=>tg g3 (fun _=>tr h) fun _=>tb (t_Feed hK _ _ _ hn _) fun v1 g1=>tb (x_z3 w h _ g1.2 _) fun v2 g2=>tr g2
 ·exact tb (t_l15Sure hK w h _ ha) fun v g=>tr g
 ·refine tb (t_Fall _ hn.2.2.2.2.2.1 _) fun v7 g7=>?_
  obtain ⟨h1,h2,h3,h4,h5,h6,h7⟩:=hn
  exact tb (t_Rise hK _ _ _ ⟨h1,h2,h3,h4,h5,g7,h7⟩) fun v8 g8=>t2_ (by omega) ((tr (h.nodes _ g8)))
 ·exact tb (t_l15Cut hK w h _ ha) fun v g=>tr g
theorem t_l15Do (hK:2097152≤K) (w:x_u) (h:GI w) (d:x_kc) (hc:CSz d.2.2.2):Tot (x_fm K w d) fun x=>GI x.1:=by
 have hsz:=h.2.1
 have j1:∀ b:Bool,(d.1=11→b=true)→Tot (x_fm.j1 K d w b) fun x=>GI x.1:=fun b hb=>by
  unfold x_fm.j1
  rw [w6 (n:=w.2.1-1) (by omega) (by omega)]
  refine tb (x_bk _ _ _) fun v4 g4=>tg g4 (fun _=>tr h) fun a4=>tB (fun e=>tb (x_bk _ _ _) fun v5 g5=>tg g5 (fun _=>tr h) fun a5=>?_) fun e=>?_
  ·unfold x_fm.j0
   exact ti (fun _=>tb (t_l15Tell hK w h d a4 a5) fun v g=>tr g) fun _=>tB (fun _=>tb (t_l15Say hK w h d hc a4 a5) fun v g=>tr g) fun _=>tb (x_x4 hK w h d a4) fun v g=>tr g
  ·unfold x_fm.j0
   exact ti (fun k=>by rw [hb k] at e;exact bad' e) fun _=>tB (fun k=>by rw [k] at e;exact bad' e) fun _=>tb (x_x4 hK w h d a4) fun v g=>tr g
 unfold x_fm
 exact tb (x_bk _ _ _) fun v1 _=>tB (fun _=>tb (t_l15Net hK w h d) fun v g=>tr g) fun _=>ti (fun _=>j1 _ fun _=>rfl) fun _=>ti (fun _=>j1 _ fun _=>rfl) fun _=>j1 _ fun e=>decide_eq_true e
theorem t_l15Note (hK:2097152≤K) (w:x_u) (h:GI w):Tot (x_ap K w) fun x=>GI x.1:=by
 have hs:=h.2.2.1
 have hsz:=h.2.1
 unfold x_ap x_ap.b
 refine l2_ (L:=x_ap.l0 K w) (b:=fun L'=>x_ap.l0b K w (x_ap.l1 K w L' K)) (fun _ _ _=>rfl) (fun m x q=>(∃ i:Nat,x=i∧(i:Int)+m=w.2.1)∧q.length≤300∧ ∀ c∈q,CSz c) (fun m x q L' hi kk=>?_) (m:=(w.2.1).toNat) (by omega) ⟨⟨0,rfl,by omega⟩,h.2.2.2.2.2.2.2.2⟩
 obtain ⟨⟨i,rfl,hm⟩,hq,hqs⟩:=hi
 unfold x_ap.l0b
 refine ti (fun a=>t2_ (by omega) (?_)) fun a=>?_
 ·have hn:=h.at (i:=i) (by omega)
  have hlog:=hn.2.1.2.2.1
  have hb:=hlog.1
  have hc:=hn.2.2.2.1
  have hll:=hlog.2.2.1
  refine l2_ (L:=x_ap.l1 K w L') (fun _ _ _=>rfl) (fun d x q=>x=(i:Int)∧q.length+d=300∧ ∀ c∈q,CSz c) (fun d x q L1 hj k1=>?_) (m:=300-q.length) (by omega) ⟨rfl,by omega,hqs⟩
  obtain ⟨rfl,hd,hqs⟩:=hj
  unfold x_ap.l1b
  rw [tz,wi (i:=i) (by omega),w6 (n:=((q.length:Nat):Int)-(w.2.2.1.getD i x_bx).2.1.2.2.1.1) (by omega) (by omega)]
  have go:=kk (m-1) ((i:Int)+1) q (by omega) ⟨⟨i+1,by push_cast;rfl,by omega⟩,by omega,hqs⟩
  refine ti (fun b=>ti (fun _=>go) fun _=>ti (fun _=>go) fun _=>t2_ (by omega) ((tc (by show _≤70368744177664;(try dsimp only);(try simp only [ll_]);omega) (k1 (d-1) _ _ (by omega) ⟨rfl,by rw [length_append,length_singleton];omega,fun y hy=>?_⟩)))) fun _=>go
  rw [mem_append,mem_singleton] at hy
  rcases hy with hy | rfl
  ·exact hqs y hy
  ·exact (hlog.2.2.2 _ (by omega)).2.sz
 ·obtain ⟨h1,h2,h3,h4,h5,h6,h7,h8,h9⟩:=h
  exact tr ⟨h1,h2,h3,h4,h5,h6,h7,h8,hq,hqs⟩
theorem t_l15Then (hK:2097152≤K) (w:x_u) (h:GI w) (d:x_kc) (hc:CSz d.2.2.2):Tot (x_i8 K w d) fun x=>GI x.1:=by
 unfold x_i8
 exact tb (t_l15Do hK w h d hc) fun v1 g1=>ti (fun _=>tb (t_l15Note hK _ g1) fun v2 g2=>tr g2) fun _=>tr g1
variable {K N:Nat}
theorem x_g1 {c:x_6} (h:x_c9 c):Tot (x_eq c) fun r=>SOk r.1∧x_c9 r.2.1:=by
 unfold x_eq
 refine tb (x_af h 3 (by decide)) fun v1 g1=>tb (x_ax g1.2.2 _ (by decide)) fun v2 g2=>tb (x_ax g2.2 _ (by decide)) fun v3 g3=>tb (x_ax g3.2 _ (by decide)) fun v4 g4=>tr ⟨?_,g4.2⟩
 have e2:=g2.1
 have e3:=g3.1
 have e4:=g4.1
 simp only [mem_cons,List.not_mem_nil,or_false] at e2 e3 e4
 rw [w6 (n:=1+v1.1) (by omega) (by omega)]
 exact ⟨⟨by show 1≤1+v1.1;omega,by show 1+v1.1≤4;omega⟩,⟨by show 1≤v2.1;omega,by show v2.1≤5;omega⟩,⟨by show 1≤v3.1;omega,by show v3.1≤8;omega⟩,⟨by show 0≤v4.1;omega,by show v4.1≤60;omega⟩⟩
theorem x_zm {α : Type} {n i:Nat} {x z : α} (h:i<n):(List.replicate n x).getD i z=x:=by
 rw [x_az (by rw [length_replicate];exact h),List.getElem_replicate]
theorem t_PeerNew (hK:2097152≤K) (p:x_d) (hp:SOk p) (i s:Int) (hs:1≤s∧s≤5) (hi:0≤i∧i≤s-1):Tot (x_m9 K p i s) fun x=>x.2.1=true∧NI p s x.1:=by
 unfold x_m9
 refine tb (x_f5 p) fun v1 g1=>tg g1 (fun a=>absurd hp a) fun _=>tb (x_bk _ _ _) fun v2 g2=>tg g2 (fun a=>absurd hs a) fun _=>tb (x_mw hK p hp) fun v3 g3=>?_
 refine tc rfl (tc (by omega) (tc (by show _≤70368744177664;(try dsimp only);(try simp only [ll_]);omega) (tv (x_q9 hK _ _ (by omega)) (tc rfl (tc (by omega) (tc (by show _≤70368744177664;(try dsimp only);(try simp only [ll_]);omega) (tb (x_mq hK p hp) fun v5 g5=>?_)))))))
 obtain ⟨g3,k,hk,e⟩:=g3
 have ok:POk p (i,v3.1,0,List.replicate (Int.toNat s) false,List.replicate s.toNat 1,List.replicate (Int.toNat s) 0,0,v5.1,([],0),[]) s:=by
  refine ⟨hs,hi,g3,?_,by show (0:Int)≤0∧(0:Int)≤2;decide,?_,?_,?_,fun j hj=>?_,fun j hj=>absurd hj (Nat.not_lt_zero _),?_,g5.1,?_,Nat.zero_le _⟩
  ·show v3.1.2.1<s
   rw [e];show (-1:Int)<s;omega
  ·show (((List.replicate (Int.toNat s) false).length:Nat):Int)=s
   rw [length_replicate];omega
  ·show (((List.replicate (Int.toNat s) (1:Int)).length:Nat):Int)=s
   rw [length_replicate];omega
  ·show (((List.replicate (Int.toNat s) (0:Int)).length:Nat):Int)=s
   rw [length_replicate];omega
  ·show (1≤(List.replicate s.toNat (1:Int)).getD j 0∧(List.replicate s.toNat (1:Int)).getD j 0≤x_fb v3.1.2.2.1+1)∧(0≤(List.replicate (Int.toNat s) (0:Int)).getD j 0∧(List.replicate (Int.toNat s) (0:Int)).getD j 0≤x_fb v3.1.2.2.1)
   rw [x_zm hj,x_zm hj,e]
   show (1≤(1:Int)∧(1:Int)≤0+((0:Nat):Int)+1)∧(0≤(0:Int)∧(0:Int)≤0+((0:Nat):Int))
   decide
  ·show v3.1.2.2.1.1≤0∧0≤x_fb v3.1.2.2.1
   rw [e]
   show (0:Int)≤0∧(0:Int)≤0+((0:Nat):Int)
   decide
  ·show (0:Nat)≤80000∧(0:Int)≤0∧(0:Int)≤((0:Nat):Int)
   decide
 refine tb (x_ha hK p _ s ok.sz) fun v6 g6=>tg g6 (fun a=>absurd ok a) fun _=>tr ⟨rfl,(ok.pi (fun x hx=>by simp at hx) (Nat.le_refl 16)).ni (by decide)⟩
theorem zc:CSz (0,0,0,0,0,0,ByteArray.empty,ByteArray.empty):=⟨by show ByteArray.empty.size<_;decide,by show ByteArray.empty.size<_;decide⟩
theorem x_yp (hK:2097152≤K) (p:x_d) (hp:SOk p) (s:Int) (hs:1≤s∧s≤5):Tot (x_b8 K p s) fun x=>x.2.1=true∧GI x.1:=by
 unfold x_b8 x_b8.b
 refine tb (x_f5 p) fun v1 g1=>tg g1 (fun a=>absurd hp a) fun _=>tb (x_bk _ _ _) fun v2 g2=>tg g2 (fun a=>absurd hs a) fun _=>?_
 refine l2_ (L:=x_b8.l0 K p s) (fun _ _ _=>rfl) (fun m x q=>(∃ i:Nat,x=i∧(i:Int)+m=s∧q.length=i)∧ ∀ n∈q,NI p s n) (fun m x q L' hi kk=>?_) (m:=s.toNat) (by omega) ⟨⟨0,rfl,by omega,rfl⟩,fun n hn=>by simp at hn⟩
 obtain ⟨⟨i,rfl,hm,hl⟩,hq⟩:=hi
 unfold x_b8.l0b
 refine ti (fun a=>tb (t_PeerNew hK p hp i s hs (by omega)) fun v3 g3=>tN (fun e=>by rw [g3.1] at e;exact bad' e) fun _=>?_) fun a=>tr ⟨rfl,hp,hs,?_,hq,⟨Nat.zero_le _,fun r hr=>by simp at hr⟩,⟨length_replicate,fun c hc=>?_⟩,length_replicate,⟨Nat.zero_le _,fun y hy=>by simp at hy⟩,Nat.zero_le _,fun y hy=>by simp at hy⟩
 ·rw [wi (i:=i) (by omega)]
  refine tc (by show _≤70368744177664;(try dsimp only);(try simp only [ll_]);omega) (kk (m-1) _ _ (by omega) ⟨⟨i+1,by push_cast;rfl,by omega,by rw [length_append,length_singleton,hl]⟩,fun n hn=>?_⟩)
  rw [mem_append,mem_singleton] at hn
  rcases hn with hn | rfl
  ·exact hq n hn
  ·exact g3.2
 ·show (q.length:Int)=s
  omega
 ·rw [List.eq_of_mem_replicate hc];exact zc
theorem x_l7 (hK:2097152≤K) {c:x_6} (h:x_c9 c) (w:x_u) (hs:w.2.2.1.length<2097152) (hsz:0≤w.2.1∧w.2.1≤6) (hnet:w.2.2.2.1.length<2097152):Tot (x_y K c w) fun r=>CSz r.1.2.2.2∧x_c9 r.2.1:=by
 unfold x_y x_y.b
 refine tb (x_ks _ _) fun v1 g1=>tb (x_af h v1.1 (by omega)) fun v2 g2=>?_
 refine l4_ (L:=x_y.l0 K c w) (b:=fun L'=>x_y.l0b K c w L' (x_y.l1 K c w K)) (fun _ _ _ _ _=>rfl) (fun m a0 b0 q x=>a0=v1∧b0=v2∧ ∃ i:Nat,x=i∧i+m=w.2.2.1.length) (fun m a0 b0 q x L' hi kk=>?_) (m:=w.2.2.1.length) (by omega) ⟨rfl,rfl,0,rfl,by omega⟩
 obtain ⟨rfl,rfl,i,rfl,hm⟩:=hi
 unfold x_y.l0b
 refine ti (fun b=>?_) fun b=>?_
 ·rw [wi (i:=i) (by omega)]
  exact t2_ (by omega) ((ti (fun _=>kk (m-1) _ _ _ _ (by omega) ⟨rfl,rfl,i+1,by push_cast;rfl,by omega⟩) fun _=>kk (m-1) _ _ _ _ (by omega) ⟨rfl,rfl,i+1,by push_cast;rfl,by omega⟩))
 ·refine tb (x_af g2.2.2 4 (by decide)) fun v3 g3=>tb (x_af g3.2.2 22 (by decide)) fun v4 g4=>?_
  have mx:Tot (x_gp ((w.2.2.2.1.length:Nat):Int) 1) fun r=>0<r.1:=(x_ks _ _).mono fun r e=>by omega
  have j:∀ b,Tot (x_y.j0 K (x_y.l1 K c w K) b a0 b0 v4 q v3 w) fun r=>CSz r.1.2.2.2∧x_c9 r.2.1:=fun b=>by
   unfold x_y.j0
   refine tB (fun _=>?_) fun _=>ti (fun _=>tb (x_ax g4.2.2 _ (by decide)) fun v12 g12=>tr ⟨zc,g12.2⟩) fun _=>ti (fun _=>tr ⟨zc,g4.2.2⟩) fun _=>ti (fun _=>tr ⟨zc,g4.2.2⟩) fun _=>ti (fun _=>tr ⟨zc,g4.2.2⟩) fun _=>ti (fun _=>?_) fun _=>ti (fun _=>tb (x_nj g4.2.2 _) fun v16 g16=>tB (fun _=>tr ⟨zc,g16⟩) fun _=>tb mx fun v17 g17=>tb (x_af g16 _ g17) fun v18 g18=>tr ⟨zc,g18.2.2⟩) fun _=>tb mx fun v19 g19=>tb (x_af g4.2.2 _ g19) fun v20 g20=>tr ⟨zc,g20.2.2⟩
   ·refine l4_ (L:=x_y.l1 K c w) (fun _ _ _ _ _=>rfl) (fun m a1 b1 x d=>a1=a0∧b1=b0∧d=v4∧ ∃ i:Nat,x=i∧(i:Int)+m=a0.1) (fun m a1 b1 x d L' hi kk=>?_) (m:=a0.1.toNat) (by omega) ⟨rfl,rfl,rfl,0,rfl,by omega⟩
    obtain ⟨rfl,rfl,rfl,i,rfl,hm⟩:=hi
    unfold x_y.l1b
    refine ti (fun b=>ti (fun b2=>?_) fun _=>tr ⟨zc,g4.2.2⟩) fun _=>tr ⟨zc,g4.2.2⟩
    rw [w6 (n:=b1.1+(i:Int)) (by omega) (by omega),wi (i:=i) (by omega)]
    have tm:=x_mb (x:=b1.1+(i:Int)) (n:=((w.2.2.1.length:Nat):Int)) (by omega) (by omega)
    exact tc (by omega) (tc tm.1 (tc tm.2 (ti (fun _=>tc (by omega) (tr ⟨zc,g4.2.2⟩)) fun _=>kk (m-1) _ _ _ _ (by omega) ⟨rfl,rfl,rfl,i+1,by push_cast;rfl,by omega⟩)))
   ·exact tb (x_af g4.2.2 2 (by decide)) fun v13 g13=>tb mx fun v14 g14=>tb (x_af g13.2.2 _ g14) fun v15 g15=>tr ⟨zc,g15.2.2⟩
  have bd:=x_om g4.2.2
  have bl:=x_af g4.2.2 a0.1 (by omega)
  exact ti (fun _=>tr ⟨zc,g4.2.2⟩) fun _=>ti (fun _=>tb bd fun v g=>tr g) fun _=>ti (fun _=>tb bd fun v g=>tr g) fun _=>ti (fun _=>tb bd fun v g=>tr g) fun _=>ti (fun _=>tr ⟨zc,g4.2.2⟩) fun _=>ti (fun _=>tb bl fun v g=>tr ⟨zc,g.2.2⟩) fun _=>ti (fun _=>tb bl fun v g=>tr ⟨zc,g.2.2⟩) fun _=>ti (fun _=>tb bl fun v g=>tr ⟨zc,g.2.2⟩) fun _=>ti (fun _=>j _) fun _=>ti (fun _=>j _) fun _=>j _
theorem x_rx (hK:2097152≤K) {c:x_6} (h:x_c9 c) (w:x_u) (hw:GI w):Tot (x_y K c w) fun r=>CSz r.1.2.2.2∧x_c9 r.2.1:=by
 have hs:=hw.2.2.1
 have hsz:=hw.2.1
 have hnet:=hw.2.2.2.2.1.1
 exact x_l7 hK h w (by omega) (by omega) (by omega)
theorem x_t0 (hK:2097152≤K) {c:x_6} (h:x_c9 c) (n:Int) (hn:0≤n∧n≤1000):Tot (x_ba K c n) fun r=>GI r.2.2.1∧x_c9 r.2.2.2.1:=by
 unfold x_ba x_ba.b
 refine tb (x_g1 h) fun v1 g1=>tb (x_ax g1.2 _ (by decide)) fun v2 g2=>?_
 have e2:=g2.1
 simp only [mem_cons,List.not_mem_nil,or_false] at e2
 rw [w6 (n:=n+1) (by omega) (by omega)]
 refine tb (x_yp hK _ g1.1 _ (by omega)) fun v3 g3=>tb (x_af g2.2 _ (by omega)) fun v4 g4=>?_
 refine l1_ (L:=fun n' (q:List x_kc×Int×(x_6×Unit)×x_u)=>x_ba.l0 K c n n' v3 q.1 v4 q.2.1 q.2.2.1 q.2.2.2) (b:=fun L' q=>x_ba.l0b K c n (fun _ a _ b d e=>L' (a,b,d,e)) v3 q.1 v4 q.2.1 q.2.2.1 q.2.2.2)
  (fun _ _=>rfl) (fun m q=>(∃ i:Nat,q.2.1=i∧(i:Int)+m=v4.1∧q.1.length=i)∧x_c9 q.2.2.1.1∧GI q.2.2.2) (fun m q L' hi kk=>?_) (x:=([],0,v4.2,v3.1)) (m:=v4.1.toNat) (by omega) ⟨⟨0,rfl,by omega,rfl⟩,g4.2.2,g3.2⟩
 obtain ⟨l,j,v,w⟩:=q
 obtain ⟨⟨i,hj,hm,hl⟩,hv,hw⟩:=hi
 simp only at hj hl hv hw
 subst hj
 unfold x_ba.l0b
 simp only
 refine ti (fun a=>tB (fun _=>?_) fun _=>tr ⟨hw,hv⟩) fun _=>tr ⟨hw,hv⟩
 rw [wi (i:=i) (by omega)]
 refine tb (x_rx hK hv w hw) fun v5 g5=>tc (by show _≤70368744177664;(try dsimp only);(try simp only [ll_]);omega) (tv (x_ws hK w hw.wsz) (tb (t_l15Then hK w hw _ g5.1) fun v7 g7=>ti (fun _=>?_) fun _=>?_))
 ·exact kk (m-1) (l++[v5.1],(i:Int)+1,v5.2,v7.1) (by omega) ⟨⟨i+1,by push_cast;rfl,by omega,by show (l++[_]).length=_;rw [length_append,length_singleton,hl]⟩,g5.2,g7⟩
 ·exact kk (m-1) (l++[v5.1],(i:Int)+1,v5.2,w) (by omega) ⟨⟨i+1,by push_cast;rfl,by omega,by show (l++[_]).length=_;rw [length_append,length_singleton,hl]⟩,g5.2,hw⟩
theorem x_k5 (hK:2097152≤K) {c:x_6} (h:x_c9 c):Tot (x_fo K c) fun r=>GI r.1∧x_c9 r.2.1:=by
 unfold x_fo
 exact tb (x_t0 hK h 45 (by decide)) fun v g=>tr g
variable {K N:Nat}
theorem x_eo {c:x_6} (h:x_c9 c):Tot (x_dk c) fun r=>CSz r.1∧x_c9 r.2.1:=by
 unfold x_dk
 refine tb (x_nj h _) fun v1 g1=>tB (fun _=>tr ⟨zc,g1⟩) fun _=>tb (x_om g1) fun v2 g2=>tb (x_af g2.2 4 (by decide)) fun v3 g3=>tb (x_af g3.2.2 6 (by decide)) fun v4 g4=>tr ⟨g2.1,g4.2.2⟩
theorem x_ns {c:x_6} (hK:2097152≤K) (h:x_c9 c) (n:Int) (hn:0≤n∧n≤100):Tot (x_a9 K c n) fun r=>(∀ x∈r.1,CSz x)∧r.1.length≤100∧x_c9 r.2.1:=by
 unfold x_a9 x_a9.b
 rw [w6 (n:=n+1) (by omega) (by omega)]
 refine tb (x_af h _ (by omega)) fun v1 g1=>?_
 refine l4_ (L:=x_a9.l0 K c n) (fun _ _ _ _ _=>rfl) (fun m q v x y=>v=v1∧(∃ i:Nat,x=i∧(i:Int)+m=v1.1∧q.length=i)∧x_c9 y.1∧ ∀ z∈q,CSz z) (fun m q v x y L' hi kk=>?_) (m:=v1.1.toNat) (by omega) ⟨rfl,⟨0,rfl,by omega,rfl⟩,g1.2.2,fun z hz=>by simp at hz⟩
 obtain ⟨rfl,⟨i,rfl,hm,hl⟩,hy,hq⟩:=hi
 unfold x_a9.l0b
 refine ti (fun a=>?_) fun a=>tr ⟨hq,by show q.length≤100;omega,hy⟩
 rw [wi (i:=i) (by omega)]
 have go:∀ (z:TCmd) (u:x_6×Unit),CSz z→x_c9 u.1→Tot (L' (q++[z]) v ((i:Int)+1) u) fun r=>(∀ x∈r.1,CSz x)∧r.1.length≤100∧x_c9 r.2.1:=fun z u hz hu=>
  kk (m-1) _ _ _ _ (by omega) ⟨rfl,⟨i+1,by push_cast;rfl,by omega,by rw [length_append,length_singleton,hl]⟩,hu,fun w hw=>by
   rw [mem_append,mem_singleton] at hw
   rcases hw with hw | rfl
   ·exact hq w hw
   ·exact hz⟩
 refine tb (x_eo hy) fun v2 g2=>ti (fun _=>tb (x_nj g2.2 _) fun v3 g3=>tN (fun _=>?_) fun _=>?_) fun _=>?_
 ·exact tc (by show _≤70368744177664;(try dsimp only);(try simp only [ll_]);omega) (go _ _ g2.1 g3)
 ·exact tc (by show _≤70368744177664;(try dsimp only);(try simp only [ll_]);omega) (go _ _ g2.1 g3)
 ·exact tc (by show _≤70368744177664;(try dsimp only);(try simp only [ll_]);omega) (go _ _ g2.1 g2.2)
theorem x_u6 (hK:2097152≤K) (p:x_d) (hp:SOk p) (l:List TCmd) (hl:∀ x∈l,CSz x) (h100:l.length≤100):Tot (x_cz K p l) fun r=>KW 200 p r.1:=by
 unfold x_cz x_cz.b
 refine tb (x_mq hK p hp) fun v1 g1=>?_
 refine l3_ (L:=x_cz.l0 K p l) (fun _ _ _ _=>rfl) (fun m q x k=>(∃ i:Nat,x=i∧i+m=l.length∧q.length=i)∧KW (16+(l.length-m)) p k) (fun m q x k L' hi kk=>?_) (m:=l.length) (by omega) ⟨⟨0,rfl,by omega,rfl⟩,g1.1.kw (by omega)⟩
 obtain ⟨⟨i,rfl,hm,hq⟩,hk⟩:=hi
 unfold x_cz.l0b
 refine ti (fun a=>?_) fun a=>tr (hk.mono (by omega))
 rw [wi (i:=i) (by omega),tz]
 have go:∀ (z:x_dl) (k':x_ai),KW (16+(l.length-m)+1) p k'→Tot (L' (q++[z]) ((i:Int)+1) k') fun r=>KW 200 p r.1:=fun z k' hk'=>
  kk (m-1) _ _ _ (by omega) ⟨⟨i+1,by push_cast;rfl,by omega,by rw [length_append,length_singleton,hq]⟩,hk'.mono (by omega)⟩
 have sk:=go (0,0,ByteArray.empty,ByteArray.empty) k (hk.mono (by omega))
 refine tb (x_f5 p) fun v2 g2=>tf g2 (fun _=>tc (by omega) (tc a (tb (x_n7 hK _ (hl _ (x_ad (by omega)))) fun v3 g3=>tf g3 (fun a3=>tc (by omega) (tc a (tb (t_l6Do hK (by omega) p k hk _ a3) fun v4 g4=>?_))) fun _=>?_))) fun _=>?_
 ·exact tc (by show _≤70368744177664;(try dsimp only);(try simp only [ll_]);omega) (go _ _ g4.1)
 ·exact tc (by show _≤70368744177664;(try dsimp only);(try simp only [ll_]);omega) sk
 ·exact tc (by show _≤70368744177664;(try dsimp only);(try simp only [ll_]);omega) sk
theorem t_l6All (hK:2097152≤K) (p:x_d) (hp:SOk p) (l:List TCmd) (hl:∀ x∈l,CSz x) (h100:l.length≤100):Tot (x_wx K p l) fun r=>KW 200 p r.1:=by
 unfold x_wx
 exact tb (x_u6 hK p hp l hl h100) fun v g=>tr g
theorem x_qq (hK:2097152≤K) {c:x_6} (h:x_c9 c):Tot (x_ag K c) fun r=>HOk r.1 r.2.1∧x_c9 r.2.2.1:=by
 unfold x_ag x_ag.b
 refine tb (x_g1 h) fun v1 g1=>tb (x_mw hK _ g1.1) fun v2 g2=>?_
 refine l4_ (L:=x_ag.l0 K c) (fun _ _ _ _ _=>rfl) (fun m x y v q=>v=v1∧(∃ i:Nat,x=i∧i+m=7)∧x_c9 y.1∧HOk v1.1 q.1) (fun m x y v q L' hi kk=>?_) (m:=7) (by omega) ⟨rfl,⟨0,rfl,rfl⟩,g1.2,g2.1⟩
 obtain ⟨rfl,⟨i,rfl,hm⟩,hy,hq⟩:=hi
 have hz:=hq.sz
 have step:∀ (r:x_df) (u:x_6×Unit),0<m→EsSz r.2.2.2.2.1→x_c9 u.1→Tot ((x_g8 K v.1 q.1 r).bind fun w=>L' ((i:Int)+1) u v w) fun r=>HOk r.1 r.2.1∧x_c9 r.2.2.1:=fun r u h0 hr hu=>
  tb (x_tq hK _ _ hz r hr) fun w gw=>kk (m-1) _ _ _ _ (by omega) ⟨rfl,⟨i+1,by push_cast;rfl,by omega⟩,hu,by
   rcases gw with gw | gw
   ·rw [gw];exact hq
   ·exact gw.2.1⟩
 unfold x_ag.l0b
 refine tb (x_af hy 7 (by decide)) fun v3 g3=>ti (fun a=>?_) fun _=>tr ⟨hq,g3.2.2⟩
 rw [wi (i:=i) (by omega)]
 refine tb (x_f0 _ hz.1.1 hz.2.1) fun v4 _=>tb (x_af g3.2.2 2 (by decide)) fun v5 g5=>tb (x_af g5.2.2 4 (by decide)) fun v6 g6=>tb (x_af g6.2.2 3 (by decide)) fun v7 g7=>?_
 have j:∀ b (v9:Bool×x_6×Unit),x_c9 v9.2.1→Tot (x_ag.j0 K L' b v9 v q v4 (i:Int) v5 v6) fun r=>HOk r.1 r.2.1∧x_c9 r.2.2.1:=fun b v9 g9=>by
  unfold x_ag.j0
  rw [wi (i:=i) (by omega)]
  refine tB (fun _=>tb (x_ns hK g9 3 (by decide)) fun v11 g11=>tb (t_l6All hK _ g1.1 _ g11.1 g11.2.1) fun v12 g12=>tb (x_jf hK _ _ g12 (by decide)) fun v13 _=>step _ _ (by omega) EsSz.nil g11.2.2) fun _=>step _ _ (by omega) EsSz.nil g9
 refine ti (fun _=>tb (x_eo g7.2.2) fun v8 g8=>step _ _ (by omega) ⟨by show (1:Nat)<_;decide,fun x hx=>?_⟩ g8.2) fun _=>ti (fun _=>tb (x_nj g7.2.2 _) fun v9 g9=>tB (fun _=>j _ _ g9) fun _=>j _ _ g9) fun _=>step _ _ (by omega) EsSz.nil g7.2.2
 obtain rfl:=mem_singleton.1 hx
 exact g8.1
theorem x_g7 (hK:2097152≤K) {c:x_6} (h:x_c9 c) (t n:Int) (hn:0≤n∧n≤100):Tot (x_ah K c t n) fun r=>(r.1.length:Int)≤n∧(∀ e∈r.1,CSz e.2)∧x_c9 r.2.1:=by
 unfold x_ah x_ah.b
 rw [w6 (n:=n+1) (by omega) (by omega)]
 refine tb (x_af h _ (by omega)) fun v1 g1=>?_
 refine l5_ (L:=x_ah.l0 K c t n) (fun _ _ _ _ _ _=>rfl) (fun m _ q v x y=>v=v1∧(∃ i:Nat,x=i∧(i:Int)+m=v1.1∧q.length=i)∧x_c9 y.1∧ ∀ z∈q,CSz z.2) (fun m t' q v x y L' hi kk=>?_) (m:=v1.1.toNat) (by omega) ⟨rfl,⟨0,rfl,by omega,rfl⟩,g1.2.2,fun z hz=>by simp at hz⟩
 obtain ⟨rfl,⟨i,rfl,hm,hl⟩,hy,hq⟩:=hi
 unfold x_ah.l0b
 refine ti (fun a=>?_) fun a=>tr ⟨by show (q.length:Int)≤n;omega,hq,hy⟩
 rw [wi (i:=i) (by omega)]
 refine tb (x_af hy 2 (by decide)) fun v2 g2=>tb (x_eo g2.2.2) fun v3 g3=>tc (by show _≤70368744177664;(try dsimp only);(try simp only [ll_]);omega) (kk (m-1) _ _ _ _ _ (by omega) ⟨rfl,⟨i+1,by push_cast;rfl,by omega,by rw [length_append,length_singleton,hl]⟩,g3.2,fun z hz=>?_⟩)
 rw [mem_append,mem_singleton] at hz
 rcases hz with hz | rfl
 ·exact hq z hz
 ·exact g3.1
def LTx (l:TLog):Prop:=(-9223372036854775808≤l.1∧l.1≤1000)∧l.2.2.length≤1000
theorem x_iu (hK:2097152≤K) {c:x_6} (h:x_c9 c):Tot (x_fg K c) fun r=>SOk r.1∧KW 200 r.1 r.2.1∧x_c9 r.2.2.1:=by
 unfold x_fg
 exact tb (x_g1 h) fun v1 g1=>tb (x_ns hK g1.2 14 (by decide)) fun v2 g2=>tb (x_u6 hK _ g1.1 _ g2.1 g2.2.1) fun v3 g3=>tr ⟨g1.1,g3,g2.2.2⟩
theorem t_l1Draw {c:x_6} (h:x_c9 c):Tot (x_ro c) fun r=>x_c9 r.2.1:=by
 unfold x_ro
 refine tb (x_g1 h) fun v1 g1=>tb (x_af g1.2 12 (by decide)) fun v2 g2=>?_
 have pk:∀ l:List Int,0<l.length→Tot (x_7 v2.2.1 l) fun r=>x_c9 r.2.1:=fun l hl=>(x_ax g2.2.2 l hl).mono fun r g=>g.2
 exact ti (fun _=>tb (pk _ (by decide)) fun v g=>tr g) fun _=>ti (fun _=>tb (pk _ (by decide)) fun v g=>tr g) fun _=>ti (fun _=>tb (pk _ (by decide)) fun v g=>tr g) fun _=>ti (fun _=>tb (pk _ (by decide)) fun v g=>tr g) fun _=>tr g2.2.2
theorem x_s7 (hK:2097152≤K) {c:x_6} (h:x_c9 c):Tot (x_a3 K c) fun r=>MkW r.1∧x_c9 r.2.1:=by
 unfold x_a3 x_a3.b
 refine tb (x_af h 3 (by decide)) fun v1 g1=>tb (x_af g1.2.2 4 (by decide)) fun v2 g2=>?_
 refine l1_ (L:=fun n (q:Int×(Int×x_6×Unit)×x_at)=>x_a3.l0 K c n q.1 q.2.1 q.2.2.1 q.2.2.2.1 q.2.2.2.2.1 q.2.2.2.2.2.1 q.2.2.2.2.2.2) (b:=fun L' q=>x_a3.l0b K c (fun a b d e f g i=>L' (a,b,d,e,f,g,i)) q.1 q.2.1 q.2.2.1 q.2.2.2.1 q.2.2.2.2.1 q.2.2.2.2.2.1 q.2.2.2.2.2.2)
  (fun _ _=>rfl) (fun m q=>(∃ i:Nat,q.1=i∧i+m=8∧ -1≤q.2.2.2.2.2.1∧q.2.2.2.2.2.1≤(i:Int))∧x_c9 q.2.1.2.1∧MkW q.2.2) (fun m q L' hi kk=>?_) (x:=(0,v2,v1.1,v2.1,0, -1,[])) (m:=8) (by omega) ⟨⟨0,rfl,rfl,by show (-1:Int)≤ -1;decide,by show (-1:Int)≤0;decide⟩,g2.2.2,by show (0:Nat)≤5;decide,fun x hx=>by simp at hx⟩
 obtain ⟨x,v,a,b,d,e,l⟩:=q
 obtain ⟨⟨i,hx,hm,he1,he2⟩,hv,hl⟩:=hi
 simp only at hx hv hl he1 he2
 subst hx
 unfold x_a3.l0b
 simp only
 refine tb (x_af hv 8 (by decide)) fun v3 g3=>ti (fun a1=>?_) fun _=>tr ⟨hl,g3.2.2⟩
 rw [wi (i:=i) (by omega),w6 (n:=e+1) (by omega) (by omega)]
 have go:∀ (v5:Int×x_6×Unit) (w q o z:Int),x_c9 v5.2.1→(1≤w∧w≤5)→(0≤q∧q≤e+1∨q=0)→Tot ((x_ef K (a,b,d,e,l) w z q o).bind fun v6=>L' ((i:Int)+1,v5,v6.1)) fun r=>MkW r.1∧x_c9 r.2.1:=fun v5 w q o z h5 hw hq=>
  tb (x_s6 hK _ hl _ hw _ _ _ (by omega)) fun v6 g6=>kk (m-1) ((i:Int)+1,v5,v6.1) (by omega) ⟨⟨i+1,by push_cast;rfl,by omega,by
   have e6:v6.1.2.2.2.1=q∨v6.1.2.2.2.1=e:=g6.2
   show -1≤v6.1.2.2.2.1
   omega,by
   have e6:v6.1.2.2.2.1=q∨v6.1.2.2.2.1=e:=g6.2
   show v6.1.2.2.2.1≤((i+1:Nat):Int)
   omega⟩,h5,g6.1⟩
 refine tb (x_af g3.2.2 9 (by decide)) fun v4 g4=>ti (fun _=>?_) fun _=>?_
 ·refine tb (x_af g4.2.2 3 (by decide)) fun v5 g5=>?_
  rw [w6 (n:=1+v5.1) (by omega) (by omega)]
  exact go v5 _ _ _ _ g5.2.2 (by omega) (by omega)
 ·refine tb (x_af g4.2.2 3 (by decide)) fun v5 g5=>?_
  rw [w6 (n:=1+v5.1) (by omega) (by omega)]
  exact go v5 _ _ _ _ g5.2.2 (by omega) (by omega)
theorem u_l4Draw (hK:2097152≤K) {c:x_6} (h:x_c9 c):Tot (x_q8 K c) fun r=>MkS r.1∧x_c9 r.2.1:=by
 unfold x_q8
 refine tb (x_s7 hK h) fun v1 g1=>tb (x_af g1.2 12 (by decide)) fun v2 g2=>?_
 have hm:=g1.1.s
 have hm5:=g1.1.1
 have pk:∀ l:List Int,0<l.length→Tot (x_7 v2.2.1 l) fun r=>x_c9 r.2.1:=fun l hl=>(x_ax g2.2.2 l hl).mono fun r g=>g.2
 refine ti (fun _=>tb (pk _ (by decide)) fun v g=>tr ⟨hm,g⟩) fun _=>ti (fun _=>tb (pk _ (by decide)) fun v g=>tr ⟨hm,g⟩) fun _=>ti (fun _=>tb (x_af g2.2.2 9 (by decide)) fun v5 g5=>tb (x_af g5.2.2 9 (by decide)) fun v6 g6=>tc (by show _≤70368744177664;(try dsimp only);(try simp only [ll_]);omega) (tr ⟨⟨?_,fun x hx=>?_⟩,g6.2.2⟩)) fun _=>ti (fun _=>tb (pk _ (by decide)) fun v g=>tr ⟨hm,g⟩) fun _=>tr ⟨hm,g2.2.2⟩
 ·show (v1.1.2.2.2.2++[_]).length<_
  rw [length_append,length_singleton];omega
 ·have hx:x∈v1.1.2.2.2.2++[_]:=hx
  rw [mem_append,mem_singleton] at hx
  rcases hx with hx | rfl
  ·exact hm.2 x hx
  ·exact g5.1
def HTx (h:x_dh):Prop:=LTx h.2.2.1∧ -1≤h.1∧h.1≤301
theorem LOk.tx {l:TLog} (h:LOk l):LTx l:=⟨by have:=h.1;omega,by have:=h.1;have:=h.2.2.1;omega⟩
theorem x_s0 (hK:2097152≤K) {c:x_6} (h:x_c9 c):Tot (x_g5 K c) fun r=>EsSz r.1.2.2.2.2.1∧x_c9 r.2.1:=by
 unfold x_g5
 refine tb (x_af h 4 (by decide)) fun v1 g1=>ti (fun _=>?_) fun _=>ti (fun _=>?_) fun _=>?_
 ·exact tb (x_af g1.2.2 6 (by decide)) fun v2 g2=>tb (x_af g2.2.2 4 (by decide)) fun v3 g3=>tr ⟨EsSz.nil,g3.2.2⟩
 ·exact tb (x_iu hK g1.2.2) fun v4 g4=>tb (x_af g4.2.2 3 (by decide)) fun v5 g5=>tb (x_af g5.2.2 5 (by decide)) fun v6 g6=>tb (x_jf hK _ _ g4.2.1 (by decide)) fun v7 _=>tr ⟨EsSz.nil,g6.2.2⟩
 ·exact tb (x_af g1.2.2 2 (by decide)) fun v8 g8=>tb (x_af g8.2.2 3 (by decide)) fun v9 g9=>tb (x_g7 hK g9.2.2 _ 4 (by decide)) fun v10 g10=>tr ⟨⟨by show v10.1.length<_;have:=g10.1;omega,g10.2.1⟩,g10.2.2⟩
def PTx (n:x_bq):Prop:=HTx n.2.1∧(-1≤n.2.2.2.2.2.2.1∧n.2.2.2.2.2.2.1≤300)∧n.2.2.2.2.2.2.2.2.2.length≤41
theorem NI.tx {p:x_d} {s:Int} {n:x_bq} (h:NI p s n):PTx n:=by
 have h1:=h.2.1
 have hb:=h1.2.2.1.1
 have ht:=h1.1
 have hc:=h.2.2.2.1
 exact ⟨⟨h1.2.2.1.tx,by omega,by omega⟩,by omega,by have:=h.2.2.2.2.2.2.1;omega⟩
def WTx (w:x_u):Prop:=w.2.2.1.length≤5∧(∀ n∈w.2.2.1,PTx n)∧w.2.2.2.1.length≤41∧w.2.2.2.2.2.2.1.length≤301∧w.2.2.2.2.2.2.2.length≤301
theorem GI.tx {w:x_u} (h:GI w):WTx w:=by
 obtain ⟨h1,h2,h3,h4,h5,h6,h7,h8,h9⟩:=h
 exact ⟨by omega,fun n hn=>(h4 n hn).tx,by omega,by have:=h8.1;omega,by have:=h9.1;omega⟩
def decF:Nat→Bool→List Int→Option (Nat×List Int)
 | 0,_,_=>none
 | _+1,_,[]=>none
 | f+1,fst,x::l=>if x<128 then (if fst=false∧x=0 then none else some (x.toNat,l)) else (decF f false l).map fun r=>((x-128).toNat+128*r.1,r.2)
def decN (l:List Int):Option (Int×List Int):=(decF 5 true l).bind fun r=>if r.1≤2147483647 then some ((r.1:Int),r.2) else none
theorem x_z5:∀ (f:Nat) (fst:Bool) (n:Nat) (r:List Int),n<128 ^ (f+1)→(fst=false→n≠0)→decF (f+1) fst (x_gy n++r)=some (n,r)
 | f,fst,n,r,h,hz=>by
  rw [x_gy]
  by_cases h1:n<128
  ·rw [if_pos h1]
   show decF (f+1) fst ((n:Int)::r)=_
   unfold decF
   rw [if_pos (by omega),if_neg (fun a=>hz a.1 (by omega)),tz]
  ·rw [if_neg h1]
   show decF (f+1) fst (((n % 128+128:Nat):Int)::(x_gy (n / 128)++r))=_
   unfold decF
   obtain ⟨f,rfl⟩ : ∃ k,f=k+1:=⟨f-1,by
    rcases Nat.eq_zero_or_pos f with h2 | h2
    ·subst h2;simp at h;omega
    ·omega⟩
   rw [if_neg (by omega),x_z5 f false (n / 128) r (by rw [Nat.pow_succ] at h;omega) (fun _=>by omega)]
   simp only [Option.map_some,sj_,Prod.mk.injEq,and_true]
   omega
theorem x_qh {n:Int} (h:0≤n∧n≤2147483647) (r:List Int):decN (encN n++r)=some (n,r):=by
 unfold decN encN
 rw [if_pos h,x_z5 4 true _ r (by omega) (fun h=>by cases h)]
 simp only [Option.bind_some]
 rw [if_pos (by omega),show ((n.toNat:Nat):Int)=n by omega]
theorem decF_of:∀ (f:Nat) (fst:Bool) (l:List Int) (n:Nat) (r:List Int),BOk l→decF f fst l=some (n,r)→l=x_gy n++r∧(fst=false→n≠0)∧n<128 ^ f
 | 0,_,_,_,_,_,h=>by simp [decF] at h
 | f+1,_,[],_,_,_,h=>by simp [decF] at h
 | f+1,fst,x::l,n,r,hb,h=>by
  have hx:=hb x (by simp)
  unfold decF at h
  split at h
  ·split at h
   ·cases h
   ·rename_i h1 h2
    simp only [sj_,Prod.mk.injEq] at h
    obtain ⟨rfl,rfl⟩:=h
    refine ⟨?_,fun a b=>h2 ⟨a,by omega⟩,?_⟩
    ·rw [x_gy,if_pos (by omega),show ((x.toNat:Nat):Int)=x by omega];rfl
    ·have:0<128 ^ f:=Nat.pow_pos (by decide)
     rw [Nat.pow_succ];omega
  ·rename_i h1
   obtain ⟨⟨m,s⟩,h2,h3⟩:=Option.map_eq_some_iff.1 h
   simp only [Prod.mk.injEq] at h3
   obtain ⟨rfl,rfl⟩:=h3
   obtain ⟨rfl,h5,h6⟩:=decF_of f false l m s (fun y hy=>hb y (by simp [hy])) h2
   have:=h5 rfl
   refine ⟨?_,fun _=>by omega,by rw [Nat.pow_succ];omega⟩
   conv=>rhs;rw [x_gy]
   rw [if_neg (by omega),show ((x-128).toNat+128*m) / 128=m by omega,show ((((x-128).toNat+128*m) % 128+128:Nat):Int)=x by omega];rfl
theorem x_pz {l:List Int} {n:Int} {r:List Int} (hb:BOk l) (h:decN l=some (n,r)):l=encN n++r∧0≤n∧n≤2147483647:=by
 unfold decN at h
 obtain ⟨⟨m,s⟩,h1,h2⟩:=Option.bind_eq_some_iff.1 h
 split at h2
 ·rename_i h3
  simp only [sj_,Prod.mk.injEq] at h2
  obtain ⟨rfl,rfl⟩:=h2
  obtain ⟨rfl,_,_⟩:=decF_of 5 true l m s hb h1
  refine ⟨?_,by omega,by omega⟩
  unfold encN
  rw [if_pos (by omega),tz]
 ·cases h2
theorem x_sr (s:ByteArray):x_jo (x_co s)=s:=by
 apply ba_ext
 rw [x_kj]
 unfold x_co
 rw [List.map_map]
 conv=>rhs;rw [←List.map_id s.data.toList]
 apply List.map_congr_left
 intro b _
 simp
theorem x_fh {l:List Int} (h:BOk l):x_co (x_jo l)=l:=by
 unfold x_co
 rw [x_kj,List.map_map]
 conv=>rhs;rw [←List.map_id l]
 apply List.map_congr_left
 intro x hx
 have:=h x hx
 show ((UInt8.ofNat x.toNat).toNat:Int)=x
 rw [UInt8.toNat_ofNat',Nat.mod_eq_of_lt (by omega)]
 omega
noncomputable def decT (l:List Int):Option (ByteArray×List Int):=(decN l).bind fun r=>if r.1≤(r.2.length:Int) then some (x_jo (r.2.take r.1.toNat),r.2.drop r.1.toNat) else none
theorem decT_enc {s:ByteArray} (h:s.size≤2147483647) (r:List Int):decT (encT s++r)=some (s,r):=by
 unfold decT encT
 rw [List.append_assoc,x_qh (by omega)]
 have:=(x_ga s).2
 simp only [Option.bind_some]
 rw [if_pos (by rw [length_append];omega),tz, ←this,List.take_left',List.drop_left',x_sr]
 ·rfl
 ·rfl
theorem decT_of {l:List Int} {s:ByteArray} {r:List Int} (hb:BOk l) (h:decT l=some (s,r)):l=encT s++r∧s.size≤2147483647:=by
 unfold decT at h
 obtain ⟨⟨n,m⟩,h1,h2⟩:=Option.bind_eq_some_iff.1 h
 obtain ⟨rfl,h3,h4⟩:=x_pz hb h1
 simp only at h2
 split at h2
 ·rename_i h5
  simp only [sj_,Prod.mk.injEq] at h2
  obtain ⟨rfl,rfl⟩:=h2
  have hm:BOk (m.take n.toNat):=fun x hx=>hb x (mem_append.2 (.inr (List.mem_of_mem_take hx)))
  have e:(x_jo (m.take n.toNat)).size=n.toNat:=by rw [←(x_ga _).2,x_fh hm,length_take];omega
  refine ⟨?_,by omega⟩
  unfold encT
  rw [e,x_fh hm,show ((n.toNat:Nat):Int)=n by omega,List.append_assoc,List.take_append_drop]
 ·cases h2
structure Cod (α : Type) where
 enc : α→List Int
 dec:List Int→Option (α×List Int)
 ok : α→Prop
 de:∀ a r,ok a→dec (enc a++r)=some (a,r)
 ed:∀ l a r,BOk l→dec l=some (a,r)→l=enc a++r∧ok a
noncomputable def cN:Cod Int:=⟨encN,decN,fun n=>0≤n∧n≤2147483647,fun _ r h=>x_qh h r,fun _ _ _ hb h=>x_pz hb h⟩
noncomputable def cT:Cod ByteArray:=⟨encT,decT,fun s=>s.size≤2147483647,fun _ r h=>decT_enc h r,fun _ _ _ hb h=>decT_of hb h⟩
theorem BOk.right {a b:List Int} (h:BOk (a++b)):BOk b:=fun x hx=>h x (mem_append.2 (.inr hx))
theorem BOk.left {a b:List Int} (h:BOk (a++b)):BOk a:=fun x hx=>h x (mem_append.2 (.inl hx))
def Cod.map {α β : Type} (c:Cod α) (f : α→β) (g : β→α) (hg:∀ a,c.ok a→g (f a)=a) (hf:∀ b,c.ok (g b)→f (g b)=b):Cod β where
 enc b:=c.enc (g b)
 dec l:=(c.dec l).map fun r=>(f r.1,r.2)
 ok b:=c.ok (g b)
 de b r h:=by rw [c.de _ _ h];simp only [Option.map_some];rw [hf b h]
 ed l b r hb h:=by
  obtain ⟨⟨a,s⟩,h1,h2⟩:=Option.map_eq_some_iff.1 h
  simp only [Prod.mk.injEq] at h2
  obtain ⟨rfl,rfl⟩:=h2
  obtain ⟨h3,h4⟩:=c.ed l a s hb h1
  rw [hg a h4]
  exact ⟨h3,h4⟩
noncomputable def cM:Cod Int:=cN.map (fun n=>n-1) (fun n=>n+1) (fun _ _=>by omega) (fun _ _=>by omega)
def Cod.pr {α β : Type} (c:Cod α) (d:Cod β):Cod (α×β) where
 enc a:=c.enc a.1++d.enc a.2
 dec l:=(c.dec l).bind fun r=>(d.dec r.2).map fun s=>((r.1,s.1),s.2)
 ok a:=c.ok a.1∧d.ok a.2
 de a r h:=by rw [List.append_assoc,c.de _ _ h.1];simp only [Option.bind_some];rw [d.de _ _ h.2];rfl
 ed l a r hb h:=by
  obtain ⟨⟨x,s⟩,h1,h2⟩:=Option.bind_eq_some_iff.1 h
  obtain ⟨⟨y,t⟩,h3,h4⟩:=Option.map_eq_some_iff.1 h2
  simp only [Prod.mk.injEq] at h4
  obtain ⟨rfl,rfl⟩:=h4
  obtain ⟨rfl,h5⟩:=c.ed l x s hb h1
  obtain ⟨h6,h7⟩:=d.ed s y t hb.right h3
  have h6:s=d.enc y++t:=h6
  exact ⟨by rw [h6,List.append_assoc],h5,h7⟩
def decR {α : Type} (d:List Int→Option (α×List Int)):Nat→List Int→Option (List α×List Int)
 | 0,l=>some ([],l)
 | n+1,l=>(d l).bind fun r=>(decR d n r.2).map fun s=>(r.1::s.1,s.2)
theorem x_zx {α : Type} (c:Cod α):∀ (xs:List α) (r:List Int),(∀ x∈xs,c.ok x)→decR c.dec xs.length (xs.flatMap c.enc++r)=some (xs,r)
 | [],r,_=>rfl
 | x::xs,r,h=>by
  rw [length_cons,List.flatMap_cons,List.append_assoc]
  unfold decR
  rw [c.de _ _ (h x (by simp))]
  simp only [Option.bind_some]
  rw [x_zx c xs r fun y hy=>h y (by simp [hy])];rfl
theorem x_0u {α : Type} (c:Cod α):∀ (n:Nat) (l:List Int) (xs:List α) (r:List Int),BOk l→decR c.dec n l=some (xs,r)→l=xs.flatMap c.enc++r∧xs.length=n∧ ∀ x∈xs,c.ok x
 | 0,l,xs,r,_,h=>by
  simp only [decR,sj_,Prod.mk.injEq] at h
  obtain ⟨rfl,rfl⟩:=h
  exact ⟨rfl,rfl,fun x hx=>by simp at hx⟩
 | n+1,l,xs,r,hb,h=>by
  unfold decR at h
  obtain ⟨⟨x,s⟩,h1,h2⟩:=Option.bind_eq_some_iff.1 h
  obtain ⟨⟨ys,t⟩,h3,h4⟩:=Option.map_eq_some_iff.1 h2
  simp only [Prod.mk.injEq] at h4
  obtain ⟨rfl,rfl⟩:=h4
  obtain ⟨rfl,h5⟩:=c.ed l x s hb h1
  obtain ⟨h6,h7,h8⟩:=x_0u c n s ys t hb.right h3
  have h6:s=_:=h6
  refine ⟨by rw [h6,List.flatMap_cons,List.append_assoc],by rw [length_cons,h7],fun y hy=>?_⟩
  rcases mem_cons.1 hy with rfl | hy
  ·exact h5
  ·exact h8 y hy
def Cod.rep {α : Type} (c:Cod α) (n:Nat):Cod (List α) where
 enc xs:=xs.flatMap c.enc
 dec:=decR c.dec n
 ok xs:=xs.length=n∧ ∀ x∈xs,c.ok x
 de xs r h:=by rw [←h.1];exact x_zx c xs r h.2
 ed l xs r hb h:=x_0u c n l xs r hb h
noncomputable def Cod.list {α : Type} (c:Cod α):Cod (List α) where
 enc xs:=encN (xs.length:Int)++xs.flatMap c.enc
 dec l:=(decN l).bind fun r=>decR c.dec r.1.toNat r.2
 ok xs:=(xs.length:Int)≤2147483647∧ ∀ x∈xs,c.ok x
 de xs r h:=by
  rw [List.append_assoc,x_qh ⟨by omega,h.1⟩]
  simp only [Option.bind_some]
  rw [tz,x_zx c xs r h.2]
 ed l xs r hb h:=by
  obtain ⟨⟨n,s⟩,h1,h2⟩:=Option.bind_eq_some_iff.1 h
  obtain ⟨rfl,h3,h4⟩:=x_pz hb h1
  obtain ⟨h5,h6,h7⟩:=x_0u c _ _ _ _ hb.right h2
  have h5:s=_:=h5
  exact ⟨by rw [h6,h5,List.append_assoc,show ((n.toNat:Nat):Int)=n by omega],by omega,h7⟩
noncomputable def cC:Cod TCmd:=cM.pr (cN.pr (cN.pr (cN.pr (cN.pr (cN.pr (cT.pr cT))))))
noncomputable def cE:Cod x_c6:=cN.pr cC
noncomputable def x_tk:Cod x_df:=cN.pr (cN.pr (cM.pr (cN.pr (cE.list.pr cT))))
noncomputable def x_xz:Cod x_l9:=cN.pr (cT.pr (cT.pr (cN.pr cN)))
noncomputable def cRow:Cod TRow:=cN.pr (cN.pr x_xz.list)
noncomputable def x_1b:Cod x_q3:=cN.pr cN
noncomputable def x_ko:Cod x_at:=cN.pr (cN.pr (cN.pr (cM.pr x_1b.list)))
theorem zip_unz {α β : Type} (a:List α) (b:List β) (h:a.length=b.length):((a.zip b).map (·.1),(a.zip b).map (·.2))=(a,b):=by
 rw [List.map_fst_zip (by omega),List.map_snd_zip (by omega)]
theorem unz_zip {α β : Type} (l:List (α×β)):(l.map (·.1)).zip (l.map (·.2))=l:=by
 induction l with
 | nil=>rfl
 | cons x l ih=>rw [List.map_cons,List.map_cons,List.zip_cons_cons,ih]
def Cod.mapQ {α β : Type} (c:Cod α) (f : α→β) (g : β→α) (Q : β→Prop) (hg:∀ a,c.ok a→g (f a)=a) (hf:∀ b,Q b→f (g b)=b) (hQ:∀ a,Q (f a)):Cod β where
 enc b:=c.enc (g b)
 dec l:=(c.dec l).map fun r=>(f r.1,r.2)
 ok b:=c.ok (g b)∧Q b
 de b r h:=by rw [c.de _ _ h.1];simp only [Option.map_some];rw [hf b h.2]
 ed l b r hb h:=by
  obtain ⟨⟨a,s⟩,h1,h2⟩:=Option.map_eq_some_iff.1 h
  simp only [Prod.mk.injEq] at h2
  obtain ⟨rfl,rfl⟩:=h2
  obtain ⟨h3,h4⟩:=c.ed l a s hb h1
  rw [hg a h4]
  exact ⟨h3,h4,hQ a⟩
noncomputable def x_k6 (rows:Nat):Cod x_ar:=(cN.pr ((cN.pr cN).list.pr (cN.rep rows))).mapQ (fun a=>(a.1,a.2.1.map (·.1),a.2.1.map (·.2),a.2.2)) (fun b=>(b.1,b.2.1.zip b.2.2.1,b.2.2.2)) (fun b=>b.2.1.length=b.2.2.1.length)
 (fun a _=>by rw [unz_zip]) (fun b h=>by
  have:=zip_unz b.2.1 b.2.2.1 h
  simp only [Prod.mk.injEq] at this
  rw [this.1,this.2]) (fun a=>by simp)
noncomputable def cAns:Cod x_dl:=cN.pr (cM.pr (cT.pr cT))
noncomputable def x_0h (rows:Nat):Cod x_ai:=(cRow.list.pr (x_ko.list.pr ((x_k6 rows).list.pr (cN.pr ((cN.pr cAns).rep 4))))).mapQ (fun a=>(a.1,a.2.1,a.2.2.1,a.2.2.2.1,a.2.2.2.2.map (·.1),a.2.2.2.2.map (·.2)))
 (fun b=>(b.1,b.2.1,b.2.2.1,b.2.2.2.1,b.2.2.2.2.1.zip b.2.2.2.2.2)) (fun b=>b.2.2.2.2.1.length=b.2.2.2.2.2.length)
 (fun a _=>by rw [unz_zip]) (fun b h=>by
  have:=zip_unz b.2.2.2.2.1 b.2.2.2.2.2 h
  simp only [Prod.mk.injEq] at this
  rw [this.1,this.2]) (fun a=>by simp)
open Classical in
noncomputable def x_hp (p:x_d) (l:List Int):Option x_ai:=match (x_0h p.1.toNat).dec l with
 | some (k,[])=>if KOk p k then some k else none
 | _=>none
noncomputable def hdo0 (p:x_d) (h:x_dh) (r:x_df):x_dh:=open Classical in
 if r.1=1 then (r.2.1,r.2.2.1,h.2.2.1,h.2.2.2)
 else if r.1=2 then (if x_pf h.2.2.1 r.2.2.2.1 r.2.1 r.2.2.2.2.1 then (h.1,h.2.1,x_li h.2.2.1 r.2.2.2.1 r.2.2.2.2.1,h.2.2.2) else h)
 else match x_hp p (x_co r.2.2.2.2.2) with
  | some k=>if r.2.2.2.1≤h.2.2.1.1 then h else (h.1,h.2.1,if x_k8 h.2.2.1 r.2.2.2.1=r.2.1 then x_hd h.2.2.1 r.2.2.2.1 else (r.2.2.2.1,r.2.1,[]),k)
  | none=>h
open Classical in
noncomputable def hdo (p:x_d) (h:x_dh) (r:x_df):x_dh:=if HOk p h∧NtOk r∧HOk p (hdo0 p h r) then hdo0 p h r else h
noncomputable def newK (p:x_d):x_ai:=(List.replicate p.1.toNat zRow,[],List.replicate 2 (0,[],[],List.replicate p.1.toNat 0),0,List.replicate 4 0,List.replicate 4 x_b7)
noncomputable def newH (p:x_d):x_dh:=(0, -1,(0,0,[]),newK p)
noncomputable def hof (p:x_d) (ns:List x_df):x_dh:=ns.foldl (hdo p) (newH p)
theorem x_wl {p:x_d} {ns:List x_df} {r:x_df}:hof p (ns++[r])=hdo p (hof p ns) r:=by unfold hof;rw [List.foldl_append];rfl
noncomputable def sumL (l:List Int):Int×Int:=l.foldl (fun q x=>((q.1+x) % 65521,(q.2+(q.1+x) % 65521) % 65521)) (1,0)
noncomputable def sum4 (l:List Int):List Int:=[(sumL l).1 % 256,(sumL l).1 / 256 ,(sumL l).2 % 256,(sumL l).2 / 256]
noncomputable def x_h3 (r:x_df):List Int:=(encN ((x_cp r).length:Int)++x_cp r)++sum4 (x_cp r)
theorem x_s1 (l:List Int) (hb:BOk l):(0≤(sumL l).1∧(sumL l).1<65521)∧(0≤(sumL l).2∧(sumL l).2<65521):=by
 unfold sumL
 have key:∀ (l:List Int) (q:Int×Int),((0≤q.1∧q.1<65521)∧(0≤q.2∧q.2<65521))→((0≤(l.foldl (fun q x=>((q.1+x) % 65521,(q.2+(q.1+x) % 65521) % 65521)) q).1∧(l.foldl (fun q x=>((q.1+x) % 65521,(q.2+(q.1+x) % 65521) % 65521)) q).1<65521)∧(0≤(l.foldl (fun q x=>((q.1+x) % 65521,(q.2+(q.1+x) % 65521) % 65521)) q).2∧(l.foldl (fun q x=>((q.1+x) % 65521,(q.2+(q.1+x) % 65521) % 65521)) q).2<65521)):=by
  intro l
  induction l with
  | nil=>exact fun q h=>h
  | cons x l ih=>
   intro q h
   rw [List.foldl_cons]
   exact ih _ ⟨by simp only;omega,by simp only;omega⟩
 exact key l (1,0) ⟨by decide,by decide⟩
theorem sum4_ok (l:List Int) (hb:BOk l):BOk (sum4 l):=by
 have:=x_s1 l hb
 intro x hx
 unfold sum4 at hx
 simp only [mem_cons,List.not_mem_nil,or_false] at hx
 rcases hx with rfl | rfl | rfl | rfl<;>omega
theorem cC_enc (c:TCmd):cC.enc c=encC c:=by
 show encN (c.1+1)++(encN c.2.1++(encN c.2.2.1++(encN c.2.2.2.1++(encN c.2.2.2.2.1++(encN c.2.2.2.2.2.1++(encT c.2.2.2.2.2.2.1++encT c.2.2.2.2.2.2.2))))))=_
 unfold encC x_i9
 simp only [List.flatMap_cons,List.flatMap_nil,List.append_assoc,List.append_nil,List.nil_append]
theorem cE_enc (e:x_c6):cE.enc e=encE e:=by
 show encN e.1++cC.enc e.2=_
 rw [cC_enc];rfl
theorem x_qt (r:x_df):x_tk.enc r=x_cp r:=by
 show encN r.1++(encN r.2.1++(encN (r.2.2.1+1)++(encN r.2.2.2.1++((encN (r.2.2.2.2.1.length:Int)++r.2.2.2.2.1.flatMap cE.enc)++encT r.2.2.2.2.2))))=_
 rw [show cE.enc=encE from funext cE_enc]
 unfold x_cp
 simp only [List.append_assoc]
theorem COk.cod {c:TCmd} (h:COk c):cC.ok c:=by
 have t:=h.tx
 have e:∀ {a b k l q n:Int} {x y:ByteArray},cC.ok (a,b,k,l,q,n,x,y)↔((0≤a+1∧a+1≤2147483647)∧(0≤b∧b≤2147483647)∧(0≤k∧k≤2147483647)∧(0≤l∧l≤2147483647)∧(0≤q∧q≤2147483647)∧(0≤n∧n≤2147483647)∧x.size≤2147483647∧y.size≤2147483647):=Iff.rfl
 obtain ⟨a,b,k,l,q,n,x,y⟩:=c
 rw [e]
 have t1:x.size≤30:=t.1
 have t2:y.size≤30:=t.2
 rcases h with ⟨_,h⟩ | h
 ·simp only [nobody,Prod.mk.injEq] at h
  obtain ⟨rfl,rfl,rfl,rfl,rfl,rfl,_⟩:=h
  exact ⟨by decide,by decide,by decide,by decide,by decide,by decide,by omega,by omega⟩
 ·obtain ⟨_,h1,h2,h3,h4,h5,h6,_⟩:=h
  simp only at h1 h2 h3 h4 h5 h6
  exact ⟨by omega,by omega,by omega,by omega,by omega,by omega,by omega,by omega⟩
theorem NtOk.cod {r:x_df} (h:NtOk r):x_tk.ok r:=by
 obtain ⟨h1,h2,h3,h4,h5⟩:=h
 have h40:=h3.2
 have hl:∀ e∈r.2.2.2.2.1,cE.ok e:=fun e he=>by
  obtain ⟨i,hi,rfl⟩:=List.mem_iff_getElem.1 he
  have:=h3.1 i hi
  rw [x_az hi] at this
  exact ⟨⟨this.1.1,by have:=this.1.2;omega⟩,this.2.cod⟩
 have hk:0≤r.1∧r.1≤2147483647:=by rcases h5 with h | h | h<;>omega
 have hv:0≤r.2.2.1+1∧r.2.2.1+1≤2147483647:=by rcases h5 with h | h | h<;>omega
 exact ⟨hk,⟨h1.1,by omega⟩,hv,⟨h2.1,by omega⟩,⟨by omega,hl⟩,by show r.2.2.2.2.2.size≤_;omega⟩
open Classical in
noncomputable def x_hm (l:List Int):Option (x_df×List Int):=(decN l).bind fun q=>(x_tk.dec (q.2.take q.1.toNat)).bind fun x=>
 if q.1+4≤(q.2.length:Int)∧x.2=[]∧NtOk x.1∧(q.2.drop q.1.toNat).take 4=sum4 (q.2.take q.1.toNat) then some (x.1,q.2.drop (q.1.toNat+4)) else none
theorem x_uh (l:List Int):(sum4 l).length=4:=rfl
theorem x_zz {r:x_df} (h:NtOk r) (l:List Int):x_hm (x_h3 r++l)=some (r,l):=by
 have hb:=(x_ho h).2
 have et:(x_cp r++(sum4 (x_cp r)++l)).take (x_cp r).length=x_cp r:=List.take_left' rfl
 have ed:(x_cp r++(sum4 (x_cp r)++l)).drop (x_cp r).length=sum4 (x_cp r)++l:=List.drop_left' rfl
 have e4:(sum4 (x_cp r)++l).take 4=sum4 (x_cp r):=List.take_left' rfl
 have ed4:(x_cp r++(sum4 (x_cp r)++l)).drop ((x_cp r).length+4)=l:=by rw [←List.drop_drop,ed];exact List.drop_left' rfl
 have ec:=x_tk.de r [] h.cod
 rw [x_qt,List.append_nil] at ec
 unfold x_hm x_h3
 rw [List.append_assoc,List.append_assoc,x_qh (by omega)]
 simp only [Option.bind_some,tz,et,ec,ed,e4,ed4]
 rw [if_pos ⟨by simp only [length_append,x_uh];omega,rfl,h,by rw [ed,et,e4]⟩]
theorem x_wg {l rest:List Int} {r:x_df} (hb:BOk l) (h:x_hm l=some (r,rest)):l=x_h3 r++rest∧NtOk r:=by
 unfold x_hm at h
 obtain ⟨⟨n,m⟩,h1,h2⟩:=Option.bind_eq_some_iff.1 h
 obtain ⟨rfl,h3,h4⟩:=x_pz hb h1
 obtain ⟨⟨x,y⟩,h5,h6⟩:=Option.bind_eq_some_iff.1 h2
 simp only at h5 h6
 split at h6
 ·rename_i h7
  obtain ⟨k1,rfl,k3,k4⟩:=h7
  simp only [sj_,Prod.mk.injEq] at h6
  obtain ⟨rfl,rfl⟩:=h6
  have e:=(x_tk.ed _ _ _ (fun y hy=>hb y (mem_append.2 (.inr (List.mem_of_mem_take hy)))) h5).1
  rw [x_qt,List.append_nil] at e
  have el:(x_cp x).length=n.toNat:=by rw [←e,length_take];omega
  refine ⟨?_,k3⟩
  unfold x_h3
  rw [el,show ((n.toNat:Nat):Int)=n by omega, ←e, ←k4,List.append_assoc,List.append_assoc]
  congr 1
  conv=>lhs;rw [←List.take_append_drop n.toNat m]
  congr 1
  conv=>lhs;rw [←List.take_append_drop 4 (m.drop n.toNat)]
  rw [List.drop_drop]
 ·cases h6
theorem x_rs (r:x_df):4≤(x_h3 r).length:=by
 unfold x_h3
 simp only [length_append,x_uh];omega
theorem x_yf:x_hm []=none:=by
 unfold x_hm decN
 simp [decF]
noncomputable def x_k9:Nat→List Int→List x_df×List Int
 | 0,l=>([],l)
 | f+1,l=>match x_hm l with
  | some q=>(q.1::(x_k9 f q.2).1,(x_k9 f q.2).2)
  | none=>([],l)
theorem x_r4:∀ (ns:List x_df) (f:Nat) (l:List Int),(∀ r∈ns,NtOk r)→ns.length<f→x_hm l=none→x_k9 f (ns.flatMap x_h3++l)=(ns,l)
 | [],f+1,l,_,_,h=>by
  show x_k9 (f+1) l=_
  unfold x_k9
  rw [h]
 | r::ns,f+1,l,h,hf,hl=>by
  rw [length_cons] at hf
  rw [List.flatMap_cons,List.append_assoc]
  unfold x_k9
  rw [x_zz (h r (by simp))]
  simp only
  rw [x_r4 ns f l (fun x hx=>h x (by simp [hx])) (by omega) hl]
end Go.Proofs.YtjfnlbdnfglmfaaGreat.Cu
