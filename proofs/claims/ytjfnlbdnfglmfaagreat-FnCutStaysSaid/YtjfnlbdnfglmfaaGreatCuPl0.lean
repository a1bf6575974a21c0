/- Plain facts of what the functions compute. -/
import Derived.Test.YtjfnlbdnfglmfaaGreatCuSh
import Derived.Test.YtjfnlbdnfglmfaaGreatKp
set_option linter.all false
set_option maxRecDepth 100000
namespace Go.Proofs.YtjfnlbdnfglmfaaGreat.Cu
open Go Go.Kn
open List (length_append length_cons length_nil length_take length_drop length_singleton length_set length_replicate length_map mem_append mem_singleton mem_cons)
theorem ll_ {α : Type}:(∀ a b:List α,(a++b).length=a.length+b.length)∧(∀ (x : α) (a:List α),(x::a).length=a.length+1)∧([]:List α).length=0∧(∀ (i:Nat) (a:List α),(a.take i).length=min i a.length)∧(∀ (i:Nat) (a:List α),(a.drop i).length=a.length-i):=
 ⟨fun _ _=>List.length_append,fun _ _=>List.length_cons,List.length_nil,fun _ _=>List.length_take,fun _ _=>List.length_drop⟩
def x_c9 (c:x_6):Prop:=0≤c.2.1∧c.1.length≤2000000
theorem and_le {x:Int} {m:Nat} (h:(m:Int)≤9223372036854775807) (hm:(BitVec.ofInt (IntKind.bits .i64) (m:Int)).toNat=m):0≤i6 ((BitVec.ofInt (IntKind.bits .i64) x &&& BitVec.ofInt (IntKind.bits .i64) (m:Int)).toNat:Int)∧i6 ((BitVec.ofInt (IntKind.bits .i64) x &&& BitVec.ofInt (IntKind.bits .i64) (m:Int)).toNat:Int)≤m:=by
 have h:(BitVec.ofInt (IntKind.bits .i64) x &&& BitVec.ofInt (IntKind.bits .i64) (m:Int)).toNat≤m:=by
  rw [BitVec.toNat_and,hm]
  exact Nat.and_le_right
 rw [w6 (by omega) (by omega)]
 omega
theorem and255 (x:Int):0≤i6 ((BitVec.ofInt (IntKind.bits .i64) x &&& BitVec.ofInt (IntKind.bits .i64) 255).toNat:Int)∧i6 ((BitVec.ofInt (IntKind.bits .i64) x &&& BitVec.ofInt (IntKind.bits .i64) 255).toNat:Int)≤255:=
 and_le (m:=255) (by decide) (by decide)
theorem x_mb {x n:Int} (h0:0≤x) (h:0<n):0≤Int.tmod x n∧Int.tmod x n<n:=⟨Int.tmod_nonneg n h0,Int.tmod_lt_of_pos x h⟩
theorem t_l1New {K:Nat} (hK:2097152≤K) (b:List Int) (h:b.length≤2000000):Tot (x_fe K b) fun r=>x_c9 r.1:=by
 unfold x_fe x_fe.b
 refine l2_ (L:=x_fe.l0 K b) (fun _ _ _=>rfl) (fun m q0 q1=>0≤q1∧q1+m=4000) (fun m x y L' hi k=>?_) (m:=4000) (by omega) (by omega)
 unfold x_fe.l0b
 refine ti (fun h1=>ti (fun h2=>tc hi.1 (tc h1 (k (m-1) _ _ (by omega) ?_))) fun _=>tr ⟨Int.le_refl 0,h⟩) fun _=>tr ⟨Int.le_refl 0,h⟩
 simp (disch:=omega) only [w6]
 omega
theorem x_ob {c:x_6} (h:x_c9 c):Tot (x_i2 c) fun r=>(0≤r.1∧r.1≤255)∧x_c9 r.2.1:=by
 unfold x_i2
 obtain ⟨h,h0⟩:=h
 refine ti (fun h1=>?_) (fun h1=>?_)
 ·refine tc h (tc h1 (tr ⟨and255 _,?_,h0⟩))
  show 0≤i6 (c.2.1+1)
  rw [w6 (by omega) (by omega)]
  omega
 ·exact tr ⟨and255 _,h,h0⟩
theorem x_u7 {c:x_6} (h:x_c9 c) (n:Int):Tot (x_k c n) fun r=>(0<n→0≤r.1∧r.1<n)∧(n≤0→r.1=0)∧x_c9 r.2.1:=by
 unfold x_k
 refine ti (fun h1=>tr ⟨fun h2=>absurd h1 (by omega),fun _=>rfl,h⟩) fun h1=>ti (fun h2=>?_) fun h2=>?_
 ·refine tb (x_ob h) fun v hv=>tc (by omega) (tr ⟨fun _=>x_mb hv.1.1 (by omega),fun h3=>absurd h3 h1,hv.2⟩)
 ·refine tb (x_ob h) fun v hv=>tb (x_ob hv.2) fun v3 h3=>tb (x_ob h3.2) fun v4 h4=>tb (x_ob h4.2) fun v5 h5=>tc (by omega) (tr ⟨fun _=>?_,fun h3=>absurd h3 h1,h5.2⟩)
  obtain ⟨⟨a1,a2⟩,_⟩:=hv
  obtain ⟨⟨b1,b2⟩,_⟩:=h3
  obtain ⟨⟨c1,c2⟩,_⟩:=h4
  obtain ⟨⟨d1,d2⟩,_⟩:=h5
  simp (disch:=omega) only [w6]
  exact x_mb (by omega) (by omega)
theorem x_af {c:x_6} (h:x_c9 c) (n:Int) (hn:0<n):Tot (x_k c n) fun r=>0≤r.1∧r.1<n∧x_c9 r.2.1:=
 (x_u7 h n).mono fun r hr=>⟨(hr.1 hn).1,(hr.1 hn).2,hr.2.2⟩
theorem x_uv {c:x_6} (h:x_c9 c) (l:List ByteArray) (hl:0<l.length):Tot (x_lj c l) fun r=>r.1∈l∧x_c9 r.2.1:=by
 unfold x_lj
 refine tb (x_af h _ (by omega)) fun v hv=>tc hv.1 (tc hv.2.1 (tr ⟨x_ad (by omega),hv.2.2⟩))
theorem x_ax {c:x_6} (h:x_c9 c) (l:List Int) (hl:0<l.length):Tot (x_7 c l) fun r=>r.1∈l∧x_c9 r.2.1:=by
 unfold x_7
 refine tb (x_af h _ (by omega)) fun v hv=>tc hv.1 (tc hv.2.1 (tr ⟨x_ad (by omega),hv.2.2⟩))
def okB (x:Int):Prop:=(97≤x∧x≤122)∨(48≤x∧x≤57)∨x=32
def TxOk (b:ByteArray):Prop:=b.size≤30∧ ∀ i:Nat,i<b.size→okB (x_fc b i)
theorem x_lx {K:Nat} (hK:2097152≤K) (b:ByteArray) (h:b.size<2097152):Tot (x_de K b) fun r=>Is r.1 (TxOk b):=by
 unfold x_de x_de.b
 refine l1_ (L:=x_de.l0 K b) (fun _ _=>rfl) (fun m q=> ∃ i:Nat,q=i∧i+m=b.size∧ ∀ j:Nat,j<i→okB (x_fc b j)) (fun m x L' hi k=>?_) (m:=b.size) (by omega) ⟨0,rfl,by omega,fun j hj=>by omega⟩
 obtain ⟨i,rfl,hm,ha⟩:=hi
 unfold x_de.l0b
 have go:i<b.size→okB (x_fc b i)→Tot (L' (i6 ((i:Int)+1))) fun r=>Is r.1 (TxOk b):=fun h1 h2=>by
  rw [w6 (by omega) (by omega)]
  refine k (m-1) _ (by omega) ⟨i+1,by push_cast;rfl,by omega,fun j hj=>?_⟩
  rcases Nat.lt_or_ge j i with h | h
  ·exact ha j h
  ·obtain rfl:j=i:=by omega
   exact h2
 have no:i<b.size→ ¬ okB (x_fc b i)→Tot (some (false,())) fun r=>Is r.1 (TxOk b):=fun h1 h2=>tr (x_a fun h3=>h2 (h3.2 i h1))
 have hlt:((i:Nat):Int)<((b.size:Nat):Int)→i<b.size:=fun h=>by omega
 unfold okB at go no
 repeat' (first | refine ti (fun _=>?_) (fun _=>?_) | refine tn (fun _=>?_) (fun _=>?_) | (refine tE ?_;omega))
 all_goals first | (refine go (by omega) ?_;omega) | (refine no (by omega) ?_;omega) | skip
 refine tr ⟨fun h1=>⟨?_,fun j hj=>ha j (by omega)⟩,fun h1=>?_⟩
 ·have:=of_decide_eq_true h1;omega
 ·have:=h1.1;exact decide_eq_true (by omega)
theorem x_bk (x a b:Int):Tot (x_bj x a b) fun r=>Is r.1 (a≤x∧x≤b):=by
 unfold x_bj
 refine ti (fun h=>tr ⟨fun h1=>⟨h,by simpa using h1⟩,fun h1=>by simpa using h1.2⟩) fun h=>tr (x_a fun h1=>h h1.1)
def IOk (x:x_l9):Prop:=TxOk x.2.1∧TxOk x.2.2.1∧(0≤x.2.2.2.1∧x.2.2.2.1≤3)∧(0≤x.2.2.2.2∧x.2.2.2.2≤100000)
def ISz (x:x_l9):Prop:=x.2.1.size<2097152∧x.2.2.1.size<2097152
theorem IOk.sz {x:x_l9} (h:IOk x):ISz x:=⟨by have:=h.1.1;omega,by have:=h.2.1.1;omega⟩
theorem x_zl {K:Nat} (hK:2097152≤K) (x:x_l9) (h:ISz x):Tot (x_ra K x) fun r=>Is r.1 (IOk x):=by
 unfold x_ra
 refine tb (x_lx hK _ h.1) fun v1 h1=>tf h1 (fun a1=>?_) fun a1=>tr (x_a fun h=>a1 h.1)
 refine tb (x_lx hK _ h.2) fun v2 h2=>tf h2 (fun a2=>?_) fun a2=>tr (x_a fun h=>a2 h.2.1)
 refine tb (x_bk _ _ _) fun v3 h3=>tf h3 (fun a3=>?_) fun a3=>tr (x_a fun h=>a3 h.2.2.1)
 refine tb (x_bk _ _ _) fun v4 h4=>tr ?_
 exact ⟨fun h=>⟨a1,a2,a3,h4.1 h⟩,fun h=>h4.2 h.2.2.2⟩
def RIt (r:TRow) (i:Nat):Prop:=IOk (r.2.2.getD i x_ce)∧(r.1≤(r.2.2.getD i x_ce).1∧(r.2.2.getD i x_ce).1≤r.2.1-1)∧(0<i→(r.2.2.getD (i-1) x_ce).1<(r.2.2.getD i x_ce).1)
def ROk (r:TRow):Prop:=(0≤r.1∧r.1≤r.2.1)∧r.2.1≤100000∧r.2.2.length≤80∧ ∀ i:Nat,i<r.2.2.length→RIt r i
def RSz (r:TRow):Prop:=r.2.2.length<2097152∧ ∀ x∈r.2.2,ISz x
theorem ROk.sz {r:TRow} (h:ROk r):RSz r:=⟨by have:=h.2.2.1;omega,fun x hx=>by
 obtain ⟨i,hi,rfl⟩:=List.mem_iff_getElem.1 hx
 have:=(h.2.2.2 i hi).1.sz
 rwa [x_az hi] at this⟩
theorem x_l4 (r:TRow) (h:RSz r):Tot (x_h9 r) fun x=>x.1=r:=by
 unfold x_h9
 have:=h.1
 exact tc (by show _≤70368744177664;(try dsimp only);(try simp only [ll_]);omega) (tr rfl)
theorem x_sm {K:Nat} (hK:2097152≤K) (r:TRow) (h:RSz r):Tot (x_ec K r) fun x=>Is x.1 (ROk r):=by
 obtain ⟨hl,hs⟩:=h
 unfold x_ec x_ec.b
 by_cases hn:0≤r.2.1∧r.2.1≤100000
 ·refine l1_ (L:=x_ec.l0 K r) (fun _ _=>rfl) (fun m q=> ∃ i:Nat,q=i∧i+m=r.2.2.length∧ ∀ j:Nat,j<i→RIt r j) (fun m x L' hi k=>?_) (m:=r.2.2.length) (by omega) ⟨0,rfl,by omega,fun j hj=>by omega⟩
  obtain ⟨i,rfl,hm,ha⟩:=hi
  unfold x_ec.l0b
  have hlt:((i:Nat):Int)<((r.2.2.length:Nat):Int)→i<r.2.2.length:=fun h=>by omega
  refine ti (fun h1=>tc (by omega) (tc h1 ?_)) fun h1=>?_
  ·have h1:=hlt h1
   rw [tz]
   refine tb (x_zl hK _ (hs _ (x_ad h1))) fun v1 g1=>tg g1 (fun a1=>tr (x_a fun h=>a1 (h.2.2.2 i h1).1)) fun a1=>?_
   refine t2_ (by omega) (?_)
   rw [w6 (n:=r.2.1-1) (by omega) (by omega)]
   refine tb (x_bk _ _ _) fun v2 g2=>tg g2 (fun a2=>tr (x_a fun h=>a2 (h.2.2.2 i h1).2.1)) fun a2=>?_
   have go:(0<i→(r.2.2.getD (i-1) x_ce).1<(r.2.2.getD i x_ce).1)→Tot (L' (i6 ((i:Int)+1))) fun x=>Is x.1 (ROk r):=fun h3=>by
    rw [w6 (by omega) (by omega)]
    refine k (m-1) _ (by omega) ⟨i+1,by push_cast;rfl,by omega,fun j hj=>?_⟩
    rcases Nat.lt_or_ge j i with h | h
    ·exact ha j h
    ·obtain rfl:j=i:=by omega
     exact ⟨a1,a2,h3⟩
   refine ti (fun h3=>?_) fun h3=>go fun h=>absurd h (by omega)
   rw [w6 (n:=(i:Int)-1) (by omega) (by omega),show Int.toNat ((i:Int)-1)=i-1 by omega]
   refine t2_ (by omega) ((t2_ (by omega) (?_)))
   exact ti (fun h4=>tr (x_a fun h=>by have:=(h.2.2.2 i h1).2.2 (by omega);omega)) fun h4=>go fun _=>by omega
  ·refine tb (x_bk _ _ _) fun v3 g3=>tf g3 (fun a3=>ti (fun h2=>tr ?_) fun h2=>absurd hn.2 h2) fun a3=>tr (x_a fun h=>a3 h.1)
   exact ⟨fun h4=>⟨a3,h2,by have:=of_decide_eq_true h4;omega,fun j hj=>ha j (by omega)⟩,fun h4=>decide_eq_true (by have:=h4.2.2.1;omega)⟩
 ·have no:¬ ROk r:=fun h=>hn ⟨by have:=h.1;omega,h.2.1⟩
  refine l1_ (L:=x_ec.l0 K r) (fun _ _=>rfl) (fun m q=> ∃ i:Nat,q=i∧i+m=r.2.2.length) (fun m x L' hi k=>?_) (m:=r.2.2.length) (by omega) ⟨0,rfl,by omega⟩
  obtain ⟨i,rfl,hm⟩:=hi
  unfold x_ec.l0b
  have hlt:((i:Nat):Int)<((r.2.2.length:Nat):Int)→i<r.2.2.length:=fun h=>by omega
  refine ti (fun h1=>tc (by omega) (tc h1 ?_)) fun h1=>?_
  ·have h1:=hlt h1
   rw [tz]
   refine tb (x_zl hK _ (hs _ (x_ad h1))) fun v1 g1=>tg g1 (fun a1=>tr (x_a no)) fun a1=>?_
   refine t2_ (by omega) (?_)
   refine tb (x_bk _ _ _) fun v2 g2=>tg g2 (fun a2=>tr (x_a no)) fun a2=>?_
   have go:Tot (L' (i6 ((i:Int)+1))) fun x=>Is x.1 (ROk r):=by
    rw [w6 (by omega) (by omega)]
    exact k (m-1) _ (by omega) ⟨i+1,by push_cast;rfl,by omega⟩
   refine ti (fun h3=>?_) fun h3=>go
   rw [w6 (n:=(i:Int)-1) (by omega) (by omega),show Int.toNat ((i:Int)-1)=i-1 by omega]
   refine t2_ (by omega) ((t2_ (by omega) (?_)))
   exact ti (fun h4=>tr (x_a no)) fun h4=>go
  ·refine tb (x_bk _ _ _) fun v3 g3=>tf g3 (fun a3=>ti (fun h2=>absurd ⟨by omega,h2⟩ hn) fun h2=>tr (x_a no)) fun a3=>tr (x_a no)
def x_ur (r:TRow) (k t:ByteArray) (w tm:Int):TRow:=(r.1,r.2.1+1,r.2.2++[(r.2.1,k,t,w,tm)])
theorem rowAdd_ok {r:TRow} (h:ROk r) (hl:r.2.2.length<80) (hn:r.2.1<100000) {k t:ByteArray} {w tm:Int} (hi:IOk (r.2.1,k,t,w,tm)):ROk (x_ur r k t w tm):=by
 obtain ⟨h1,h2,h3,h4⟩:=h
 refine ⟨⟨h1.1,by show r.1≤r.2.1+1;omega⟩,by show r.2.1+1≤100000;omega,by show (r.2.2++[_]).length≤80;simp;omega,fun i h=>?_⟩
 have h:i<(r.2.2++[(r.2.1,k,t,w,tm)]).length:=h
 rw [length_append,length_singleton] at h
 unfold RIt x_ur
 show IOk ((r.2.2++[(r.2.1,k,t,w,tm)]).getD i x_ce)∧(r.1≤((r.2.2++[(r.2.1,k,t,w,tm)]).getD i x_ce).1∧((r.2.2++[(r.2.1,k,t,w,tm)]).getD i x_ce).1≤r.2.1+1-1)∧(0<i→((r.2.2++[(r.2.1,k,t,w,tm)]).getD (i-1) x_ce).1<((r.2.2++[(r.2.1,k,t,w,tm)]).getD i x_ce).1)
 rcases Nat.lt_or_ge i r.2.2.length with hi' | hi'
 ·rw [x_d3 hi',x_d3 (i:=i-1) (by omega)]
  obtain ⟨a,b,c⟩:=h4 i hi'
  exact ⟨a,⟨b.1,by omega⟩,c⟩
 ·obtain rfl:i=r.2.2.length:=by omega
  rw [x_if]
  refine ⟨hi,⟨by show r.1≤r.2.1;omega,by show r.2.1≤_;omega⟩,fun h0=>?_⟩
  rw [x_d3 (by omega)]
  have:=(h4 (r.2.2.length-1) (by omega)).2.1.2
  show _<r.2.1
  omega
theorem rowAdd_sz {r:TRow} (h:RSz r) (hl:r.2.2.length<2097151) {k t:ByteArray} (hk:k.size<2097152) (ht:t.size<2097152) (w tm:Int):RSz (x_ur r k t w tm):=by
 refine ⟨by show (r.2.2++[_]).length<_;simp;omega,fun x hx=>?_⟩
 have hx:x∈r.2.2++[_]:=hx
 rw [mem_append,mem_singleton] at hx
 rcases hx with hx | rfl
 ·exact h.2 x hx
 ·exact ⟨hk,ht⟩
theorem x_t4 {K:Nat} (hK:2097152≤K) (r:TRow) (h:RSz r) (hl:r.2.2.length<2097151) (k t:ByteArray) (hk:k.size<2097152) (ht:t.size<2097152) (w tm:Int) :
  Tot (x_l0 K r k t w tm) fun x=>(ROk r∧ROk (x_ur r k t w tm)∧x=(x_ur r k t w tm,r.2.1,true,()))∨(¬ (ROk r∧ROk (x_ur r k t w tm))∧x=(r,0,false,())):=by
 unfold x_l0
 refine tv (x_l4 r h) ?_
 refine tb (x_sm hK r h) fun v2 h2=>tg h2 (fun a2=>tr (.inr ⟨fun h=>a2 h.1,rfl⟩)) fun a2=>tc (by show _≤70368744177664;(try dsimp only);(try simp only [ll_]);omega) ?_
 have e:i6 (r.2.1+1)=r.2.1+1:=w6 (by have:=a2.1;omega) (by have:=a2.2.1;omega)
 rw [e]
 refine tb (x_sm hK _ (rowAdd_sz h hl hk ht w tm)) fun v3 h3=>tg h3 (fun a3=>?_) fun a3=>tr (.inl ⟨a2,a3,rfl⟩)
 exact tv (x_l4 r h) (tr (.inr ⟨fun h=>a3 h.2,rfl⟩))
theorem row_drop {r:TRow} (h:ROk r) {n:Nat} {s:Int} (h0:0≤s) (hs:s≤r.2.1) (hf:∀ i,n≤i→i<r.2.2.length→s≤(r.2.2.getD i x_ce).1):ROk (s,r.2.1,r.2.2.drop n):=by
 obtain ⟨h1,h2,h3,h4⟩:=h
 refine ⟨⟨h0,hs⟩,h2,by show (r.2.2.drop n).length≤80;rw [length_drop];omega,fun i h=>?_⟩
 have h:i<(r.2.2.drop n).length:=h
 rw [length_drop] at h
 unfold RIt
 show IOk ((r.2.2.drop n).getD i x_ce)∧(s≤((r.2.2.drop n).getD i x_ce).1∧((r.2.2.drop n).getD i x_ce).1≤r.2.1-1)∧(0<i→((r.2.2.drop n).getD (i-1) x_ce).1<((r.2.2.drop n).getD i x_ce).1)
 rw [x_m2,x_m2]
 obtain ⟨a,b,c⟩:=h4 (n+i) (by omega)
 refine ⟨a,⟨hf _ (by omega) (by omega),b.2⟩,fun hi=>?_⟩
 have:=c (by omega)
 rwa [show n+(i-1)=n+i-1 by omega]
theorem row_lt {r:TRow} (h:ROk r) {i j:Nat} (hij:i≤j) (hj:j<r.2.2.length):(r.2.2.getD i x_ce).1≤(r.2.2.getD j x_ce).1:=by
 induction j with
 | zero=>
      obtain rfl:i=0:=by omega
      exact Int.le_refl _
 | succ j ih=>
  rcases Nat.lt_or_ge i (j+1) with h1 | h1
  ·have:=(h.2.2.2 (j+1) hj).2.2 (by omega)
   have:=ih (by omega) (by omega)
   simp only [Nat.add_sub_cancel] at *
   omega
  ·obtain rfl:i=j+1:=by omega
   exact Int.le_refl _
theorem x_v0 {K:Nat} (hK:2097152≤K) (r:TRow) (h:RSz r) (l k:Int) (hl:l≤1000):Tot (x_a0 K r l k) fun x=>(ROk r→ROk x.1∧x.1.2.1=r.2.1∧x.1.2.2.length≤r.2.2.length)∧(¬ ROk r→x.1=r):=by
 unfold x_a0 x_a0.b
 have same:(ROk r→ROk r∧r.2.1=r.2.1∧r.2.2.length≤r.2.2.length)∧(¬ ROk r→r=r):=⟨fun h=>⟨h,rfl,Nat.le_refl _⟩,fun _=>rfl⟩
 refine tv (x_l4 r h) (ti (fun h1=>tr same) fun h1=>ti (fun h2=>tr same) fun h2=>?_)
 refine tb (x_sm hK r h) fun v2 g2=>tg g2 (fun a2=>tr same) fun a2=>?_
 have hn:=a2.2.1
 have hst:=a2.1
 refine l3_ (L:=x_a0.l0 K r l k) (b:=fun L'=>x_a0.l0b K r l k (x_a0.l1 K r l k L' K)) (fun _ _ _ _=>rfl) (fun m s v q=>v.1=r∧ROk (s,r.2.1,q)∧q.length=m∧m≤r.2.2.length) (fun m s v q L' hi kk=>?_) (m:=r.2.2.length) (by have:=h.1;omega) ⟨rfl,a2,rfl,Nat.le_refl _⟩
 obtain ⟨hv,hr,hm,hmr⟩:=hi
 have hq80:q.length≤80:=hr.2.2.1
 have fin:(ROk r→ROk (s,v.1.2.1,q)∧v.1.2.1=r.2.1∧q.length≤r.2.2.length)∧(¬ ROk r→(s,v.1.2.1,q)=r):=⟨fun _=>⟨by rw [hv];exact hr,by rw [hv],by omega⟩,fun h=>absurd a2 h⟩
 unfold x_a0.l0b
 refine ti (fun h3=>?_) fun h3=>tr fin
 have h0:0<q.length:=by omega
 refine t2_ (by omega) ((tc (by omega) ?_))
 have hb:∀ i,i<q.length→0≤(q.getD i x_ce).1∧(q.getD i x_ce).1≤r.2.1-1:=fun i hi=>by
  have:=(hr.2.2.2 i hi).2.1
  have:=hr.1.1
  constructor
  ·show 0≤_
   have h5:s≤(q.getD i x_ce).1:=(hr.2.2.2 i hi).2.1.1
   have h6:0≤s:=hr.1.1
   omega
  ·exact (hr.2.2.2 i hi).2.1.2
 have hd:∀ i,i<q.length→i6 (Int.tdiv (q.getD i x_ce).1 l)=Int.tdiv (q.getD i x_ce).1 l:=fun i hi=>by
  have:=x_sb (hb i hi).1 (show 0<l by omega)
  have:=(hb i hi).2
  exact w6 (by omega) (by omega)
 have hn1:0≤r.2.1-1:=by have:=hb 0 h0;omega
 have hdn:=x_sb hn1 (show 0<l by omega)
 rw [w6 (n:=r.2.1-1) (by omega) (by omega),w6 (n:=Int.tdiv (r.2.1-1) l) (by omega) (by omega),hd 0 h0]
 refine ti (fun h4=>tr fin) fun h4=>?_
 have hlt:Int.tdiv (q.getD 0 x_ce).1 l<Int.tdiv (r.2.1-1) l:=by
  have:=x_vi (hb 0 h0).1 (hb 0 h0).2 (show 0<l by omega)
  omega
 have hstep:=x_vs hn1 (show 0<l by omega) hlt
 have h00:=x_sb (hb 0 h0).1 (show 0<l by omega)
 have hpos:0≤(Int.tdiv (q.getD 0 x_ce).1 l+1)*l:=Int.mul_nonneg (by omega) (by omega)
 have cut:∀ (v':TRow×Unit) (j:Nat),v'.1=r→0<j→j≤q.length→(∀ t,j≤t→t<q.length→(Int.tdiv (q.getD 0 x_ce).1 l+1)*l≤(q.getD t x_ce).1)→Tot (L' (i6 ((i6 (Int.tdiv (q.getD 0 x_ce).1 l+1))*l)) v' ([]++(q.take (Int.toNat ((q.length:Nat):Int))).drop (Int.toNat (j:Int)))) fun x=>(ROk r→ROk x.1∧x.1.2.1=r.2.1∧x.1.2.2.length≤r.2.2.length)∧(¬ ROk r→x.1=r):=fun v' j hv' hj0 hjl hf=>by
  have:=(hb 0 h0).2
  rw [w6 (n:=Int.tdiv (q.getD 0 x_ce).1 l+1) (by omega) (by omega),w6 (by omega) (by omega),List.nil_append,tz,tz,List.take_length]
  exact kk (q.length-j) _ _ _ (by omega) ⟨hv',row_drop (r:=(s,r.2.1,q)) hr hpos (by show _≤r.2.1;omega) (fun t h1 h2=>hf t h1 h2),by rw [length_drop],by omega⟩
 refine l4_ (L:=x_a0.l1 K r l k L') (b:=x_a0.l1b K r l k L') (fun _ _ _ _ _=>rfl) (fun m' q' i s' v'=>q'=q∧v'.1=r∧ ∃ j:Nat,i=j∧j+m'=q.length∧ ∀ t,t<j→Int.tdiv (q.getD t x_ce).1 l=Int.tdiv (q.getD 0 x_ce).1 l) (fun m' q' i s' v' L'' hi k'=>?_) (m:=q.length) (by omega) ⟨rfl,hv,0,rfl,by omega,fun t ht=>by omega⟩
 obtain ⟨rfl,hv',j,rfl,hj,hall⟩:=hi
 unfold x_a0.l1b
 refine ti (fun h5=>?_) fun h5=>?_
 ·have h5:j<q'.length:=by omega
  refine t2_ (by omega) ((tc (by omega) ?_))
  rw [hd 0 h0,tz,hd j h5]
  refine ti (fun h6=>?_) fun h6=>?_
  ·rw [wi (i:=j) (by omega)]
   refine k' (m'-1) _ _ _ _ (by omega) ⟨rfl,hv',j+1,by push_cast;rfl,by omega,fun t ht=>?_⟩
   rcases Nat.lt_or_ge t j with h | h
   ·exact hall t h
   ·obtain rfl:t=j:=by omega
    exact h6
  ·have hj0:0<j:=by
    rcases Nat.eq_zero_or_pos j with h | h
    ·subst h;exact absurd rfl h6
    ·exact h
   refine t2_ (by omega) ((t2_ (by omega) ((tc (by show _≤70368744177664;(try dsimp only);(try simp only [ll_]);omega) ?_))))
   rw [←hd 0 h0]
   have e:=hd 0 h0
   rw [e]
   refine cut v' j hv' hj0 (by omega) fun t h1 h2=>?_
   have a1:=x_vi (hb 0 h0).1 (row_lt hr (Nat.zero_le j) h5) (show 0<l by omega)
   have a2:=x_vs (hb j h5).1 (show 0<l by omega) (show Int.tdiv (q'.getD 0 x_ce).1 l<Int.tdiv (q'.getD j x_ce).1 l by
    have:Int.tdiv (q'.getD 0 x_ce).1 l≤Int.tdiv (q'.getD j x_ce).1 l:=a1
    omega)
   have a3:(q'.getD j x_ce).1≤(q'.getD t x_ce).1:=row_lt hr h1 h2
   omega
 ·obtain rfl:j=q'.length:=by omega
  refine t2_ (by omega) ((t2_ (by omega) ((tc (by simp only [ll_];omega) ?_))))
  rw [hd 0 h0]
  exact cut v' _ hv' h0 (Nat.le_refl _) fun t h1 h2=>by omega
theorem x_zv {K:Nat} (hK:2097152≤K) (r:TRow) (h:r.2.2.length<2097152) (i:Nat) (hi:i<r.2.2.length):Tot (x_ca K r (i:Int)) fun x=>Is x.1 (∃ k,i<k∧k<r.2.2.length∧(r.2.2.getD k x_ce).2.1.data.toList=(r.2.2.getD i x_ce).2.1.data.toList):=by
 unfold x_ca x_ca.b
 rw [w6 (by omega) (by omega)]
 refine l1_ (L:=x_ca.l0 K r (i:Int)) (fun _ _=>rfl) (fun m q=> ∃ j:Nat,q=j∧i<j∧j+m=r.2.2.length∧ ∀ k,i<k→k<j→ ¬ (r.2.2.getD k x_ce).2.1.data.toList=(r.2.2.getD i x_ce).2.1.data.toList) (fun m x L' hi k=>?_) (m:=r.2.2.length-(i+1)) (by omega) ⟨i+1,by push_cast;rfl,by omega,by omega,fun k h1 h2=>by omega⟩
 obtain ⟨j,rfl,hij,hm,ha⟩:=hi
 unfold x_ca.l0b
 refine ti (fun h1=>?_) fun h1=>tr (x_a fun ⟨k,h2,h3,h4⟩=>ha k h2 (by omega) h4)
 refine tc (by omega) (tc h1 (t2_ (by omega) (?_)))
 rw [tz,tz]
 refine ti (fun h2=>tr (x_eg ⟨j,hij,by omega,h2⟩)) fun h2=>?_
 rw [w6 (by omega) (by omega)]
 refine k (m-1) _ (by omega) ⟨j+1,by push_cast;rfl,by omega,by omega,fun t h3 h4=>?_⟩
 rcases Nat.lt_or_ge t j with h | h
 ·exact ha t h3 h
 ·obtain rfl:t=j:=by omega
  exact h2
def x_0k (r:TRow) (i:Nat) (q:List x_l9):Prop:=q.length≤i∧(∀ j,j<q.length→RIt (r.1,r.2.1,q) j)∧ ∀ x∈q, ∀ t,i≤t→t<r.2.2.length→x.1<(r.2.2.getD t x_ce).1
theorem part_skip {r:TRow} {i:Nat} {q:List x_l9} (h:x_0k r i q):x_0k r (i+1) q:=⟨by have:=h.1;omega,h.2.1,fun x hx t h1 h2=>h.2.2 x hx t (by omega) h2⟩
theorem part_take {r:TRow} (hr:ROk r) {i:Nat} {q:List x_l9} (h:x_0k r i q) (hi:i<r.2.2.length):x_0k r (i+1) (q++[r.2.2.getD i x_ce]):=by
 obtain ⟨h1,h2,h3⟩:=h
 refine ⟨by simp;omega,fun j hj=>?_,fun x hx t h4 h5=>?_⟩
 ·rw [length_append,length_singleton] at hj
  unfold RIt
  show IOk ((q++[r.2.2.getD i x_ce]).getD j x_ce)∧(r.1≤((q++[r.2.2.getD i x_ce]).getD j x_ce).1∧((q++[r.2.2.getD i x_ce]).getD j x_ce).1≤r.2.1-1)∧(0<j→((q++[r.2.2.getD i x_ce]).getD (j-1) x_ce).1<((q++[r.2.2.getD i x_ce]).getD j x_ce).1)
  rcases Nat.lt_or_ge j q.length with h | h
  ·rw [x_d3 h,x_d3 (i:=j-1) (by omega)]
   exact h2 j h
  ·obtain rfl:j=q.length:=by omega
   rw [x_if]
   obtain ⟨a,b,_⟩:=hr.2.2.2 i hi
   refine ⟨a,b,fun h0=>?_⟩
   rw [x_d3 (by omega)]
   exact h3 _ (x_ad (by omega)) i (Nat.le_refl _) hi
 ·rw [mem_append,mem_singleton] at hx
  rcases hx with hx | rfl
  ·exact h3 x hx t (by omega) h5
  ·have h6:=(hr.2.2.2 t h5).2.2 (by omega)
   have h7:=row_lt hr (show i≤t-1 by omega) (by omega)
   omega
theorem x_wj {K:Nat} (hK:2097152≤K) (r:TRow) (h:RSz r) (l:Int) (hl:l≤1000):Tot (x_c5 K r l) fun x=>(ROk r→ROk x.1∧x.1.2.1=r.2.1∧x.1.2.2.length≤r.2.2.length)∧(¬ ROk r→x.1=r):=by
 unfold x_c5 x_c5.b
 have same:(ROk r→ROk r∧r.2.1=r.2.1∧r.2.2.length≤r.2.2.length)∧(¬ ROk r→r=r):=⟨fun h=>⟨h,rfl,Nat.le_refl _⟩,fun _=>rfl⟩
 refine ti (fun h1=>tv (x_l4 r h) (tr same)) fun h1=>?_
 refine tb (x_sm hK r h) fun v2 g2=>tg g2 (fun a2=>tv (x_l4 r h) (tr same)) fun a2=>?_
 have h80:=a2.2.2.1
 refine l2_ (L:=x_c5.l0 K r l) (fun _ _ _=>rfl) (fun m x q=> ∃ i:Nat,x=i∧i+m=r.2.2.length∧x_0k r i q) (fun m x q L' hi k=>?_) (m:=r.2.2.length) (by omega) ⟨0,rfl,by omega,Nat.le_refl _,fun j h=>absurd h (by simp),fun x hx=>by simp at hx⟩
 obtain ⟨i,rfl,hm,hp⟩:=hi
 have hql:=hp.1
 unfold x_c5.l0b
 refine ti (fun h1=>?_) fun h1=>tr ⟨fun _=>⟨⟨a2.1,a2.2.1,by show q.length≤80;omega,hp.2.1⟩,rfl,by show q.length≤_;omega⟩,fun h=>absurd a2 h⟩
 have h1:i<r.2.2.length:=by omega
 refine t2_ (by omega) (?_)
 rw [tz,wi (i:=i) (by omega)]
 have tk:=k (m-1) _ (q++[r.2.2.getD i x_ce]) (by omega) ⟨i+1,by push_cast;rfl,by omega,part_take a2 hp h1⟩
 have sk:=k (m-1) _ q (by omega) ⟨i+1,by push_cast;rfl,by omega,part_skip hp⟩
 refine ti (fun h2=>tc (by show _≤70368744177664;(try dsimp only);(try simp only [ll_]);omega) tk) fun h2=>?_
 refine tb (x_zv hK r h.1 i h1) fun v4 g4=>tg g4 (fun a4=>tc (by show _≤70368744177664;(try dsimp only);(try simp only [ll_]);omega) tk) fun a4=>t2_ (by omega) ((ti (fun _=>tc (by show _≤70368744177664;(try dsimp only);(try simp only [ll_]);omega) tk) fun _=>sk))
theorem txt_ok {b:ByteArray} (h:b.size≤30) (k:∀ x∈b.data.toList,okB (x.toNat:Int)):TxOk b:=⟨h,fun i hi=>by
 unfold x_fc
 rw [tz]
 exact k _ (x_ad (by rw [x_m8];exact hi))⟩
theorem tx0:TxOk ByteArray.empty:=⟨by decide,fun i hi=>absurd hi (by show ¬ i<0;omega)⟩
theorem z03:(0:Int)≤0∧(0:Int)≤3:=by decide
theorem z0m:(0:Int)≤0∧(0:Int)≤100000:=by decide
theorem e30:ByteArray.empty.size≤30:=by decide
theorem x_h1 {c:x_6} (h:x_c9 c):Tot (x_fa c) fun r=>TxOk r.1∧x_c9 r.2.1:=by
 unfold x_fa
 refine tb (x_uv h _ (by decide)) fun v hv=>tr ⟨?_,hv.2⟩
 have:=hv.1
 simp only [mem_cons,List.not_mem_nil,or_false] at this
 unfold okB at *
 rcases this with e | e | e | e | e<;>rw [e]
 ·exact tx0
 all_goals refine txt_ok (by decide) fun x hx=>?_
 all_goals simp [bs] at hx
 all_goals unfold okB
 all_goals (try rcases hx with rfl | rfl | rfl | rfl)
 all_goals (try subst hx)
 all_goals simp
theorem TxOk.sz {b:ByteArray} (h:TxOk b):b.size<2097152:=by have:=h.1;omega
theorem zRow_ok:ROk (0,0,[]):=⟨⟨Int.le_refl _,Int.le_refl _⟩,by decide,by decide,fun i h=>absurd h (by simp)⟩
theorem x_r0 {K:Nat} (hK:2097152≤K) {c:x_6} (h:x_c9 c):Tot (x_a4 K c) fun r=>ROk r.1∧r.1.2.1≤13∧x_c9 r.2.1:=by
 unfold x_a4 x_a4.b
 refine tb (x_af h 14 (by omega)) fun v1 h1=>?_
 refine l1_ (L:=fun n (q:(Int×x_6×Unit)×Int×(Int×x_6×Unit)×Int×Int×List x_l9)=>x_a4.l0 K c n q.1 q.2.1 q.2.2.1 q.2.2.2.1 q.2.2.2.2.1 q.2.2.2.2.2)
  (b:=fun L' q=>x_a4.l0b K c (fun a b c d e f=>L' (a,b,c,d,e,f)) q.1 q.2.1 q.2.2.1 q.2.2.2.1 q.2.2.2.2.1 q.2.2.2.2.2) (fun _ _=>rfl)
  (fun m q=>q.1.1=v1.1∧x_c9 q.2.2.1.2.1∧ROk q.2.2.2∧ ∃ i:Nat,q.2.1=i∧i+m=v1.1.toNat∧q.2.2.2.2.1≤i∧q.2.2.2.2.2.length≤i) (fun m q L' hi k=>?_) (x:=(v1,0,v1,0,0,[])) (m:=v1.1.toNat) (by omega) ⟨rfl,h1.2.2,zRow_ok,0,rfl,by omega,Int.le_refl _,Nat.le_refl _⟩
 obtain ⟨v,x,u,r⟩:=q
 obtain ⟨hv,hc,hr,i,hx,hm,hn,hl⟩:=hi
 simp only at hv hc hr hx hn hl
 subst hx
 unfold x_a4.l0b
 simp only
 refine ti (fun a1=>?_) fun a1=>tr ⟨hr,by show r.2.1≤13;omega,hc⟩
 have a1:(i:Int)<v1.1:=by rw [←hv];exact a1
 rw [wi (i:=i) (by omega)]
 refine tb (x_h1 hc) fun v2 g2=>tb (x_h1 g2.2) fun v3 g3=>tb (x_af g3.2 4 (by omega)) fun v4 g4=>?_
 refine tb (x_t4 hK r hr.sz (by omega) _ _ g2.1.sz g3.1.sz _ _) fun v5 g5=>?_
 have hr5:ROk v5.1∧v5.1.2.1≤(i:Int)+1∧v5.1.2.2.length≤i+1:=by
  rcases g5 with ⟨_,a,e⟩ | ⟨_,e⟩
  ·rw [e];exact ⟨a,by show r.2.1+1≤_;omega,by show (r.2.2++[_]).length≤_;simp;omega⟩
  ·rw [e];exact ⟨hr,by show r.2.1≤_;omega,by show r.2.2.length≤_;omega⟩
 have go:∀ (u':Int×x_6×Unit) (r':TRow),x_c9 u'.2.1→ROk r'→r'.2.1≤(i:Int)+1→r'.2.2.length≤i+1→Tot (L' (v,(i:Int)+1,u',r'.1,r'.2.1,r'.2.2)) fun r=>ROk r.1∧r.1.2.1≤13∧x_c9 r.2.1:=fun u' r' hu hr' hn' hl'=>by
  refine k (m-1) (v,(i:Int)+1,u',r'.1,r'.2.1,r'.2.2) (by omega) ⟨hv,hu,hr',i+1,by push_cast;rfl,by omega,?_,hl'⟩
  push_cast
  exact hn'
 refine tb (x_af g4.2.2 12 (by omega)) fun v6 g6=>ti (fun _=>?_) fun _=>ti (fun _=>?_) fun _=>go _ _ g6.2.2 hr5.1 hr5.2.1 hr5.2.2
 ·refine tb (x_af g6.2.2 3 (by omega)) fun v7 g7=>tb (x_af g7.2.2 4 (by omega)) fun v8 g8=>?_
  rw [w6 (by omega) (by omega)]
  refine tb (x_v0 hK _ hr5.1.sz _ _ (by omega)) fun v9 g9=>?_
  obtain ⟨b1,b2,b3⟩:=g9.1 hr5.1
  exact go _ _ g8.2.2 b1 (by rw [b2];exact hr5.2.1) (by omega)
 ·refine tb (x_af g6.2.2 3 (by omega)) fun v7 g7=>?_
  rw [w6 (by omega) (by omega)]
  refine tb (x_wj hK _ hr5.1.sz _ (by omega)) fun v9 g9=>?_
  obtain ⟨b1,b2,b3⟩:=g9.1 hr5.1
  exact go _ _ g7.2.2 b1 (by rw [b2];exact hr5.2.1) (by omega)
def RSmall (r:TRow):Prop:=(-1≤r.1∧r.1≤100000)∧(0≤r.2.1∧r.2.1≤100001)∧r.2.2.length≤81∧ ∀ x∈r.2.2,(0≤x.1∧x.1≤100000)∧x.2.1.size≤30∧x.2.2.1.size≤30∧(0≤x.2.2.2.1∧x.2.2.2.1≤3)∧(0≤x.2.2.2.2∧x.2.2.2.2≤100000)
theorem ROk.small {r:TRow} (h:ROk r):RSmall r:=by
 obtain ⟨h1,h2,h3,h4⟩:=h
 refine ⟨⟨by omega,by omega⟩,⟨by omega,by omega⟩,by omega,fun x hx=>?_⟩
 obtain ⟨i,hi,rfl⟩:=List.mem_iff_getElem.1 hx
 have:=h4 i hi
 unfold RIt at this
 rw [x_az hi] at this
 obtain ⟨⟨a,b,c,d⟩,e,_⟩:=this
 exact ⟨⟨by omega,by omega⟩,a.1,b.1,c,d⟩
theorem t_l3Draw {K:Nat} (hK:2097152≤K) {c:x_6} (h:x_c9 c):Tot (x_dx K c) fun r=>RSmall r.1∧x_c9 r.2.1:=by
 unfold x_dx x_dx.b
 refine tb (x_r0 hK h) fun v1 h1=>tb (x_af h1.2.2 14 (by omega)) fun v2 h2=>?_
 have sm:=h1.1.small
 obtain ⟨s1,s2,s3,s4⟩:=sm
 refine ti (fun _=>?_) fun _=>ti (fun _=>?_) fun _=>ti (fun _=>?_) fun _=>ti (fun _=>?_) fun _=>tr ⟨h1.1.small,h2.2.2⟩
 ·refine tb (x_ax h2.2.2 _ (by decide)) fun v3 h3=>tr ⟨⟨?_,s2,s3,s4⟩,h3.2⟩
  have:=h3.1
  simp only [mem_cons,List.not_mem_nil,or_false] at this
  show -1≤v3.1∧v3.1≤100000
  omega
 ·refine tb (x_ax h2.2.2 _ (by decide)) fun v3 h3=>tr ⟨⟨s1,?_,s3,s4⟩,h3.2⟩
  have:=h3.1
  simp only [mem_cons,List.not_mem_nil,or_false] at this
  show 0≤v3.1∧v3.1≤100001
  omega
 ·refine tb (x_af h2.2.2 20 (by omega)) fun v5 h5=>tb (x_uv h5.2.2 _ (by decide)) fun v6 h6=>tc (by show _≤70368744177664;(try dsimp only);(try simp only [ll_]);omega) (tr ⟨⟨s1,s2,?_,fun x hx=>?_⟩,h6.2⟩)
  ·show (v1.1.2.2++[_]).length≤81
   have:=h1.1.2.2.1
   simp;omega
  ·have hx:x∈v1.1.2.2++[_]:=hx
   rw [mem_append,mem_singleton] at hx
   rcases hx with hx | rfl
   ·exact s4 x hx
   ·have:=h6.1
    simp only [mem_cons,List.not_mem_nil,or_false] at this
    refine ⟨⟨h5.1,by show v5.1≤_;omega⟩,?_,e30,z03,z0m⟩
    show v6.1.size≤30
    rcases this with e | e<;>rw [e]<;>decide
 ·refine l2_ (L:=x_dx.l0 K c) (fun _ _ _=>rfl) (fun m u q=>x_c9 u.2.1∧ROk q∧q.2.2.length+m=80∧q.2.1+m≤93) (fun m u q L' hi k=>?_) (m:=80-v1.1.2.2.length) (by omega) ⟨h2.2.2,h1.1,by have:=h1.1.2.2.1;omega,by have:=h1.2.1;have:=h1.1.2.2.1;omega⟩
  obtain ⟨hc,hr,hl,hn⟩:=hi
  unfold x_dx.l0b
  refine ti (fun a1=>?_) fun a1=>tr ⟨hr.small,hc⟩
  have ok:ROk (x_ur q ByteArray.empty ByteArray.empty 0 0):=rowAdd_ok hr (by omega) (by omega) ⟨tx0,tx0,z03,z0m⟩
  refine tb (x_t4 hK q hr.sz (by omega) _ _ (by decide) (by decide) _ _) fun v7 g7=>?_
  rcases g7 with ⟨_,_,e⟩ | ⟨e,_⟩
  ·rw [e]
   exact k (m-1) _ _ (by omega) ⟨hc,ok,by show (q.2.2++[_]).length+_=_;simp;omega,by show q.2.1+1+_≤_;omega⟩
  ·exact absurd ⟨hr,ok⟩ e
def GMem (g:x_ar) (i:Nat):Prop:=(0≤g.2.1.getD i 0∧g.2.1.getD i 0≤3)∧(0<i→g.2.1.getD (i-1) 0<g.2.1.getD i 0)∧(0≤g.2.2.1.getD i 0∧g.2.2.1.getD i 0≤100000)
def GOk (rows:Int) (g:x_ar):Prop:=(0≤g.1∧g.1≤100000)∧g.2.2.1.length=g.2.1.length∧(g.2.2.2.length:Int)=rows∧(∀ i,i<g.2.1.length→GMem g i)∧ ∀ i,i<g.2.2.2.length→0≤g.2.2.2.getD i 0∧g.2.2.2.getD i 0≤100000
theorem GOk.len {rows:Int} {g:x_ar} (h:GOk rows g):g.2.1.length≤4:=by
 have:∀ i,i<g.2.1.length→(i:Int)≤g.2.1.getD i 0:=by
  intro i
  induction i with
  | zero=>intro hi;exact (h.2.2.2.1 0 hi).1.1
  | succ i ih=>
   intro hi
   have h1:=ih (by omega)
   have h2:=(h.2.2.2.1 (i+1) hi).2.1 (by omega)
   simp only [Nat.add_sub_cancel] at h2
   omega
 rcases Nat.lt_or_ge g.2.1.length 5 with h5 | h5
 ·omega
 ·have h1:=this 4 (by omega)
  have h2:=(h.2.2.2.1 4 (by omega)).1.2
  omega
def GSz (g:x_ar):Prop:=g.2.1.length<2097152∧g.2.2.1.length<2097152∧g.2.2.2.length<2097152
theorem GOk.sz {rows:Int} {g:x_ar} (h:GOk rows g) (hr:rows≤4):GSz g:=⟨by have:=h.len;omega,by have:=h.len;have:=h.2.1;omega,by have:=h.2.2.1;omega⟩
theorem x_oq (rows:Int) (h:1≤rows∧rows≤4):Tot (x_im rows) fun x=>x.1=(0,[],[],List.replicate rows.toNat 0)∧GOk rows x.1:=by
 unfold x_im
 refine tb (x_bk _ _ _) fun v hv=>tg hv (fun a=>absurd h a) fun a=>tc rfl (tc (by omega) (tc (by show _≤70368744177664;(try dsimp only);(try simp only [ll_]);omega) (tr ⟨rfl,⟨Int.le_refl _,(by decide:(0:Int)≤100000)⟩,rfl,?_,fun i hi=>absurd hi (Nat.not_lt_zero _),fun i hi=>?_⟩)))
 ·show (((List.replicate rows.toNat (0:Int)).length:Nat):Int)=rows
  rw [length_replicate];omega
 ·have hi:i<(List.replicate rows.toNat (0:Int)).length:=hi
  show 0≤(List.replicate rows.toNat (0:Int)).getD i 0∧(List.replicate rows.toNat (0:Int)).getD i 0≤100000
  rw [x_az hi,List.getElem_replicate]
  decide
theorem t_l5At {K:Nat} (hK:2097152≤K) (g:x_ar) (h:g.2.1.length<2097152) (who:Int):Tot (x_hb K g who) fun x=>(x.1= -1∧ ∀ i,i<g.2.1.length→g.2.1.getD i 0≠who)∨ ∃ i:Nat,x.1=i∧i<g.2.1.length∧g.2.1.getD i 0=who:=by
 unfold x_hb x_hb.b
 refine l1_ (L:=x_hb.l0 K g who) (fun _ _=>rfl) (fun m q=> ∃ j:Nat,q=j∧j+m=g.2.1.length∧ ∀ k,k<j→g.2.1.getD k 0≠who) (fun m x L' hi k=>?_) (m:=g.2.1.length) (by omega) ⟨0,rfl,by omega,fun k h=>by omega⟩
 obtain ⟨j,rfl,hm,ha⟩:=hi
 unfold x_hb.l0b
 refine ti (fun h1=>tc (by omega) (tc h1 ?_)) fun h1=>tr (.inl ⟨rfl,fun i hi=>ha i (by omega)⟩)
 rw [tz]
 refine ti (fun h2=>tr (.inr ⟨j,rfl,by omega,h2⟩)) fun h2=>?_
 rw [w6 (by omega) (by omega)]
 refine k (m-1) _ (by omega) ⟨j+1,by push_cast;rfl,by omega,fun t ht=>?_⟩
 rcases Nat.lt_or_ge t j with h | h
 ·exact ha t h
 ·obtain rfl:t=j:=by omega
  exact h2
theorem x_lm (g:x_ar) (h:GSz g):Tot (x_g9 g) fun x=>x.1=g:=by
 unfold x_g9
 obtain ⟨h1,h2,h3⟩:=h
 exact tc (by show _≤70368744177664;(try dsimp only);(try simp only [ll_]);omega) (tc (by show _≤70368744177664;(try dsimp only);(try simp only [ll_]);omega) (tc (by show _≤70368744177664;(try dsimp only);(try simp only [ll_]);omega) (tr rfl)))
def x_ff {α : Type} (l:List α) (i:Nat):List α:=l.take i++l.drop (i+1)
theorem x_jc {α : Type} {l:List α} {i:Nat} (h:i<l.length):(x_ff l i).length=l.length-1:=by
 unfold x_ff
 rw [length_append,length_take,length_drop]
 omega
theorem x_jy {α : Type} {l:List α} {i j:Nat} {z : α} (h:i<l.length):(x_ff l i).getD j z=if j<i then l.getD j z else l.getD (j+1) z:=by
 unfold x_ff
 simp only [gd_,List.getElem?_append,length_take,List.getElem?_drop]
 rw [show min i l.length=i by omega]
 split
 ·rw [List.getElem?_take,if_pos (by assumption)]
 ·rw [show i+1+(j-i)=j+1 by omega]
theorem x_pg (g:x_ar) (h:GSz g) (hb:g.2.2.1.length=g.2.1.length) (i:Nat) (hi:i<g.2.1.length):Tot (x_es g (i:Int)) fun x=>x.1=(g.1,x_ff g.2.1 i,x_ff g.2.2.1 i,g.2.2.2):=by
 have hs:=h
 obtain ⟨h1,h2,h3⟩:=h
 unfold x_es
 refine tv (x_lm g hs) ?_
 rw [wi (i:=i) (by omega)]
 rw [show Int.toNat ((i:Int)+1)=i+1 by omega,tz,tz,tz,List.take_length,List.take_length,List.drop_zero,List.drop_zero]
 refine tc rfl (t2_ (by omega) ((tc (by show _≤70368744177664;(try dsimp only);(try simp only [ll_]);omega) (tc rfl (t2_ (by omega) ((tc (by omega) (tc (by show _≤70368744177664;(try dsimp only);(try simp only [ll_]);omega) ?_))))))))
 refine ti (fun h4=>?_) fun h4=>absurd (show ((i:Int)<((g.2.2.1.length:Nat):Int)) by omega) h4
 exact tc rfl (t2_ (by omega) ((tc (by show _≤70368744177664;(try dsimp only);(try simp only [ll_]);omega) (tc rfl (t2_ (by omega) ((tc (by omega) (tc (by show _≤70368744177664;(try dsimp only);(try simp only [ll_]);omega) (tr rfl)))))))))
theorem x_sv {rows:Int} {g:x_ar} (h:GOk rows g) {i:Nat} (hi:i<g.2.1.length):GOk rows (g.1,x_ff g.2.1 i,x_ff g.2.2.1 i,g.2.2.2):=by
 obtain ⟨h1,h2,h3,h4,h5⟩:=h
 refine ⟨h1,?_,h3,fun j hj=>?_,h5⟩
 ·show (x_ff g.2.2.1 i).length=(x_ff g.2.1 i).length
  rw [x_jc hi,x_jc (by omega),h2]
 ·have hj:j<(x_ff g.2.1 i).length:=hj
  rw [x_jc hi] at hj
  unfold GMem
  show (0≤(x_ff g.2.1 i).getD j 0∧(x_ff g.2.1 i).getD j 0≤3)∧(0<j→(x_ff g.2.1 i).getD (j-1) 0<(x_ff g.2.1 i).getD j 0)∧(0≤(x_ff g.2.2.1 i).getD j 0∧(x_ff g.2.2.1 i).getD j 0≤100000)
  rw [x_jy hi,x_jy hi,x_jy (by omega)]
  by_cases hji:j<i
  ·rw [if_pos hji,if_pos (show j-1<i by omega),if_pos hji]
   exact h4 j (by omega)
  ·rw [if_neg hji,if_neg hji]
   obtain ⟨a,b,c⟩:=h4 (j+1) (by omega)
   refine ⟨a,fun h0=>?_,c⟩
   have b:=b (by omega)
   simp only [Nat.add_sub_cancel] at b
   split
   ·obtain rfl:j=i:=by omega
    have:=(h4 j (by omega)).2.1 h0
    omega
   ·rwa [show j-1+1=j by omega]
def upN (n:Int):Int:=if 100000≤n then n else n+1
theorem t_l5Up (n:Int) (h : -9223372036854775808≤n):Tot (x_xc n) fun x=>x.1=upN n:=by
 unfold x_xc upN
 refine ti (fun h1=>tr (by rw [if_pos h1])) fun h1=>tr (by rw [if_neg h1,w6 (by omega) (by omega)])
theorem upN_ok {n:Int} (h:0≤n∧n≤100000):0≤upN n∧upN n≤100000:=by unfold upN;split<;>omega
theorem gen_ok {rows:Int} {g:x_ar} (h:GOk rows g) {n:Int} (hn:0≤n∧n≤100000):GOk rows (n,g.2):=⟨hn,h.2⟩
theorem x_or {K:Nat} (hK:2097152≤K) {rows:Int} (hr:rows≤4) (g:x_ar) (h:GOk rows g) (who:Int):Tot (x_gn K g who) fun x=>GOk rows x.1∧((∃ i,i<g.2.1.length∧g.2.1.getD i 0=who∧x.1=(upN g.1,x_ff g.2.1 i,x_ff g.2.2.1 i,g.2.2.2))∨((∀ i,i<g.2.1.length→g.2.1.getD i 0≠who)∧x.1=g)):=by
 have hs:=h.sz hr
 unfold x_gn
 refine tb (t_l5At hK g hs.1 who) fun v1 h1=>ti (fun a1=>?_) fun a1=>?_
 ·rcases h1 with ⟨_,h1⟩ | ⟨i,h1,_,_⟩
  ·exact tv (x_lm g hs) (tr ⟨h, .inr ⟨h1,rfl⟩⟩)
  ·omega
 ·rcases h1 with ⟨h1,_⟩ | ⟨i,h1,h2,h3⟩
  ·omega
  ·refine tb (x_bk _ _ _) fun v2 g2=>tg g2 (fun a2=>absurd (by have:=(h.2.2.2.1 i h2).1;omega) a2) fun a2=>?_
   rw [h1]
   refine tv (x_pg g hs h.2.1 i h2) (tv (t_l5Up _ (by have:=h.1;omega)) (tr ⟨gen_ok (x_sv h h2) (upN_ok h.1), .inl ⟨i,h2,h3,rfl⟩⟩))
theorem x_p3 {K:Nat} (hK:2097152≤K) {rows:Int} (hr:rows≤4) (g:x_ar) (h:GOk rows g) (time:Int) (ht:0≤time∧time≤1000000):Tot (x_bl K g time) fun x=>GOk rows x.1:=by
 have hs:=h.sz hr
 have hlen:=h.len
 unfold x_bl x_bl.b
 refine tb (x_lm g hs) fun v1 h1=>?_
 rw [w6 (by omega) (by omega)]
 refine l3_ (L:=x_bl.l0 K g time) (fun _ _ _ _=>rfl) (fun m b x v=>x+1=m∧m≤g.2.1.length∧GOk rows v.1∧m≤v.1.2.1.length) (fun m b x v L' hi k=>?_) (m:=g.2.1.length) (by omega) ⟨by omega,Nat.le_refl _,by rw [h1];exact h,by rw [h1];exact Nat.le_refl _⟩
 obtain ⟨hx,hm,hv,hvm⟩:=hi
 unfold x_bl.l0b
 refine ti (fun a1=>?_) fun a1=>tB (fun _=>tv (t_l5Up _ (by have:=h.1;omega)) (tr (gen_ok hv (upN_ok h.1)))) fun _=>tr hv
 have hlt:x.toNat<g.2.1.length:=by omega
 have hb:=h.2.1
 have hbt:=(h.2.2.2.1 x.toNat hlt).2.2
 rw [w6 (n:=x-1) (by omega) (by omega),w6 (n:=time-g.2.2.1.getD x.toNat 0) (by omega) (by omega)]
 have sk:=k (m-1) b (x-1) v (by omega) ⟨by omega,by omega,hv,by omega⟩
 have tk:Tot (((x_es v.1 x)).bind fun v2=>L' true (x-1) v2) fun x=>GOk rows x.1:=by
  have e:x=((x.toNat:Nat):Int):=by omega
  rw [show x_es v.1 x=x_es v.1 ((x.toNat:Nat):Int) by rw [←e]]
  refine tb (x_pg v.1 (hv.sz hr) hv.2.1 x.toNat (by omega)) fun v2 h2=>k (m-1) true (x-1) v2 (by omega) ⟨by omega,by omega,by rw [h2];exact x_sv hv (by omega),?_⟩
  rw [h2]
  show m-1≤(x_ff v.1.2.1 x.toNat).length
  rw [x_jc (by omega)]
  omega
 refine ti (fun a2=>tc a1 (tc (by omega) (ti (fun a3=>tc a1 (tc (by omega) (ti (fun _=>tk) fun _=>tc a1 (tc (by omega) (ti (fun _=>tk) fun _=>sk))))) fun _=>sk))) fun _=>sk
theorem t_OwnerOf (g:x_ar) (row:Int) (h:g.2.1.length<2097152):Tot (x_nb g row) fun x=>(g.2.1.length=0∨row<0→x.1= -1)∧(0<g.2.1.length→0≤row→x.1=g.2.1.getD (Int.tmod row (g.2.1.length:Int)).toNat 0):=by
 unfold x_nb
 refine ti (fun h1=>tr ⟨fun _=>rfl,fun h2=>by omega⟩) fun h1=>ti (fun h2=>tr ⟨fun _=>rfl,fun _ h3=>by omega⟩) fun h2=>?_
 have:=x_mb (x:=row) (n:=(g.2.1.length:Int)) (by omega) (by omega)
 exact tc (by omega) (tc this.1 (tc this.2 (tr ⟨fun h3=>by omega,fun _ _=>rfl⟩)))
theorem x_px {rows:Int} (hr:rows≤4) (g:x_ar) (h:GOk rows g) (who gen row off:Int) (ho:0≤off∧off≤100000):Tot (x_hl g who gen row off) fun x=>GOk rows x.1∧(x.2.1=true→0≤row∧row<rows):=by
 have hs:=h.sz hr
 have no:GOk rows g∧(false=true→0≤row∧row<rows):=⟨h,fun h=>by cases h⟩
 unfold x_hl
 have h3:=h.2.2.1
 refine tv (x_lm g hs) (tn (fun _=>tr no) fun _=>?_)
 rw [w6 (by omega) (by omega)]
 refine tb (x_bk _ _ _) fun v2 g2=>tg g2 (fun _=>tr no) fun a2=>tb (t_OwnerOf g row hs.1) fun v3 g3=>tn (fun _=>tr no) fun _=>?_
 refine tc a2.1 (tc (by omega) (ti (fun _=>tr no) fun _=>tc a2.1 (tc (by show row<((g.2.2.2.length:Nat):Int);omega) (tr ⟨?_,fun _=>by omega⟩))))
 refine ⟨h.1,h.2.1,by show (((g.2.2.2.set row.toNat off).length:Nat):Int)=rows;rw [length_set];exact h3,h.2.2.2.1,fun i hi=>?_⟩
 have hi:i<(g.2.2.2.set row.toNat off).length:=hi
 show 0≤(g.2.2.2.set row.toNat off).getD i 0∧(g.2.2.2.set row.toNat off).getD i 0≤100000
 rw [x_az hi,List.getElem_set]
 rw [length_set] at hi
 split
 ·exact ho
 ·have:=h.2.2.2.2 i hi
  rwa [x_az hi] at this
theorem getD_at' {α : Type} {l:List α} {i:Nat} {z : α} (h:i<l.length):l[i]=l.getD i z:=(x_az h).symm
def x_ew {α : Type} (l:List α) (i:Nat) (x : α):List α:=l.take i++x::l.drop i
theorem x_j6 {α : Type} {l:List α} {i:Nat} {x : α} (h:i≤l.length):(x_ew l i x).length=l.length+1:=by
 unfold x_ew
 rw [length_append,length_cons,length_take,length_drop];omega
theorem x_iq {α : Type} {l:List α} {i j:Nat} {x z : α} (h:i≤l.length):(x_ew l i x).getD j z=if j<i then l.getD j z else if j=i then x else l.getD (j-1) z:=by
 unfold x_ew
 simp only [gd_,List.getElem?_append,length_take,List.getElem?_cons]
 rw [show min i l.length=i by omega]
 by_cases h1:j<i
 ·rw [if_pos h1,if_pos h1,List.getElem?_take,if_pos h1]
 ·rw [if_neg h1,if_neg h1]
  by_cases h2:j=i
  ·rw [if_pos (by omega),if_pos h2];rfl
  ·rw [if_neg (by omega),if_neg h2,List.getElem?_drop,show i+(j-i-1)=j-1 by omega]
theorem insert_ok {rows:Int} {g:x_ar} (h:GOk rows g) {i:Nat} (hi:i≤g.2.1.length) {who time n:Int} (hw:0≤who∧who≤3) (ht:0≤time∧time≤100000) (hn:0≤n∧n≤100000)
  (hb:∀ j,j<i→g.2.1.getD j 0<who) (ha:i<g.2.1.length→who<g.2.1.getD i 0):GOk rows (n,x_ew g.2.1 i who,x_ew g.2.2.1 i time,g.2.2.2):=by
 obtain ⟨h1,h2,h3,h4,h5⟩:=h
 refine ⟨hn,?_,h3,fun j hj=>?_,h5⟩
 ·show (x_ew g.2.2.1 i time).length=(x_ew g.2.1 i who).length
  rw [x_j6 hi,x_j6 (by omega),h2]
 ·have hj:j<(x_ew g.2.1 i who).length:=hj
  rw [x_j6 hi] at hj
  unfold GMem
  show (0≤(x_ew g.2.1 i who).getD j 0∧(x_ew g.2.1 i who).getD j 0≤3)∧(0<j→(x_ew g.2.1 i who).getD (j-1) 0<(x_ew g.2.1 i who).getD j 0)∧(0≤(x_ew g.2.2.1 i time).getD j 0∧(x_ew g.2.2.1 i time).getD j 0≤100000)
  rw [x_iq hi,x_iq hi,x_iq (by omega)]
  rcases Nat.lt_trichotomy j i with hji | hji | hji
  ·rw [if_pos hji,if_pos (show j-1<i by omega),if_pos hji]
   exact h4 j (by omega)
  ·subst hji
   rw [if_neg (Nat.lt_irrefl _),if_pos rfl,if_neg (Nat.lt_irrefl _),if_pos rfl]
   refine ⟨hw,fun h0=>?_,ht⟩
   rw [if_pos (show j-1<j by omega)]
   exact hb _ (by omega)
  ·simp only [if_neg (show ¬ j<i by omega),if_neg (show ¬ j=i by omega),if_neg (show ¬ j-1<i by omega)]
   obtain ⟨a,b,c⟩:=h4 (j-1) (by omega)
   refine ⟨a,fun h0=>?_,c⟩
   by_cases h6:j-1=i
   ·rw [if_pos h6,h6];exact ha (by omega)
   ·rw [if_neg h6];exact b (by omega)
theorem beat_ok {rows:Int} {g:x_ar} (h:GOk rows g) {i:Nat} {time:Int} (ht:0≤time∧time≤100000):GOk rows (g.1,g.2.1,g.2.2.1.set i time,g.2.2.2):=by
 obtain ⟨h1,h2,h3,h4,h5⟩:=h
 refine ⟨h1,by show (g.2.2.1.set i time).length=_;rw [length_set];exact h2,h3,fun j hj=>?_,h5⟩
 have hj:j<g.2.1.length:=hj
 obtain ⟨a,b,c⟩:=h4 j hj
 refine ⟨a,b,?_⟩
 show 0≤(g.2.2.1.set i time).getD j 0∧(g.2.2.1.set i time).getD j 0≤100000
 rw [x_az (by rw [length_set];omega),List.getElem_set]
 split
 ·exact ht
 ·rw [getD_at' (z:=(0:Int)) (by omega)];exact c
theorem x_pl {K:Nat} (hK:2097152≤K) {rows:Int} (hr:rows≤4) (g:x_ar) (h:GOk rows g) (who time:Int) (ht:0≤time∧time≤100000):Tot (x_a5 K g who time) fun x=>GOk rows x.1:=by
 have hs:=h.sz hr
 have hlen:=h.len
 have hb:=h.2.1
 unfold x_a5 x_a5.b
 refine tb (x_lm g hs) fun v1 h1=>?_
 refine tb (x_bk _ _ _) fun v2 g2=>tg g2 (fun _=>tr (by rw [h1];exact h)) fun hw=>?_
 refine tb (t_l5At hK g hs.1 who) fun v3 g3=>ti (fun a3=>ti (fun a4=>tc a3 (tc a4 (tr (by rw [h1];exact beat_ok h ht)))) fun a4=>tr (by rw [h1];exact h)) fun a3=>?_
 have hno:∀ i,i<g.2.1.length→g.2.1.getD i 0≠who:=by
  rcases g3 with ⟨_,g3⟩ | ⟨i,g3,_,_⟩
  ·exact g3
  ·omega
 refine l2_ (L:=x_a5.l0 K g who time) (fun _ _ _=>rfl) (fun m x v=>v.1=g∧ ∃ i:Nat,x=i∧i+m=g.2.1.length∧ ∀ j,j<i→g.2.1.getD j 0<who) (fun m x v L' hi k=>?_) (m:=g.2.1.length) (by omega) ⟨h1,0,rfl,by omega,fun j hj=>by omega⟩
 obtain ⟨hv,i,rfl,hm,ha⟩:=hi
 have put:(i<g.2.1.length→who<g.2.1.getD i 0)→Tot (x_a5.j0 K (i:Int) g who time v) fun x=>GOk rows x.1:=fun hlt=>by
  unfold x_a5.j0
  rw [tz,tz,tz,List.take_length,List.take_length,List.drop_zero,List.drop_zero]
  refine tc rfl (t2_ (by omega) ((tc (by show _≤70368744177664;(try dsimp only);(try simp only [ll_]);omega) (tc (by show _≤70368744177664;(try dsimp only);(try simp only [ll_]);omega) (tc rfl (t2_ (by omega) ((tc (by omega) (tc (by show _≤70368744177664;(try dsimp only);(try simp only [ll_]);omega) ?_)))))))))
  refine tc rfl (t2_ (by omega) ((tc (by show _≤70368744177664;(try dsimp only);(try simp only [ll_]);omega) (tc (by show _≤70368744177664;(try dsimp only);(try simp only [ll_]);omega) (tc rfl (t2_ (by omega) ((tc (by omega) (tc (by show _≤70368744177664;(try dsimp only);(try simp only [ll_]);omega) ?_)))))))))
  refine tb (t_l5Up _ (by have:=h.1;omega)) fun v4 h4=>tr ?_
  rw [h4,hv]
  have:=insert_ok h (i:=i) (by omega) hw ht (upN_ok h.1) ha hlt
  simpa only [x_ew,List.nil_append,List.append_assoc,List.singleton_append] using this
 unfold x_a5.l0b
 rw [tz]
 refine ti (fun a4=>ti (fun a5=>tc (by omega) (tc a4 (ti (fun a6=>?_) fun a6=>put fun hi=>?_))) fun a5=>by omega) fun a4=>put fun hi=>by omega
 ·rw [w6 (by omega) (by omega)]
  refine k (m-1) _ _ (by omega) ⟨hv,i+1,by push_cast;rfl,by omega,fun t ht=>?_⟩
  rcases Nat.lt_or_ge t i with h | h
  ·exact ha t h
  ·obtain rfl:t=i:=by omega
   exact a6
 ·have:=hno i hi
  omega
def GSmall (g:x_ar):Prop:=(-1≤g.1∧g.1≤100001)∧g.2.1.length≤5∧g.2.2.1.length≤5∧g.2.2.2.length≤4∧(∀ x∈g.2.1,0≤x∧x≤4)∧(∀ x∈g.2.2.1, -9223372036854775808≤x∧x≤100000)∧ ∀ x∈g.2.2.2, -1≤x∧x≤100001
theorem GOk.small {rows:Int} (hr:rows≤4) {g:x_ar} (h:GOk rows g):GSmall g:=by
 have:=h.len
 obtain ⟨h1,h2,h3,h4,h5⟩:=h
 refine ⟨⟨by omega,by omega⟩,by omega,by omega,by omega,fun x hx=>?_,fun x hx=>?_,fun x hx=>?_⟩
 ·obtain ⟨i,hi,rfl⟩:=List.mem_iff_getElem.1 hx
  have:=(h4 i hi).1
  rw [x_az hi] at this
  omega
 ·obtain ⟨i,hi,rfl⟩:=List.mem_iff_getElem.1 hx
  have:=(h4 i (by omega)).2.2
  rw [x_az hi] at this
  omega
 ·obtain ⟨i,hi,rfl⟩:=List.mem_iff_getElem.1 hx
  have:=h5 i hi
  rw [x_az hi] at this
  omega
theorem x_ss {K:Nat} (hK:2097152≤K) {c:x_6} (h:x_c9 c):Tot (x_a6 K c) fun r=>GOk r.2.1 r.1∧(1≤r.2.1∧r.2.1≤3)∧x_c9 r.2.2.1:=by
 unfold x_a6 x_a6.b
 refine tb (x_af h 3 (by omega)) fun v1 h1=>?_
 rw [w6 (by omega) (by omega)]
 refine tb (x_oq _ (by omega)) fun v2 h2=>?_
 refine l5_ (L:=x_a6.l0 K c) (fun _ _ _ _ _ _=>rfl) (fun m v t i u g=>v=v1∧GOk (1+v1.1) g∧x_c9 u.2.1∧(0≤t∧t≤60*i)∧0≤i∧i+m=6) (fun m v t i u g L' hi k=>?_) (m:=6) (by omega) ⟨rfl,h2.2,h1.2.2,by omega,by omega,by omega⟩
 obtain ⟨rfl,hg,hc,ht,hi0,hm⟩:=hi
 unfold x_a6.l0b
 have e1:i6 (1+v.1)=1+v.1:=w6 (by omega) (by omega)
 have e2:i6 (i+1)=i+1:=w6 (by omega) (by omega)
 rw [e1,e2]
 refine tb (x_af hc 7 (by omega)) fun v3 h3=>ti (fun a1=>?_) fun a1=>tr ⟨hg,⟨by show 1≤1+v.1;omega,by show 1+v.1≤3;omega⟩,h3.2.2⟩
 refine tb (x_ax h3.2.2 _ (by decide)) fun v4 h4=>?_
 have hv4:0≤v4.1∧v4.1≤60:=by
  have:=h4.1
  simp only [mem_cons,List.not_mem_nil,or_false] at this
  omega
 rw [w6 (n:=t+v4.1) (by omega) (by omega)]
 have go:∀ (u':Int×x_6×Unit) (g':x_ar),x_c9 u'.2.1→GOk (1+v.1) g'→Tot (L' v (t+v4.1) (i+1) u' g') fun r=>GOk r.2.1 r.1∧(1≤r.2.1∧r.2.1≤3)∧x_c9 r.2.2.1:=
  fun u' g' hu hg'=>k (m-1) _ _ _ _ _ (by omega) ⟨rfl,hg',hu,by omega,by omega,by omega⟩
 refine tb (x_af h4.2 5 (by omega)) fun v5 h5=>ti (fun _=>?_) fun _=>ti (fun _=>?_) fun _=>ti (fun _=>?_) fun _=>?_
 ·exact tb (x_af h5.2.2 4 (by omega)) fun v6 h6=>tb (x_or hK (by omega) g hg _) fun v7 h7=>go _ _ h6.2.2 h7.1
 ·exact tb (x_p3 hK (by omega) g hg _ (by omega)) fun v8 h8=>go _ _ h5.2.2 h8
 ·exact tb (x_af h5.2.2 4 (by omega)) fun v9 h9=>tb (x_af h9.2.2 _ (by omega)) fun v10 h10=>tb (x_af h10.2.2 9 (by omega)) fun v11 h11=>tb (x_px (by omega) g hg _ _ _ _ (by omega)) fun v12 h12=>go _ _ h11.2.2 h12.1
 ·exact tb (x_af h5.2.2 4 (by omega)) fun v13 h13=>tb (x_pl hK (by omega) g hg _ _ (by omega)) fun v14 h14=>go _ _ h13.2.2 h14
theorem t_l5Draw {K:Nat} (hK:2097152≤K) {c:x_6} (h:x_c9 c):Tot (x_oc K c) fun r=>GSmall r.1∧x_c9 r.2.2.1:=by
 unfold x_oc
 refine tb (x_ss hK h) fun v1 h1=>tb (x_af h1.2.2 12 (by omega)) fun v2 h2=>?_
 have sm:=h1.1.small (by omega)
 have hlen:=h1.1.len
 have hbl:=h1.1.2.1
 have hol:=h1.1.2.2.1
 obtain ⟨s1,s2,s3,s4,s5,s6,s7⟩:=sm
 refine ti (fun _=>?_) fun _=>ti (fun _=>?_) fun _=>ti (fun _=>?_) fun _=>ti (fun _=>?_) fun _=>ti (fun _=>?_) fun _=>tr ⟨⟨s1,s2,s3,s4,s5,s6,s7⟩,h2.2.2⟩
 ·refine tb (x_ax h2.2.2 _ (by decide)) fun v3 h3=>tr ⟨⟨?_,s2,s3,s4,s5,s6,s7⟩,h3.2⟩
  have:=h3.1
  simp only [mem_cons,List.not_mem_nil,or_false] at this
  show -1≤v3.1∧v3.1≤100001
  omega
 ·refine tb (x_af h2.2.2 5 (by omega)) fun v4 h4=>tc (by show _≤70368744177664;(try dsimp only);(try simp only [ll_]);omega) (tr ⟨⟨s1,?_,s3,s4,fun x hx=>?_,s6,s7⟩,h4.2.2⟩)
  ·show (v1.1.2.1++[_]).length≤5
   simp;omega
  ·have hx:x∈v1.1.2.1++[_]:=hx
   rw [mem_append,mem_singleton] at hx
   rcases hx with hx | rfl
   ·exact s5 x hx
   ·omega
 ·refine tb (x_ax h2.2.2 _ (by decide)) fun v5 h5=>tc (by show _≤70368744177664;(try dsimp only);(try simp only [ll_]);omega) (tr ⟨⟨s1,s2,?_,s4,s5,fun x hx=>?_,s7⟩,h5.2⟩)
  ·show (v1.1.2.2.1++[_]).length≤5
   simp;omega
  ·have hx:x∈v1.1.2.2.1++[_]:=hx
   rw [mem_append,mem_singleton] at hx
   rcases hx with hx | rfl
   ·exact s6 x hx
   ·have:=h5.1
    simp only [mem_cons,List.not_mem_nil,or_false] at this
    omega
 ·exact tb (x_af h2.2.2 5 (by omega)) fun v6 h6=>tr ⟨⟨s1,s2,s3,s4,s5,s6,s7⟩,h6.2.2⟩
 ·refine tb (x_ax h2.2.2 _ (by decide)) fun v7 h7=>tc (by omega) (tr ⟨⟨s1,s2,s3,?_,s5,s6,fun x hx=>?_⟩,h7.2⟩)
  ·show (v1.1.2.2.2.set 0 v7.1).length≤4
   rw [length_set];exact s4
  ·have hx:x∈v1.1.2.2.2.set 0 v7.1:=hx
   rcases List.mem_or_eq_of_mem_set hx with hx | rfl
   ·exact s7 x hx
   ·have:=h7.1
    simp only [mem_cons,List.not_mem_nil,or_false] at this
    omega
def SOk (s:x_d):Prop:=(1≤s.1∧s.1≤4)∧(1≤s.2.1∧s.2.1≤5)∧(1≤s.2.2.1∧s.2.2.1≤8)∧(0≤s.2.2.2∧s.2.2.2≤60)
theorem x_f5 (s:x_d):Tot (x_ft s) fun r=>Is r.1 (SOk s):=by
 unfold x_ft
 refine tb (x_bk _ _ _) fun v1 h1=>tf h1 (fun a1=>?_) fun a=>tr (x_a fun h=>a h.1)
 refine tb (x_bk _ _ _) fun v2 h2=>tf h2 (fun a2=>?_) fun a=>tr (x_a fun h=>a h.2.1)
 refine tb (x_bk _ _ _) fun v3 h3=>tf h3 (fun a3=>?_) fun a=>tr (x_a fun h=>a h.2.2.1)
 exact tb (x_bk _ _ _) fun v4 h4=>tr ⟨fun h=>⟨a1,a2,a3,h4.1 h⟩,fun h=>h4.2 h.2.2.2⟩
def nobody:TCmd:=(-1,0,0,0,0,0,ByteArray.empty,ByteArray.empty)
def COk (c:TCmd):Prop:=(c.1= -1∧c=nobody)∨(c.1≠ -1∧(0≤c.1∧c.1≤3)∧(1≤c.2.1∧c.2.1≤100000)∧(1≤c.2.2.1∧c.2.2.1≤10)∧(0≤c.2.2.2.1∧c.2.2.2.1≤100000)∧(0≤c.2.2.2.2.1∧c.2.2.2.2.1≤100000)∧(0≤c.2.2.2.2.2.1∧c.2.2.2.2.2.1≤100000)∧TxOk c.2.2.2.2.2.2.1∧TxOk c.2.2.2.2.2.2.2)
def CSz (c:TCmd):Prop:=c.2.2.2.2.2.2.1.size<2097152∧c.2.2.2.2.2.2.2.size<2097152
theorem COk.sz {c:TCmd} (h:COk c):CSz c:=by
 rcases h with ⟨_,rfl⟩ | h
 ·exact ⟨(by decide:ByteArray.empty.size<2097152),(by decide:ByteArray.empty.size<2097152)⟩
 ·exact ⟨h.2.2.2.2.2.2.2.1.sz,h.2.2.2.2.2.2.2.2.sz⟩
theorem x_n7 {K:Nat} (hK:2097152≤K) (c:TCmd) (h:CSz c):Tot (x_jv K c) fun r=>Is r.1 (COk c):=by
 unfold x_jv
 refine ti (fun h1=>tr ?_) fun h1=>?_
 ·have:=x_e1 eCmd c nobody (by decide)
  exact ⟨fun h=> .inl ⟨h1,this.1 h⟩,fun h=>this.2 (by rcases h with h | h;exact h.2;exact absurd h1 h.1)⟩
 have no:∀ {p:Prop},((c.1≠ -1∧(0≤c.1∧c.1≤3)∧(1≤c.2.1∧c.2.1≤100000)∧(1≤c.2.2.1∧c.2.2.1≤10)∧(0≤c.2.2.2.1∧c.2.2.2.1≤100000)∧(0≤c.2.2.2.2.1∧c.2.2.2.2.1≤100000)∧(0≤c.2.2.2.2.2.1∧c.2.2.2.2.2.1≤100000)∧TxOk c.2.2.2.2.2.2.1∧TxOk c.2.2.2.2.2.2.2)→p)→ ¬ p→ ¬ COk c:=fun k np h=>by
  rcases h with h | h
  ·exact h1 h.1
  ·exact np (k h)
 refine tb (x_bk _ _ _) fun v1 g1=>tf g1 (fun a1=>?_) fun a=>tr (x_a (no (fun h=>h.2.1) a))
 refine tb (x_bk _ _ _) fun v2 g2=>tf g2 (fun a2=>?_) fun a=>tr (x_a (no (fun h=>h.2.2.1) a))
 refine tb (x_bk _ _ _) fun v3 g3=>tf g3 (fun a3=>?_) fun a=>tr (x_a (no (fun h=>h.2.2.2.1) a))
 refine tb (x_bk _ _ _) fun v4 g4=>tf g4 (fun a4=>?_) fun a=>tr (x_a (no (fun h=>h.2.2.2.2.1) a))
 refine tb (x_bk _ _ _) fun v5 g5=>tf g5 (fun a5=>?_) fun a=>tr (x_a (no (fun h=>h.2.2.2.2.2.1) a))
 refine tb (x_bk _ _ _) fun v6 g6=>tf g6 (fun a6=>?_) fun a=>tr (x_a (no (fun h=>h.2.2.2.2.2.2.1) a))
 refine tb (x_lx hK _ h.1) fun v7 g7=>tf g7 (fun a7=>?_) fun a=>tr (x_a (no (fun h=>h.2.2.2.2.2.2.2.1) a))
 refine tb (x_lx hK _ h.2) fun v8 g8=>tr ⟨fun h=> .inr ⟨h1,a1,a2,a3,a4,a5,a6,a7,g8.1 h⟩,fun h=>?_⟩
 rcases h with h | h
 ·exact absurd h.1 h1
 ·exact g8.2 h.2.2.2.2.2.2.2.2
def x_ir (l:TLog) (i:Nat):Int:=if i=0 then l.2.1 else (l.2.2.getD (i-1) x_ay).1
def x_fb (l:TLog):Int:=l.1+(l.2.2.length:Int)
def x_tj (l:TLog):Int:=x_ir l l.2.2.length
def EOk (l:TLog) (i:Nat):Prop:=(x_ir l i≤(l.2.2.getD i x_ay).1∧(l.2.2.getD i x_ay).1≤300)∧COk (l.2.2.getD i x_ay).2
def LOk (l:TLog):Prop:=(0≤l.1∧l.1≤300)∧(0≤l.2.1∧l.2.1≤300)∧(l.2.2.length:Int)≤300-l.1∧ ∀ i,i<l.2.2.length→EOk l i
def LSz (l:TLog):Prop:=l.2.2.length<2097152∧ ∀ x∈l.2.2,CSz x.2
theorem LOk.sz {l:TLog} (h:LOk l):LSz l:=⟨by have:=h.2.2.1;have:=h.1;omega,fun x hx=>by
 obtain ⟨i,hi,rfl⟩:=List.mem_iff_getElem.1 hx
 have:=(h.2.2.2 i hi).2.sz
 rwa [x_az hi] at this⟩
theorem x_ql (l:TLog) (h:l.2.2.length<2097152) (hb : -9223372036854775808≤l.1∧l.1≤1000000):Tot (x_ed l) fun r=>r=(x_fb l,x_tj l,()):=by
 unfold x_ed x_fb x_tj x_ir
 refine ti (fun h1=>tr ?_) fun h1=>?_
 ·have h0:l.2.2.length=0:=by omega
  rw [if_pos h0,h0];simp
 ·rw [w6 (n:=((l.2.2.length:Nat):Int)-1) (by omega) (by omega),w6 (n:=l.1+((l.2.2.length:Nat):Int)) (by omega) (by omega)]
  refine t2_ (by omega) ((tr ?_))
  rw [if_neg (by omega),show Int.toNat (((l.2.2.length:Nat):Int)-1)=l.2.2.length-1 by omega]
theorem x_f0 (l:TLog) (h:l.2.2.length<2097152) (hb : -1000000≤l.1∧l.1≤1000000):Tot (x_ed l) fun r=>r=(x_fb l,x_tj l,()):=x_ql l h (by omega)
theorem x_yx {K:Nat} (hK:2097152≤K) (l:TLog) (h:LSz l):Tot (x_ev K l) fun r=>Is r.1 (LOk l):=by
 obtain ⟨hl,hs⟩:=h
 unfold x_ev x_ev.b
 refine tb (x_bk _ _ _) fun v1 g1=>tg g1 (fun a=>tr (x_a fun h=>a h.1)) fun a1=>?_
 refine tb (x_bk _ _ _) fun v2 g2=>tg g2 (fun a=>tr (x_a fun h=>a h.2.1)) fun a2=>?_
 rw [w6 (by omega) (by omega)]
 refine ti (fun h3=>tr (x_a fun h=>by have:=h.2.2.1;omega)) fun h3=>?_
 refine l2_ (L:=x_ev.l0 K l) (fun _ _ _=>rfl) (fun m t x=> ∃ i:Nat,x=i∧i+m=l.2.2.length∧t=x_ir l i∧ ∀ j,j<i→EOk l j) (fun m t x L' hi k=>?_) (m:=l.2.2.length) (by omega) ⟨0,rfl,by omega,rfl,fun j h=>by omega⟩
 obtain ⟨i,rfl,hm,rfl,ha⟩:=hi
 unfold x_ev.l0b
 rw [tz]
 refine ti (fun h4=>?_) fun h4=>tr (x_eg ⟨a1,a2,by omega,fun j hj=>ha j (by omega)⟩)
 have hi:i<l.2.2.length:=by omega
 refine tc (by omega) (tc h4 ?_)
 refine tb (x_bk _ _ _) fun v3 g3=>tg g3 (fun a=>tr (x_a fun h=>a (h.2.2.2 i hi).1)) fun a3=>tc (by omega) (tc h4 ?_)
 refine tb (x_n7 hK _ (hs _ (x_ad hi))) fun v4 g4=>tg g4 (fun a=>tr (x_a fun h=>a (h.2.2.2 i hi).2)) fun a4=>tc (by omega) (tc h4 ?_)
 rw [w6 (by omega) (by omega)]
 refine k (m-1) _ _ (by omega) ⟨i+1,by push_cast;rfl,by omega,by unfold x_ir;rw [if_neg (by omega),Nat.add_sub_cancel],fun j hj=>?_⟩
 rcases Nat.lt_or_ge j i with h | h
 ·exact ha j h
 ·obtain rfl:j=i:=by omega
  exact ⟨a3,a4⟩
def KMark (m:x_at) (i:Nat):Prop:=(0≤(m.2.2.2.2.getD i x_ie).2∧(m.2.2.2.2.getD i x_ie).2≤100000)∧(m.2.2.2.2.getD i x_ie).1=m.2.2.2.1-((m.2.2.2.2.length:Int)-1-i)∧(0<i→(m.2.2.2.2.getD (i-1) x_ie).2<(m.2.2.2.2.getD i x_ie).2)
def MOk (m:x_at) (w:Int):Prop:=(∀ i,i<m.2.2.2.2.length→KMark m i)∧(m.2.2.2.2.length:Int)≤w∧(m.2.2.2.2.length:Int)≤m.2.2.2.1+1∧(0≤m.2.2.2.1→0<m.2.2.2.2.length)∧(0≤m.1∧m.1≤3)∧(0≤m.2.1∧m.2.1≤3)∧(0≤m.2.2.1∧m.2.2.1≤100000)∧(-1≤m.2.2.2.1∧m.2.2.2.1≤100000)
theorem t_MakerOk {K:Nat} (hK:2097152≤K) (m:x_at) (h:m.2.2.2.2.length<2097152) (w:Int):Tot (x_by K m w) fun r=>Is r.1 (MOk m w):=by
 unfold x_by x_by.b
 have key:∀ (P:Prop),(-1≤m.2.2.2.1∧m.2.2.2.1≤100000→P)→ ¬ P→ ¬ MOk m w:=fun P h np hm=>np (h hm.2.2.2.2.2.2.2)
 let W:Nat→Prop:=fun i=>(0≤(m.2.2.2.2.getD i x_ie).2∧(m.2.2.2.2.getD i x_ie).2≤100000)∧(m.2.2.2.2.getD i x_ie).1=i6 (m.2.2.2.1-((m.2.2.2.2.length:Int)-1-i))∧(0<i→(m.2.2.2.2.getD (i-1) x_ie).2<(m.2.2.2.2.getD i x_ie).2)
 have hW:∀ i,i<m.2.2.2.2.length→ -1≤m.2.2.2.1∧m.2.2.2.1≤100000→(W i↔KMark m i):=fun i hi hl=>by
  show _∧_∧_↔_
  rw [w6 (n:=m.2.2.2.1-((m.2.2.2.2.length:Int)-1-i)) (by omega) (by omega)]
  rfl
 have no:∀ i,i<m.2.2.2.2.length→ ¬ W i→ ¬ MOk m w:=fun i hi hw hm=>hw ((hW i hi hm.2.2.2.2.2.2.2).2 (hm.1 i hi))
 refine tA (L:=x_by.l0 K m w) (fun _ _=>rfl) m.2.2.2.2.length W (fun i L' hi k ha=>?_) (fun L' ha=>?_) (by omega)
 ·unfold x_by.l0b
  rw [tz,wi (i:=i) (by omega),w6 (n:=((m.2.2.2.2.length:Nat):Int)-1) (by omega) (by omega),w6 (n:=((m.2.2.2.2.length:Nat):Int)-1-(i:Int)) (by omega) (by omega)]
  refine ti (fun h1=>tc (by omega) (tc h1 ?_)) fun h1=>absurd (show (i:Int)<((m.2.2.2.2.length:Nat):Int) by omega) h1
  refine tb (x_bk _ _ _) fun v1 g1=>tg g1 (fun a=>tr (x_a (no i hi fun h=>a h.1))) fun a1=>tc (by omega) (tc h1 ?_)
  refine tn (fun a=>tr (x_a (no i hi fun h=>a h.2.1))) fun a2=>ti (fun h3=>?_) fun h3=>k ⟨a1,a2,fun h=>by omega⟩
  rw [w6 (n:=(i:Int)-1) (by omega) (by omega),show Int.toNat ((i:Int)-1)=i-1 by omega]
  refine t2_ (by omega) ((t2_ (by omega) (?_)))
  exact ti (fun h4=>tr (x_a (no i hi fun h=>by have:=h.2.2 (by omega);omega))) fun h4=>k ⟨a1,a2,fun _=>by omega⟩
 ·unfold x_by.l0b
  refine ti (fun h1=>absurd h1 (by omega)) fun h1=>?_
  refine ti (fun h2=>tr (x_a fun h=>by have:=h.2.1;omega)) fun h2=>?_
  have last:∀ (P : -1≤m.2.2.2.1∧m.2.2.2.1≤100000→(m.2.2.2.2.length:Int)≤m.2.2.2.1+1) (Q:0≤m.2.2.2.1→0<m.2.2.2.2.length),Tot (x_by.j0 K m) fun r=>Is r.1 (MOk m w):=fun P Q=>by
   unfold x_by.j0
   refine tb (x_bk _ _ _) fun v2 g2=>tf g2 (fun a2=>?_) fun a=>tr (x_a fun h=>a h.2.2.2.2.1)
   refine tb (x_bk _ _ _) fun v3 g3=>tf g3 (fun a3=>?_) fun a=>tr (x_a fun h=>a h.2.2.2.2.2.1)
   refine tb (x_bk _ _ _) fun v4 g4=>tf g4 (fun a4=>?_) fun a=>tr (x_a fun h=>a h.2.2.2.2.2.2.1)
   refine tb (x_bk _ _ _) fun v5 g5=>tr ⟨fun h=>?_,fun h=>g5.2 h.2.2.2.2.2.2.2⟩
   have a5:=g5.1 h
   exact ⟨fun i hi=>(hW i hi a5).1 (ha i hi),by omega,P a5,Q,a2,a3,a4,a5⟩
  refine ti (fun h3=>tr (x_a fun h=>?_)) fun h3=>?_
  ·have h5:=h.2.2.2.2.2.2.2
   rw [w6 (by omega) (by omega)] at h3
   have:=h.2.2.1
   omega
  ·have P : -1≤m.2.2.2.1∧m.2.2.2.1≤100000→(m.2.2.2.2.length:Int)≤m.2.2.2.1+1:=fun h5=>by
    rw [w6 (by omega) (by omega)] at h3
    omega
   exact ti (fun h4=>ti (fun h5=>tr (x_a fun h=>by have:=h.2.2.2.1 h4;omega)) fun h5=>last P fun _=>by omega) fun h4=>last P fun h=>by omega
def MaOrd (a b:x_at):Prop:=a.1<b.1∨a.1=b.1∧a.2.1<b.2.1
def MaOk (s:x_d) (l:List x_at) (i:Nat):Prop:=MOk (l.getD i x_bb) s.2.1∧(l.getD i x_bb).1<s.1∧(0<i→MaOrd (l.getD (i-1) x_bb) (l.getD i x_bb))
def MsOk (s:x_d) (l:List x_at):Prop:= ∀ i,i<l.length→MaOk s l i
def MkS (m:x_at):Prop:=m.2.2.2.2.length<2097152∧ ∀ x∈m.2.2.2.2,0≤x.1
def MsSz (l:List x_at):Prop:=l.length<2097152∧ ∀ m∈l,MkS m
theorem MOk.seq {m:x_at} {w:Int} (h:MOk m w):∀ x∈m.2.2.2.2,0≤x.1:=fun x hx=>by
 obtain ⟨i,hi,rfl⟩:=List.mem_iff_getElem.1 hx
 have h1:=(h.1 i hi).2.1
 have h2:=h.2.2.1
 rw [x_az hi] at h1
 omega
theorem MsOk.len {s:x_d} {l:List x_at} (h:MsOk s l):l.length≤16:=by
 have key:∀ i,i<l.length→(i:Int)≤4*(l.getD i x_bb).1+(l.getD i x_bb).2.1:=by
  intro i
  induction i with
  | zero=>intro hi;have:=(h 0 hi).1.2.2.2.2;omega
  | succ i ih=>
   intro hi
   have h1:=ih (by omega)
   have h2:=(h (i+1) hi).2.2 (by omega)
   have h3:=(h (i+1) hi).1.2.2.2.2
   have h4:=(h i (by omega)).1.2.2.2.2
   simp only [Nat.add_sub_cancel] at h2
   rcases h2 with h2 | ⟨h2,h5⟩<;>omega
 rcases Nat.lt_or_ge l.length 17 with h5 | h5
 ·omega
 ·have h1:=key 16 (by omega)
  have h2:=(h 16 (by omega)).1.2.2.2.2
  omega
theorem MsOk.sz {s:x_d} (hs:s.2.1≤5) {l:List x_at} (h:MsOk s l):MsSz l:=⟨by have:=h.len;omega,fun m hm=>by
 obtain ⟨i,hi,rfl⟩:=List.mem_iff_getElem.1 hm
 have h1:=(h i hi).1
 rw [x_az hi] at h1
 exact ⟨by have:=h1.2.1;omega,h1.seq⟩⟩
theorem x_1a {K:Nat} (hK:2097152≤K) (s:x_d) (l:List x_at) (h:MsSz l):Tot (x_b0 K s l) fun r=>Is r.1 (MsOk s l):=by
 obtain ⟨hl,hs⟩:=h
 unfold x_b0 x_b0.b
 refine tA (L:=x_b0.l0 K s l) (fun _ _=>rfl) l.length (MaOk s l) (fun i L' hi k ha=>?_) (fun L' ha=>?_) (by omega)
 ·unfold x_b0.l0b
  have no:¬ MaOk s l i→ ¬ MsOk s l:=fun h1 h2=>h1 (h2 i hi)
  rw [tz,wi (i:=i) (by omega)]
  refine ti (fun h1=>tc (by omega) (tc h1 ?_)) fun h1=>absurd (show (i:Int)<((l.length:Nat):Int) by omega) h1
  refine tb (t_MakerOk hK _ (hs _ (x_ad hi)).1 _) fun v1 g1=>tg g1 (fun a=>tr (x_a (no fun h=>a h.1))) fun a1=>?_
  refine ti (fun h2=>tr (x_a (no fun h=>by have:=h.2.1;omega))) fun h2=>ti (fun h3=>?_) fun h3=>k ⟨a1,by omega,fun h=>by omega⟩
  rw [w6 (n:=(i:Int)-1) (by omega) (by omega),show Int.toNat ((i:Int)-1)=i-1 by omega]
  refine t2_ (by omega) (?_)
  refine ti (fun h4=>tr (x_a (no fun h=>by rcases h.2.2 (by omega) with h | h<;>omega))) fun h4=>t2_ (by omega) (?_)
  refine ti (fun h5=>t2_ (by omega) (?_)) fun h5=>k ⟨a1,by omega,fun _=> .inl (by omega)⟩
  exact ti (fun h6=>tr (x_a (no fun h=>by rcases h.2.2 (by omega) with h | h<;>omega))) fun h6=>k ⟨a1,by omega,fun _=> .inr ⟨h5,by omega⟩⟩
 ·unfold x_b0.l0b
  exact ti (fun h1=>absurd h1 (by omega)) fun h1=>tr (x_eg ha)
theorem t_GroupOk {K:Nat} (hK:2097152≤K) (g:x_ar) (h:GSz g) (rows:Int):Tot (x_a1 K g rows) fun r=>Is r.1 (GOk rows g):=by
 obtain ⟨hl,hb,ho⟩:=h
 unfold x_a1 x_a1.b
 refine tn (fun h=>tr (x_a fun k=>by have:=k.2.1;omega)) fun h1=>tn (fun h=>tr (x_a fun k=>h k.2.2.1)) fun h2=>?_
 refine tb (x_bk _ _ _) fun v1 g1=>tg g1 (fun a=>tr (x_a fun h=>a h.1)) fun a1=>?_
 have hbm:g.2.2.1.length=g.2.1.length:=by omega
 refine tA (L:=x_a1.l0 K g rows) (b:=fun L'=>x_a1.l0b K g rows L' (x_a1.l1 K g rows K)) (fun _ _=>rfl) g.2.1.length (GMem g) (fun i L' hi k ha=>?_) (fun L' ha=>?_) (by omega)
 ·unfold x_a1.l0b
  have no:¬ GMem g i→ ¬ GOk rows g:=fun h1 h2=>h1 (h2.2.2.2.1 i hi)
  rw [tz,wi (i:=i) (by omega)]
  refine ti (fun h1=>tc (by omega) (tc h1 ?_)) fun h1=>absurd (show (i:Int)<((g.2.1.length:Nat):Int) by omega) h1
  refine tb (x_bk _ _ _) fun v2 g2=>tg g2 (fun a=>tr (x_a (no fun h=>a h.1))) fun a2=>?_
  have go:(0<i→g.2.1.getD (i-1) 0<g.2.1.getD i 0)→Tot ((x_bj (g.2.2.1.getD i 0) 0 100000).bind fun v3=>bif !v3.1 then some (false,()) else L' ((i:Int)+1)) fun r=>Is r.1 (GOk rows g):=fun h3=>
   tb (x_bk _ _ _) fun v3 g3=>tg g3 (fun a=>tr (x_a (no fun h=>a h.2.2))) fun a3=>k ⟨a2,h3,a3⟩
  refine ti (fun h3=>?_) fun h3=>t2_ (by omega) ((go fun h=>by omega))
  rw [w6 (n:=(i:Int)-1) (by omega) (by omega),show Int.toNat ((i:Int)-1)=i-1 by omega]
  refine t2_ (by omega) ((t2_ (by omega) (?_)))
  exact ti (fun h4=>tr (x_a (no fun h=>by have:=h.2.1 (by omega);omega))) fun h4=>t2_ (by omega) ((go fun _=>by omega))
 ·unfold x_a1.l0b
  refine ti (fun h1=>absurd h1 (by omega)) fun h1=>?_
  refine tA (L:=x_a1.l1 K g rows) (fun _ _=>rfl) g.2.2.2.length (fun i=>0≤g.2.2.2.getD i 0∧g.2.2.2.getD i 0≤100000) (fun i L' hi k hb=>?_) (fun L' hb=>?_) (by omega)
  ·unfold x_a1.l1b
   rw [tz,wi (i:=i) (by omega)]
   refine ti (fun h1=>tc (by omega) (tc h1 ?_)) fun h1=>absurd (show (i:Int)<((g.2.2.2.length:Nat):Int) by omega) h1
   exact tb (x_bk _ _ _) fun v5 g5=>tg g5 (fun a=>tr (x_a fun h=>a (h.2.2.2.2 i hi))) fun a5=>k a5
  ·unfold x_a1.l1b
   exact ti (fun h1=>absurd h1 (by omega)) fun h1=>tr (x_eg ⟨a1,hbm,h2,ha,hb⟩)
def AOk (a:x_dl):Prop:=(0≤a.1∧a.1≤9)∧(-1≤a.2.1∧a.2.1≤100000)∧TxOk a.2.2.1∧TxOk a.2.2.2
def ASz (a:x_dl):Prop:=a.2.2.1.size<2097152∧a.2.2.2.size<2097152
theorem x_tg {K:Nat} (hK:2097152≤K) (a:x_dl) (h:ASz a):Tot (x_il K a) fun r=>Is r.1 (AOk a):=by
 unfold x_il
 refine tb (x_bk _ _ _) fun v1 g1=>tf g1 (fun a1=>?_) fun a=>tr (x_a fun h=>a h.1)
 refine tb (x_bk _ _ _) fun v2 g2=>tf g2 (fun a2=>?_) fun a=>tr (x_a fun h=>a h.2.1)
 refine tb (x_lx hK _ h.1) fun v3 g3=>tf g3 (fun a3=>?_) fun a=>tr (x_a fun h=>a h.2.2.1)
 exact tb (x_lx hK _ h.2) fun v4 g4=>tr ⟨fun h=>⟨a1,a2,a3,g4.1 h⟩,fun h=>g4.2 h.2.2.2⟩
def KOk (s:x_d) (k:x_ai):Prop:=SOk s∧(k.1.length:Int)=s.1∧k.2.2.1.length=2∧k.2.2.2.2.1.length=4∧k.2.2.2.2.2.length=4∧(0≤k.2.2.2.1∧k.2.2.2.1≤100000)∧MsOk s k.2.1∧
 (∀ i,i<k.1.length→ROk (k.1.getD i zRow))∧(∀ i,i<2→GOk s.1 (k.2.2.1.getD i x_bv))∧ ∀ i,i<4→(0≤k.2.2.2.2.1.getD i 0∧k.2.2.2.2.1.getD i 0≤100000)∧AOk (k.2.2.2.2.2.getD i x_b7)
def KSz (k:x_ai):Prop:=k.1.length<2097152∧(∀ r∈k.1,RSz r)∧MsSz k.2.1∧k.2.2.1.length<2097152∧(∀ g∈k.2.2.1,GSz g)∧k.2.2.2.2.1.length<2097152∧k.2.2.2.2.2.length<2097152∧ ∀ a∈k.2.2.2.2.2,ASz a
theorem KOk.sz {s:x_d} {k:x_ai} (h:KOk s k):KSz k:=by
 obtain ⟨h1,h2,h3,h4,h5,h6,h7,h8,h9,h10⟩:=h
 refine ⟨by have:=h1.1;omega,fun r hr=>?_,h7.sz h1.2.1.2,by omega,fun g hg=>?_,by omega,by omega,fun a ha=>?_⟩
 ·obtain ⟨i,hi,rfl⟩:=List.mem_iff_getElem.1 hr
  have:=(h8 i hi).sz
  rwa [x_az hi] at this
 ·obtain ⟨i,hi,rfl⟩:=List.mem_iff_getElem.1 hg
  have:=(h9 i (by omega)).sz h1.1.2
  rwa [x_az hi] at this
 ·obtain ⟨i,hi,rfl⟩:=List.mem_iff_getElem.1 ha
  have:=(h10 i (by omega)).2
  rw [x_az hi] at this
  exact ⟨this.2.2.1.sz,this.2.2.2.sz⟩
theorem x_q2 {K:Nat} (hK:2097152≤K) (s:x_d) (k:x_ai) (h:KSz k):Tot (x_ao K s k) fun r=>Is r.1 (KOk s k):=by
 obtain ⟨z1,z2,z3,z4,z5,z6,z7,z8⟩:=h
 unfold x_ao x_ao.b
 refine tb (x_f5 s) fun v1 g1=>tg g1 (fun a=>tr (x_a fun h=>a h.1)) fun a1=>?_
 refine tn (fun h=>tr (x_a fun k=>h k.2.1)) fun h2=>tn (fun h=>tr (x_a fun k=>h (by have:=k.2.2.1;omega))) fun h3=>?_
 refine tn (fun h=>tr (x_a fun k=>h (by have:=k.2.2.2.1;omega))) fun h4=>tn (fun h=>tr (x_a fun k=>h (by have:=k.2.2.2.2.1;omega))) fun h5=>?_
 refine tb (x_bk _ _ _) fun v2 g2=>tg g2 (fun a=>tr (x_a fun h=>a h.2.2.2.2.2.1)) fun a2=>?_
 refine tb (x_1a hK s _ z3) fun v3 g3=>tg g3 (fun a=>tr (x_a fun h=>a h.2.2.2.2.2.2.1)) fun a3=>?_
 refine tA (L:=x_ao.l0 K s k) (b:=fun L'=>x_ao.l0b K s k L' (x_ao.l1 K s k K)) (fun _ _=>rfl) k.1.length (fun i=>ROk (k.1.getD i zRow)) (fun i L' hi kk ha=>?_) (fun L' ha=>?_) (by omega)
 ·unfold x_ao.l0b
  rw [tz,wi (i:=i) (by omega)]
  refine ti (fun h1=>t2_ (by omega) (?_)) fun h1=>absurd (show (i:Int)<s.1 by omega) h1
  exact tb (x_sm hK _ (z2 _ (x_ad hi))) fun v4 g4=>tg g4 (fun a=>tr (x_a fun h=>a (h.2.2.2.2.2.2.2.1 i hi))) fun a4=>kk a4
 unfold x_ao.l0b
 refine ti (fun h1=>absurd h1 (by omega)) fun _=>?_
 refine tA (L:=x_ao.l1 K s k) (b:=fun L'=>x_ao.l1b K s k L' (x_ao.l2 K s k K)) (fun _ _=>rfl) 2 (fun i=>GOk s.1 (k.2.2.1.getD i x_bv)) (fun i L' hi kk hb=>?_) (fun L' hb=>?_) (by omega)
 ·unfold x_ao.l1b
  rw [tz,wi (i:=i) (by omega)]
  refine ti (fun h1=>t2_ (by omega) (?_)) fun h1=>absurd (show (i:Int)<2 by omega) h1
  exact tb (t_GroupOk hK _ (z5 _ (x_ad (by omega))) _) fun v5 g5=>tg g5 (fun a=>tr (x_a fun h=>a (h.2.2.2.2.2.2.2.2.1 i hi))) fun a5=>kk a5
 unfold x_ao.l1b
 refine ti (fun h1=>absurd h1 (by omega)) fun _=>?_
 refine tA (L:=x_ao.l2 K s k) (fun _ _=>rfl) 4 (fun i=>(0≤k.2.2.2.2.1.getD i 0∧k.2.2.2.2.1.getD i 0≤100000)∧AOk (k.2.2.2.2.2.getD i x_b7)) (fun i L' hi kk hc=>?_) (fun L' hc=>?_) (by omega)
 ·unfold x_ao.l2b
  rw [tz,wi (i:=i) (by omega)]
  refine ti (fun h1=>t2_ (by omega) (?_)) fun h1=>absurd (show (i:Int)<4 by omega) h1
  refine tb (x_bk _ _ _) fun v6 g6=>tg g6 (fun a=>tr (x_a fun h=>a (h.2.2.2.2.2.2.2.2.2 i hi).1)) fun a6=>t2_ (by omega) (?_)
  exact tb (x_tg hK _ (z8 _ (x_ad (by omega)))) fun v7 g7=>tg g7 (fun a=>tr (x_a fun h=>a (h.2.2.2.2.2.2.2.2.2 i hi).2)) fun a7=>kk ⟨a6,a7⟩
 ·unfold x_ao.l2b
  exact ti (fun h1=>absurd h1 (by omega)) fun _=>tr (x_eg ⟨a1,h2,by omega,by omega,by omega,a2,a3,ha,hb,hc⟩)
def HOk (p:x_d) (h:x_dh):Prop:=(0≤h.1∧h.1≤300)∧(-1≤h.2.1∧h.2.1≤4)∧LOk h.2.2.1∧x_tj h.2.2.1≤h.1∧KOk p h.2.2.2
def HSz (h:x_dh):Prop:=LSz h.2.2.1∧(-1000000≤h.2.2.1.1∧h.2.2.1.1≤1000000)∧KSz h.2.2.2
theorem HOk.sz {p:x_d} {h:x_dh} (k:HOk p h):HSz h:=⟨k.2.2.1.sz,by have:=k.2.2.1.1;omega,k.2.2.2.2.sz⟩
def HSw (h:x_dh):Prop:=LSz h.2.2.1∧(-9223372036854775808≤h.2.2.1.1∧h.2.2.1.1≤1000000)∧KSz h.2.2.2
theorem HSz.w {h:x_dh} (k:HSz h):HSw h:=⟨k.1,⟨by have:=k.2.1;omega,k.2.1.2⟩,k.2.2⟩
theorem x_u2 {K:Nat} (hK:2097152≤K) (p:x_d) (h:x_dh) (hz:HSw h):Tot (x_jx K p h) fun r=>Is r.1 (HOk p h):=by
 obtain ⟨z1,z2,z3⟩:=hz
 unfold x_jx
 refine tb (x_ql _ z1.1 z2) fun v1 h1=>?_
 subst h1
 refine tb (x_bk _ _ _) fun v2 g2=>tf g2 (fun a2=>?_) fun a=>tr (x_a fun h=>a h.1)
 refine tb (x_bk _ _ _) fun v3 g3=>tf g3 (fun a3=>?_) fun a=>tr (x_a fun h=>a h.2.1)
 refine tb (x_yx hK _ z1) fun v4 g4=>tf g4 (fun a4=>?_) fun a=>tr (x_a fun h=>a h.2.2.1)
 refine ti (fun a5=>?_) fun a5=>tr (x_a fun h=>a5 h.2.2.2.1)
 exact tb (x_q2 hK p _ z3) fun v5 g5=>tr ⟨fun h=>⟨a2,a3,a4,a5,g5.1 h⟩,fun h=>g5.2 h.2.2.2.2⟩
theorem x_0c {K:Nat} (hK:2097152≤K) (p:x_d) (h:x_dh) (hz:HSz h):Tot (x_jx K p h) fun r=>Is r.1 (HOk p h):=x_u2 hK p h hz.w
def EsOk (l:List x_c6) (t:Int):Prop:=(∀ i,i<l.length→(0≤(l.getD i x_ay).1∧(l.getD i x_ay).1≤t)∧COk (l.getD i x_ay).2)∧l.length≤40
def EsSz (l:List x_c6):Prop:=l.length<2097152∧ ∀ x∈l,CSz x.2
theorem EsOk.sz {l:List x_c6} {t:Int} (h:EsOk l t):EsSz l:=⟨by have:=h.2;omega,fun x hx=>by
 obtain ⟨i,hi,rfl⟩:=List.mem_iff_getElem.1 hx
 have:=(h.1 i hi).2.sz
 rwa [x_az hi] at this⟩
theorem x_x9 {K:Nat} (hK:2097152≤K) (l:List x_c6) (t:Int) (h:EsSz l):Tot (x_ds K l t) fun r=>Is r.1 (EsOk l t):=by
 obtain ⟨hl,hs⟩:=h
 unfold x_ds x_ds.b
 refine tA (L:=x_ds.l0 K l t) (fun _ _=>rfl) l.length (fun i=>(0≤(l.getD i x_ay).1∧(l.getD i x_ay).1≤t)∧COk (l.getD i x_ay).2) (fun i L' hi kk ha=>?_) (fun L' ha=>?_) (by omega)
 ·unfold x_ds.l0b
  rw [tz,wi (i:=i) (by omega)]
  refine ti (fun h1=>tc (by omega) (tc h1 ?_)) fun h1=>absurd (show (i:Int)<((l.length:Nat):Int) by omega) h1
  refine tb (x_bk _ _ _) fun v1 g1=>tg g1 (fun a=>tr (x_a fun h=>a (h.1 i hi).1)) fun a1=>t2_ (by omega) (?_)
  exact tb (x_n7 hK _ (hs _ (x_ad hi))) fun v2 g2=>tg g2 (fun a=>tr (x_a fun h=>a (h.1 i hi).2)) fun a2=>kk ⟨a1,a2⟩
 ·unfold x_ds.l0b
  exact ti (fun h1=>absurd h1 (by omega)) fun _=>tr ⟨fun h=>⟨ha,by have:=of_decide_eq_true h;omega⟩,fun h=>decide_eq_true (by have:=h.2;omega)⟩
def RpOk (r:TRpc) (n:Int):Prop:=(1≤r.1∧r.1≤5)∧(1≤n∧n≤5)∧(0≤r.2.1∧r.2.1≤n-1)∧(0≤r.2.2.1∧r.2.2.1≤n-1)∧r.2.1≠r.2.2.1∧(0≤r.2.2.2.1∧r.2.2.2.1≤300)∧(0≤r.2.2.2.2.1∧r.2.2.2.2.1≤300)∧(0≤r.2.2.2.2.2.1∧r.2.2.2.2.2.1≤300)∧(0≤r.2.2.2.2.2.2.1∧r.2.2.2.2.2.2.1≤300)∧EsOk r.2.2.2.2.2.2.2.1 r.2.2.2.1∧r.2.2.2.2.2.2.2.2.2.size≤30000
def RpSz (r:TRpc):Prop:=EsSz r.2.2.2.2.2.2.2.1
theorem RpOk.sz {r:TRpc} {n:Int} (h:RpOk r n):RpSz r:=h.2.2.2.2.2.2.2.2.2.1.sz
theorem x_vn {K:Nat} (hK:2097152≤K) (r:TRpc) (n:Int) (h:RpSz r):Tot (x_n2 K r n) fun x=>Is x.1 (RpOk r n):=by
 unfold x_n2
 refine tb (x_bk _ _ _) fun v1 g1=>tg g1 (fun a=>tr (x_a fun h=>a h.1)) fun a1=>?_
 refine tb (x_bk _ _ _) fun v2 g2=>tg g2 (fun a=>tr (x_a fun h=>a h.2.1)) fun a2=>?_
 rw [w6 (by omega) (by omega)]
 refine tb (x_bk _ _ _) fun v3 g3=>tg g3 (fun a=>tr (x_a fun h=>a h.2.2.1)) fun a3=>?_
 refine tb (x_bk _ _ _) fun v4 g4=>tg g4 (fun a=>tr (x_a fun h=>a h.2.2.2.1)) fun a4=>?_
 refine ti (fun h=>tr (x_a fun k=>k.2.2.2.2.1 h)) fun h5=>?_
 refine tb (x_bk _ _ _) fun v5 g5=>tf g5 (fun a5=>?_) fun a=>tr (x_a fun h=>a h.2.2.2.2.2.1)
 refine tb (x_bk _ _ _) fun v6 g6=>tf g6 (fun a6=>?_) fun a=>tr (x_a fun h=>a h.2.2.2.2.2.2.1)
 refine tb (x_bk _ _ _) fun v7 g7=>tf g7 (fun a7=>?_) fun a=>tr (x_a fun h=>a h.2.2.2.2.2.2.2.1)
 refine tb (x_bk _ _ _) fun v8 g8=>tf g8 (fun a8=>?_) fun a=>tr (x_a fun h=>a h.2.2.2.2.2.2.2.2.1)
 refine tb (x_x9 hK _ _ h) fun v9 g9=>tf g9 (fun a9=>tr ?_) fun a=>tr (x_a fun h=>a h.2.2.2.2.2.2.2.2.2.1)
 exact ⟨fun h=>⟨a1,a2,a3,a4,h5,a5,a6,a7,a8,a9,by have:=of_decide_eq_true h;omega⟩,fun h=>decide_eq_true (by have:=h.2.2.2.2.2.2.2.2.2.2;omega)⟩
def DOk (d:x_pu):Prop:=d.1.length≤80000∧(0≤d.2∧d.2≤(d.1.length:Int))
theorem x_qi (d:x_pu):Tot (x_j9 d) fun x=>Is x.1 (DOk d):=by
 unfold x_j9
 refine ti (fun h=>?_) fun h=>tr (x_a fun k=>h (by have:=k.1;omega))
 exact tb (x_bk _ _ _) fun v g=>tr ⟨fun h1=>⟨by omega,g.1 h1⟩,fun h1=>g.2 h1.2⟩
def PNm (n:x_bq) (i:Nat):Prop:=(1≤n.2.2.2.2.1.getD i 0∧n.2.2.2.2.1.getD i 0≤x_fb n.2.1.2.2.1+1)∧(0≤n.2.2.2.2.2.1.getD i 0∧n.2.2.2.2.2.1.getD i 0≤x_fb n.2.1.2.2.1)
def PHd (n:x_bq) (size:Int) (i:Nat):Prop:=RpOk (n.2.2.2.2.2.2.2.2.2.getD i zRpc) size∧(n.2.2.2.2.2.2.2.2.2.getD i zRpc).2.1=n.1
def POk (p:x_d) (n:x_bq) (size:Int):Prop:=(1≤size∧size≤5)∧(0≤n.1∧n.1≤size-1)∧HOk p n.2.1∧n.2.1.2.1<size∧(0≤n.2.2.1∧n.2.2.1≤2)∧(n.2.2.2.1.length:Int)=size∧(n.2.2.2.2.1.length:Int)=size∧(n.2.2.2.2.2.1.length:Int)=size∧
 (∀ i,(i:Nat)<size.toNat→PNm n i)∧(∀ i,i<n.2.2.2.2.2.2.2.2.2.length→PHd n size i)∧(n.2.1.2.2.1.1≤n.2.2.2.2.2.2.1∧n.2.2.2.2.2.2.1≤x_fb n.2.1.2.2.1)∧KOk p n.2.2.2.2.2.2.2.1∧DOk n.2.2.2.2.2.2.2.2.1∧n.2.2.2.2.2.2.2.2.2.length≤40
def PSz (n:x_bq):Prop:=HSz n.2.1∧KSz n.2.2.2.2.2.2.2.1∧n.2.2.2.2.2.2.2.2.2.length<2097152∧ ∀ r∈n.2.2.2.2.2.2.2.2.2,RpSz r
theorem POk.sz {p:x_d} {n:x_bq} {size:Int} (h:POk p n size):PSz n:=by
 obtain ⟨h1,h2,h3,h4,h5,h6,h7,h8,h9,h10,h11,h12,h13,h14⟩:=h
 refine ⟨h3.sz,h12.sz,by omega,fun r hr=>?_⟩
 obtain ⟨i,hi,rfl⟩:=List.mem_iff_getElem.1 hr
 have:=(h10 i hi).1.sz
 rwa [x_az hi] at this
def PSw (n:x_bq):Prop:=HSw n.2.1∧KSz n.2.2.2.2.2.2.2.1∧n.2.2.2.2.2.2.2.2.2.length<2097152∧ ∀ r∈n.2.2.2.2.2.2.2.2.2,RpSz r
theorem PSz.w {n:x_bq} (h:PSz n):PSw n:=⟨h.1.w,h.2⟩
theorem x_vv {K:Nat} (hK:2097152≤K) (p:x_d) (n:x_bq) (size:Int) (h:PSw n):Tot (x_as K p n size) fun x=>Is x.1 (POk p n size):=by
 obtain ⟨z1,z2,z3,z4⟩:=h
 unfold x_as x_as.b
 refine tb (x_bk _ _ _) fun v1 g1=>tg g1 (fun a=>tr (x_a fun h=>a h.1)) fun a1=>?_
 rw [w6 (by omega) (by omega)]
 refine tb (x_bk _ _ _) fun v2 g2=>tg g2 (fun a=>tr (x_a fun h=>a h.2.1)) fun a2=>?_
 refine tb (x_u2 hK p _ z1) fun v3 g3=>tg g3 (fun a=>tr (x_a fun h=>a h.2.2.1)) fun a3=>?_
 refine ti (fun a=>tr (x_a fun h=>by have:=h.2.2.2.1;omega)) fun a4=>?_
 refine tb (x_bk _ _ _) fun v4 g4=>tg g4 (fun a=>tr (x_a fun h=>a h.2.2.2.2.1)) fun a5=>?_
 refine tn (fun a=>tr (x_a fun h=>a h.2.2.2.2.2.1)) fun a6=>tn (fun a=>tr (x_a fun h=>a h.2.2.2.2.2.2.1)) fun a7=>tn (fun a=>tr (x_a fun h=>a h.2.2.2.2.2.2.2.1)) fun a8=>?_
 refine tb (x_ql _ z1.1.1 z1.2.1) fun v5 h5=>?_
 subst h5
 have hlog:=a3.2.2.1
 have hln:0≤x_fb n.2.1.2.2.1∧x_fb n.2.1.2.2.1≤300:=by have:=hlog.1;have:=hlog.2.2.1;unfold x_fb;omega
 refine tA (L:=fun m x=>x_as.l0 K p n size m (x_fb n.2.1.2.2.1,x_tj n.2.1.2.2.1,()) x) (b:=fun L' x=>x_as.l0b K p n size (fun _ x=>L' x) (x_as.l1 K p n size K) (x_fb n.2.1.2.2.1,x_tj n.2.1.2.2.1,()) x) (fun _ _=>rfl) size.toNat (PNm n) (fun i L' hi kk ha=>?_) (fun L' ha=>?_) (by omega)
 ·unfold x_as.l0b
  rw [tz,wi (i:=i) (by omega)]
  show Tot (bif decide ((i:Int)<size) then _ else _) _
  refine ti (fun h1=>t2_ (by omega) (?_)) fun h1=>absurd (show (i:Int)<size by omega) h1
  rw [w6 (n:=x_fb n.2.1.2.2.1+1) (by omega) (by omega)]
  refine tb (x_bk _ _ _) fun v6 g6=>tg g6 (fun a=>tr (x_a fun h=>a (h.2.2.2.2.2.2.2.2.1 i hi).1)) fun a6=>t2_ (by omega) (?_)
  exact tb (x_bk _ _ _) fun v7 g7=>tg g7 (fun a=>tr (x_a fun h=>a (h.2.2.2.2.2.2.2.2.1 i hi).2)) fun a7=>kk ⟨a6,a7⟩
 unfold x_as.l0b
 refine ti (fun h1=>absurd h1 (by omega)) fun _=>?_
 refine tA (L:=fun m x=>x_as.l1 K p n size m (x_fb n.2.1.2.2.1,x_tj n.2.1.2.2.1,()) x) (b:=fun L' x=>x_as.l1b K p n size (fun _ x=>L' x) (x_fb n.2.1.2.2.1,x_tj n.2.1.2.2.1,()) x) (fun _ _=>rfl) n.2.2.2.2.2.2.2.2.2.length (PHd n size) (fun i L' hi kk hb=>?_) (fun L' hb=>?_) (by omega)
 ·unfold x_as.l1b
  rw [tz,wi (i:=i) (by omega)]
  refine ti (fun h1=>tc (by omega) (tc h1 ?_)) fun h1=>absurd (show (i:Int)<((n.2.2.2.2.2.2.2.2.2.length:Nat):Int) by omega) h1
  refine tb (x_vn hK _ _ (z4 _ (x_ad hi))) fun v8 g8=>tg g8 (fun a=>tr (x_a fun h=>a (h.2.2.2.2.2.2.2.2.2.1 i hi).1)) fun b1=>tc (by omega) (tc h1 ?_)
  exact tn (fun a=>tr (x_a fun h=>a (h.2.2.2.2.2.2.2.2.2.1 i hi).2)) fun b2=>kk ⟨b1,b2⟩
 unfold x_as.l1b
 refine ti (fun h1=>absurd h1 (by omega)) fun _=>?_
 refine tb (x_bk _ _ _) fun v9 g9=>tf g9 (fun b1=>?_) fun a=>tr (x_a fun h=>a h.2.2.2.2.2.2.2.2.2.2.1)
 refine tb (x_q2 hK p _ z2) fun v10 g10=>tf g10 (fun b2=>?_) fun a=>tr (x_a fun h=>a h.2.2.2.2.2.2.2.2.2.2.2.1)
 refine tb (x_qi _) fun v11 g11=>tf g11 (fun b3=>tr ?_) fun a=>tr (x_a fun h=>a h.2.2.2.2.2.2.2.2.2.2.2.2.1)
 exact ⟨fun h=>⟨a1,a2,a3,by omega,a5,a6,a7,a8,ha,hb,b1,b2,b3,by have:=of_decide_eq_true h;omega⟩,fun h=>decide_eq_true (by have:=h.2.2.2.2.2.2.2.2.2.2.2.2.2;omega)⟩
theorem x_ha {K:Nat} (hK:2097152≤K) (p:x_d) (n:x_bq) (size:Int) (h:PSz n):Tot (x_as K p n size) fun x=>Is x.1 (POk p n size):=x_vv hK p n size h.w
theorem x_d1 {α : Type} {l:List α} {i:Nat} {z : α} (h:i<l.length):l.take i++[l.getD i z]=l.take (i+1):=by
 rw [List.take_succ,x_az h,ge_ h];rfl
theorem x_ks (a b:Int):Tot (x_gp a b) fun r=>r.1=max a b:=by
 unfold x_gp
 exact ti (fun h=>tr (by show a=_;omega)) fun h=>tr (by show b=_;omega)
theorem x_ij (a b:Int):Tot (x_hg a b) fun r=>r.1=min a b:=by
 unfold x_hg
 exact ti (fun h=>tr (by show a=_;omega)) fun h=>tr (by show b=_;omega)
theorem x_tn (r:TRpc) (h:r.2.2.2.2.2.2.2.1.length<2097152):Tot (x_ll r) fun x=>x.1=r:=by
 unfold x_ll
 exact tc (by show _≤70368744177664;(try dsimp only);(try simp only [ll_]);omega) (tr rfl)
theorem x_vp {K:Nat} (hK:2097152≤K) (l:List TRpc) (h:l.length<2097152) (hs:∀ r∈l,RpSz r):Tot (x_cx K l) fun x=>x.1=l:=by
 unfold x_cx x_cx.b
 refine l2_ (L:=x_cx.l0 K l) (fun _ _ _=>rfl) (fun m q x=> ∃ i:Nat,x=i∧i+m=l.length∧q=l.take i) (fun m q x L' hi k=>?_) (m:=l.length) (by omega) ⟨0,rfl,by omega,rfl⟩
 obtain ⟨i,rfl,hm,rfl⟩:=hi
 unfold x_cx.l0b
 rw [tz]
 refine ti (fun h1=>tc (by omega) (tc h1 ?_)) fun h1=>tr (List.take_of_length_le (by omega))
 have hi:i<l.length:=by omega
 refine tv (x_tn _ (hs _ (x_ad hi)).1) (tc (by show _≤70368744177664;(try dsimp only);(try simp only [ll_]);omega) ?_)
 rw [w6 (by omega) (by omega)]
 exact k (m-1) _ _ (by omega) ⟨i+1,by push_cast;rfl,by omega,x_d1 hi⟩
theorem x_q5 (l:TLog) (h:l.2.2.length<2097152):Tot (x_j2 l) fun x=>x.1=l:=by
 unfold x_j2
 exact tc (by show _≤70368744177664;(try dsimp only);(try simp only [ll_]);omega) (tr rfl)
theorem x_n9 (m:x_at) (h:m.2.2.2.2.length<2097152):Tot (x_ex m) fun x=>x.1=m:=by
 unfold x_ex
 exact tc (by show _≤70368744177664;(try dsimp only);(try simp only [ll_]);omega) (tr rfl)
theorem x_l2 {K:Nat} (hK:2097152≤K) (k:x_ai) (h:KSz k):Tot (x_aj K k) fun x=>x.1=k:=by
 obtain ⟨z1,z2,z3,z4,z5,z6,z7,z8⟩:=h
 have z31:=z3.1
 unfold x_aj x_aj.b
 refine tc (by show _≤70368744177664;(try dsimp only);(try simp only [ll_]);omega) (tc (by show _≤70368744177664;(try dsimp only);(try simp only [ll_]);omega) ?_)
 refine l2_ (L:=x_aj.l0 K k) (b:=fun L'=>x_aj.l0b K k L' (x_aj.l1 K k K)) (fun _ _ _=>rfl) (fun m x q=> ∃ i:Nat,x=i∧i+m=k.1.length∧q=k.1.take i) (fun m x q L' hi kk=>?_) (m:=k.1.length) (by omega) ⟨0,rfl,by omega,rfl⟩
 obtain ⟨i,rfl,hm,rfl⟩:=hi
 unfold x_aj.l0b
 rw [tz]
 refine ti (fun h1=>tc (by omega) (tc h1 ?_)) fun h1=>?_
 ·have hi:i<k.1.length:=by omega
  refine tv (x_l4 _ (z2 _ (x_ad hi))) (tc (by show _≤70368744177664;(try dsimp only);(try simp only [ll_]);omega) ?_)
  rw [w6 (by omega) (by omega)]
  exact kk (m-1) _ _ (by omega) ⟨i+1,by push_cast;rfl,by omega,x_d1 hi⟩
 rw [List.take_of_length_le (show k.1.length≤i by omega)]
 refine l3_ (L:=x_aj.l1 K k) (b:=fun L'=>x_aj.l1b K k L' (x_aj.l2 K k K)) (fun _ _ _ _=>rfl) (fun m x r q=>r=k.1∧ ∃ i:Nat,x=i∧i+m=k.2.1.length∧q=k.2.1.take i) (fun m x r q L' hi kk=>?_) (m:=k.2.1.length) (by omega) ⟨rfl,0,rfl,by omega,rfl⟩
 obtain ⟨rfl,i,rfl,hm,rfl⟩:=hi
 unfold x_aj.l1b
 rw [tz]
 refine ti (fun h1=>tc (by omega) (tc h1 ?_)) fun h1=>?_
 ·have hi:i<k.2.1.length:=by omega
  refine tv (x_n9 _ (z3.2 _ (x_ad hi)).1) (tc (by show _≤70368744177664;(try dsimp only);(try simp only [ll_]);omega) ?_)
  rw [w6 (by omega) (by omega)]
  exact kk (m-1) _ _ _ (by omega) ⟨rfl,i+1,by push_cast;rfl,by omega,x_d1 hi⟩
 rw [List.take_of_length_le (show k.2.1.length≤i by omega)]
 refine l4_ (L:=x_aj.l2 K k) (fun _ _ _ _ _=>rfl) (fun m x r a q=>r=k.1∧a=k.2.1∧ ∃ i:Nat,x=i∧i+m=k.2.2.1.length∧q=k.2.2.1.take i) (fun m x r a q L' hi kk=>?_) (m:=k.2.2.1.length) (by omega) ⟨rfl,rfl,0,rfl,by omega,rfl⟩
 obtain ⟨rfl,rfl,i,rfl,hm,rfl⟩:=hi
 unfold x_aj.l2b
 rw [tz]
 refine ti (fun h1=>tc (by omega) (tc h1 ?_)) fun h1=>tr ?_
 ·have hi:i<k.2.2.1.length:=by omega
  refine tv (x_lm _ (z5 _ (x_ad hi))) (tc (by show _≤70368744177664;(try dsimp only);(try simp only [ll_]);omega) ?_)
  rw [w6 (by omega) (by omega)]
  exact kk (m-1) _ _ _ _ (by omega) ⟨rfl,rfl,i+1,by push_cast;rfl,by omega,x_d1 hi⟩
 ·rw [List.take_of_length_le (show k.2.2.1.length≤i by omega)];rfl
theorem x_wd {K:Nat} (hK:2097152≤K) (h:x_dh) (hl:h.2.2.1.2.2.length<2097152) (hk:KSz h.2.2.2):Tot (x_g3 K h) fun x=>x.1=h:=by
 unfold x_g3
 exact tv (x_q5 _ hl) (tv (x_l2 hK _ hk) (tr rfl))
theorem x_mz (d:x_pu) (h:d.1.length<2097152):Tot (x_h7 d) fun x=>x.1=d:=by
 unfold x_h7
 exact tc (by show _≤70368744177664;(try dsimp only);(try simp only [ll_]);omega) (tr rfl)
def NSz (n:x_bq):Prop:=PSz n∧n.2.2.2.1.length<2097152∧n.2.2.2.2.1.length<2097152∧n.2.2.2.2.2.1.length<2097152∧n.2.2.2.2.2.2.2.2.1.1.length<2097152
theorem x_fv {K:Nat} (hK:2097152≤K) (n:x_bq) (h:NSz n):Tot (x_ae K n) fun x=>x.1=n:=by
 obtain ⟨⟨⟨a1,_,a2⟩,b,c,d⟩,e,f,g,i⟩:=h
 unfold x_ae
 refine tv (x_wd hK _ a1.1 a2) (tc (by show _≤70368744177664;(try dsimp only);(try simp only [ll_]);omega) (tc (by show _≤70368744177664;(try dsimp only);(try simp only [ll_]);omega) (tc (by show _≤70368744177664;(try dsimp only);(try simp only [ll_]);omega) ?_)))
 exact tv (x_l2 hK _ b) (tv (x_mz _ i) (tv (x_vp hK _ c d) (tr rfl)))
def WSz (w:x_u):Prop:=w.2.2.1.length<2097152∧(∀ n∈w.2.2.1,NSz n)∧w.2.2.2.1.length<2097152∧(∀ r∈w.2.2.2.1,RpSz r)∧w.2.2.2.2.1.length<2097152∧w.2.2.2.2.2.1.length<2097152∧w.2.2.2.2.2.2.1.length<2097152∧w.2.2.2.2.2.2.2.length<2097152
theorem x_ws {K:Nat} (hK:2097152≤K) (w:x_u) (h:WSz w):Tot (x_ch K w) fun x=>x.1=w:=by
 obtain ⟨z1,z2,z3,z4,z5,z6,z7,z8⟩:=h
 unfold x_ch x_ch.b
 refine tb (x_vp hK _ z3 z4) fun v1 h1=>tc (by show _≤70368744177664;(try dsimp only);(try simp only [ll_]);omega) (tc (by show _≤70368744177664;(try dsimp only);(try simp only [ll_]);omega) (tc (by show _≤70368744177664;(try dsimp only);(try simp only [ll_]);omega) (tc (by show _≤70368744177664;(try dsimp only);(try simp only [ll_]);omega) ?_)))
 refine l3_ (L:=x_ch.l0 K w) (fun _ _ _ _=>rfl) (fun m x q v=>v.1=w.2.2.2.1∧ ∃ i:Nat,x=i∧i+m=w.2.2.1.length∧q=w.2.2.1.take i) (fun m x q v L' hi kk=>?_) (m:=w.2.2.1.length) (by omega) ⟨h1,0,rfl,by omega,rfl⟩
 obtain ⟨hv,i,rfl,hm,rfl⟩:=hi
 unfold x_ch.l0b
 rw [tz]
 refine ti (fun h1=>tc (by omega) (tc h1 ?_)) fun h1=>tr ?_
 ·have hi:i<w.2.2.1.length:=by omega
  refine tv (x_fv hK _ (z2 _ (x_ad hi))) (tc (by show _≤70368744177664;(try dsimp only);(try simp only [ll_]);omega) ?_)
  rw [w6 (by omega) (by omega)]
  exact kk (m-1) _ _ _ (by omega) ⟨hv,i+1,by push_cast;rfl,by omega,x_d1 hi⟩
 ·rw [List.take_of_length_le (show w.2.2.1.length≤i by omega)]
  show (w.1,w.2.1,w.2.2.1,v.1,_)=w
  rw [hv];rfl
theorem z0m':0≤(0:Int)∧(0:Int)≤100000:=by decide
theorem x_mq {K:Nat} (hK:2097152≤K) (s:x_d) (hs:SOk s):Tot (x_ci K s) fun x=>KOk s x.1∧x.1=(List.replicate s.1.toNat zRow,[],[(0,[],[],List.replicate s.1.toNat 0),(0,[],[],List.replicate s.1.toNat 0)],0,List.replicate 4 0,List.replicate 4 x_b7):=by
 have hr:=hs.1
 unfold x_ci x_ci.b
 refine tb (x_f5 s) fun v1 g1=>tg g1 (fun a=>absurd hs a) fun _=>tc rfl (tc (by omega) (tc (by show _≤70368744177664;(try dsimp only);(try simp only [ll_]);omega) ?_))
 have gn:GOk s.1 (0,[],[],List.replicate s.1.toNat 0):=by
  obtain ⟨⟨a,u⟩,_,e,g⟩:=x_oq _ hr
  rw [e] at g;exact g
 refine l2_ (L:=x_ci.l0 K s) (fun _ _ _=>rfl) (fun m x q=> ∃ i:Nat,x=i∧i+m=2∧q=List.replicate i (0,[],[],List.replicate s.1.toNat 0)) (fun m x q L' hi kk=>?_) (m:=2) (by omega) ⟨0,rfl,by omega,rfl⟩
 obtain ⟨i,rfl,hm,rfl⟩:=hi
 unfold x_ci.l0b
 refine ti (fun h1=>?_) fun h1=>tr ?_
 ·refine tb (x_oq _ hr) fun v2 g2=>tc (by show _≤70368744177664;rw [length_replicate];simp;omega) ?_
  rw [w6 (by omega) (by omega),g2.1]
  exact kk (m-1) _ _ (by omega) ⟨i+1,by push_cast;rfl,by omega,by rw [List.replicate_succ']⟩
 ·obtain rfl:i=2:=by omega
  refine ⟨⟨hs,?_,rfl,rfl,rfl,z0m',fun i hi=>absurd hi (Nat.not_lt_zero _),fun i hi=>?_,fun i hi=>?_,fun i hi=>?_⟩,rfl⟩
  ·show (((List.replicate s.1.toNat zRow).length:Nat):Int)=_
   rw [length_replicate];omega
  ·have hi:i<(List.replicate s.1.toNat zRow).length:=hi
   show ROk ((List.replicate s.1.toNat zRow).getD i zRow)
   rw [x_az hi,List.getElem_replicate]
   exact zRow_ok
  ·show GOk _ ((List.replicate 2 (0,[],[],List.replicate s.1.toNat 0)).getD i x_bv)
   rw [x_az (by simpa using hi),List.getElem_replicate]
   exact gn
  ·show (0≤(List.replicate 4 (0:Int)).getD i 0∧(List.replicate 4 (0:Int)).getD i 0≤100000)∧AOk ((List.replicate 4 x_b7).getD i x_b7)
   rw [x_az (by simpa using hi),List.getElem_replicate,x_az (by simpa using hi),List.getElem_replicate]
   exact ⟨z0m',⟨by decide,by decide⟩,⟨by decide,by decide⟩,tx0,tx0⟩
theorem x_mw {K:Nat} (hK:2097152≤K) (s:x_d) (hs:SOk s):Tot (x_g6 K s) fun x=>HOk s x.1∧ ∃ k,KOk s k∧x.1=(0, -1,(0,0,[]),k):=by
 unfold x_g6
 refine tb (x_f5 s) fun v1 g1=>tg g1 (fun a=>absurd hs a) fun _=>tb (x_mq hK s hs) fun v2 g2=>tr ⟨?_,v2.1,g2.1,rfl⟩
 exact ⟨⟨by show (0:Int)≤0;decide,by show (0:Int)≤300;decide⟩,⟨by show (-1:Int)≤ -1;decide,by show (-1:Int)≤4;decide⟩,⟨⟨by show (0:Int)≤0;decide,by show (0:Int)≤300;decide⟩,⟨by show (0:Int)≤0;decide,by show (0:Int)≤300;decide⟩,by show ((0:Nat):Int)≤300-0;decide,fun i hi=>absurd hi (Nat.not_lt_zero _)⟩,by show (0:Int)≤0;decide,g2.1⟩
theorem x_q9 {K:Nat} (hK:2097152≤K) (n x:Int) (h:0≤n∧n≤1000):Tot (x_ck K n x) fun r=>r.1=List.replicate n.toNat x:=by
 unfold x_ck x_ck.b
 refine l2_ (L:=x_ck.l0 K n x) (fun _ _ _=>rfl) (fun m q y=> ∃ i:Nat,y=i∧i+m=n.toNat∧q=List.replicate i x) (fun m q y L' hi kk=>?_) (m:=n.toNat) (by omega) ⟨0,rfl,by omega,rfl⟩
 obtain ⟨i,rfl,hm,rfl⟩:=hi
 unfold x_ck.l0b
 refine ti (fun h1=>tc (by show _≤70368744177664;rw [length_replicate];simp;omega) ?_) fun h1=>tr (by rw [show i=n.toNat by omega])
 rw [w6 (by omega) (by omega)]
 exact kk (m-1) _ _ (by omega) ⟨i+1,by push_cast;rfl,by omega,by rw [List.replicate_succ']⟩
theorem x_om {c:x_6} (h:x_c9 c):Tot (x_e8 c) fun r=>CSz r.1∧x_c9 r.2.1:=by
 unfold x_e8
 have e:CSz (0,0,0,0,0,0,ByteArray.empty,ByteArray.empty):=⟨(by decide:ByteArray.empty.size<2097152),(by decide:ByteArray.empty.size<2097152)⟩
 refine tb (x_ax h _ (by decide)) fun v1 h1=>tb (x_af h1.2 3 (by omega)) fun v2 h2=>tb (x_af h2.2.2 4 (by omega)) fun v3 h3=>tb (x_af h3.2.2 3 (by omega)) fun v4 h4=>?_
 refine ti (fun _=>?_) fun _=>ti (fun _=>?_) fun _=>tr ⟨⟨e.1,e.2⟩,h4.2.2⟩
 ·exact tb (x_h1 h4.2.2) fun v5 h5=>tb (x_h1 h5.2) fun v6 h6=>tb (x_ax h6.2 _ (by decide)) fun v7 h7=>tr ⟨⟨h5.1.sz,h6.1.sz⟩,h7.2⟩
 ·exact tb (x_ax h4.2.2 _ (by decide)) fun v8 h8=>tr ⟨⟨e.1,e.2⟩,h8.2⟩
theorem x_nj {c:x_6} (h:x_c9 c) (n:Int):Tot (x_ii c n) fun r=>x_c9 r.2.1:=by
 unfold x_ii
 exact tb (x_u7 h n) fun v hv=>tr hv.2.2
def x_gy (n:Nat):List Int:=if n<128 then [(n:Int)] else ((n % 128+128:Nat):Int)::x_gy (n / 128)
termination_by n
decreasing_by omega
noncomputable def encN (n:Int):List Int:=if 0≤n∧n≤2147483647 then x_gy n.toNat else []
def BOk (l:List Int):Prop:= ∀ x∈l,0≤x∧x≤255
theorem BOk.app {a b:List Int} (h:BOk a) (k:BOk b):BOk (a++b):=fun x hx=>(mem_append.1 hx).elim (h x) (k x)
theorem BOk.nil:BOk []:=fun x hx=>by simp at hx
theorem encNat_ok (n:Nat):BOk (x_gy n):=by
 induction n using Nat.strongRecOn with
 | ind n ih=>
  rw [x_gy]
  split
  ·intro x hx
   rw [mem_singleton] at hx
   omega
  ·intro x hx
   rcases mem_cons.1 hx with rfl | hx
   ·omega
   ·exact ih (n / 128) (by omega) x hx
theorem x_sq:∀ (k n:Nat),n<128 ^ (k+1)→(x_gy n).length≤k+1
 | 0,n,h=>by rw [x_gy,if_pos (by simpa using h)];simp
 | k+1,n,h=>by
  rw [x_gy]
  split
  ·simp
  ·have:=x_sq k (n / 128) (by rw [Nat.pow_succ] at h;omega)
   simp only [length_cons]
   omega
theorem x_cd (n:Int):BOk (encN n)∧(encN n).length≤5:=by
 unfold encN
 split
 ·exact ⟨encNat_ok _,x_sq 4 _ (by omega)⟩
 ·exact ⟨.nil,by simp⟩
theorem x_gc {K:Nat} (hK:2097152≤K) (n:Int):Tot (x_bw K n) fun x=>x.1=encN n:=by
 unfold x_bw x_bw.b encN
 refine tb (x_bk _ _ _) fun v1 g1=>tg g1 (fun a=>tr (by rw [if_neg a])) fun a=>?_
 rw [if_pos a]
 refine l2_ (L:=x_bw.l0 K n) (fun _ _ _=>rfl) (fun m x q=>0≤x∧x≤2147483647∧q.length+m≤100∧q++x_gy x.toNat=x_gy n.toNat∧x.toNat<128 ^ m) (fun m x q L' hi kk=>?_) (m:=5) (by omega) ⟨a.1,a.2,by simp,rfl,by omega⟩
 obtain ⟨h0,h1,hm,he,hp⟩:=hi
 unfold x_bw.l0b
 refine ti (fun h2=>?_) fun h2=>?_
 ·have hm0:0<m:=by
   rcases Nat.eq_zero_or_pos m with h | h
   ·subst h;simp at hp;omega
   ·exact h
  have t1:=x_mb (x:=x) (n:=128) h0 (by omega)
  have t2:=x_sb (x:=x) (l:=128) h0 (by omega)
  rw [w6 (n:=Int.tmod x 128+128) (by omega) (by omega),w8 (by omega) (by omega),w6 (n:=Int.tdiv x 128) (by omega) (by omega)]
  refine tc (by show _≤70368744177664;(try dsimp only);(try simp only [ll_]);omega) (kk (m-1) _ _ (by omega) ⟨by omega,by omega,by simp;omega,?_,?_⟩)
  ·rw [←he,List.append_assoc]
   congr 1
   conv=>rhs;rw [x_gy]
   rw [if_neg (by omega)]
   have e1:(Int.tdiv x 128).toNat=x.toNat / 128:=by rw [Int.tdiv_eq_ediv_of_nonneg h0];omega
   have e2:Int.tmod x 128+128=((x.toNat % 128+128:Nat):Int):=by rw [Int.tmod_eq_emod_of_nonneg h0];omega
   rw [e1,e2];rfl
  ·obtain ⟨m,rfl⟩ : ∃ k,m=k+1:=⟨m-1,by omega⟩
   rw [Nat.pow_succ] at hp
   have e1:(Int.tdiv x 128).toNat=x.toNat / 128:=by rw [Int.tdiv_eq_ediv_of_nonneg h0];omega
   rw [e1,Nat.add_sub_cancel]
   omega
 ·rw [w8 (by omega) (by omega)]
  refine tc (by show _≤70368744177664;(try dsimp only);(try simp only [ll_]);omega) (tr ?_)
  show q++[x]=_
  rw [←he]
  congr 1
  rw [x_gy,if_pos (by omega),show ((x.toNat:Nat):Int)=x by omega]
noncomputable def x_i9 (l:List Int):List Int:=l.flatMap encN
theorem x_ez (l:List Int):BOk (x_i9 l)∧(x_i9 l).length≤5*l.length:=by
 induction l with
 | nil=>exact ⟨.nil,by simp [x_i9]⟩
 | cons x l ih=>
  have:=x_cd x
  unfold x_i9 at *
  rw [List.flatMap_cons]
  exact ⟨this.1.app ih.1,by simp only [length_append,length_cons];omega⟩
theorem x_kz {α β : Type} {l:List α} {f : α→List β} {i:Nat} {z : α} (h:i<l.length):(l.take i).flatMap f++f (l.getD i z)=(l.take (i+1)).flatMap f:=by
 rw [←x_d1 (z:=z) h,List.flatMap_append];simp
theorem x_ts {K:Nat} (hK:2097152≤K) (l:List Int) (h:l.length<200000):Tot (x_cc K l) fun x=>x.1=x_i9 l:=by
 unfold x_cc x_cc.b
 refine l2_ (L:=x_cc.l0 K l) (fun _ _ _=>rfl) (fun m q x=> ∃ i:Nat,x=i∧i+m=l.length∧q=x_i9 (l.take i)) (fun m q x L' hi kk=>?_) (m:=l.length) (by omega) ⟨0,rfl,by omega,rfl⟩
 obtain ⟨i,rfl,hm,rfl⟩:=hi
 unfold x_cc.l0b
 rw [tz]
 refine ti (fun h1=>tc (by omega) (tc h1 ?_)) fun h1=>tr (by rw [List.take_of_length_le (by omega)])
 have hi:i<l.length:=by omega
 refine tv (x_gc hK _) ?_
 have k1:=(x_ez (l.take i)).2
 have k2:=(x_cd (l.getD i 0)).2
 rw [length_take] at k1
 refine tc (by show _≤70368744177664;(try dsimp only);(try simp only [ll_]);omega) ?_
 rw [w6 (by omega) (by omega)]
 exact kk (m-1) _ _ (by omega) ⟨i+1,by push_cast;rfl,by omega,x_kz hi⟩
theorem x_ga (s:ByteArray):BOk (x_co s)∧(x_co s).length=s.size:=by
 unfold x_co
 refine ⟨fun x hx=>?_,by rw [length_map,x_m8]⟩
 obtain ⟨b,_,rfl⟩:=List.mem_map.1 hx
 have:=b.toNat_lt
 omega
noncomputable def encT (s:ByteArray):List Int:=encN s.size++x_co s
theorem x_f9 (s:ByteArray):BOk (encT s)∧(encT s).length≤5+s.size:=by
 have h:=x_cd s.size
 have k:=x_ga s
 unfold encT
 exact ⟨h.1.app k.1,by rw [length_append];omega⟩
theorem x_kk {K:Nat} (hK:2097152≤K) (s:ByteArray) (h:s.size<200000):Tot (x_e4 K s) fun x=>x.1=encT s:=by
 unfold x_e4
 have h1:=(x_cd s.size).2
 have k:=(x_ga s).2
 exact tv (x_gc hK _) (tc (by show _≤70368744177664;(try dsimp only);(try simp only [ll_]);omega) (tr rfl))
noncomputable def encC (c:TCmd):List Int:=(x_i9 [c.1+1,c.2.1,c.2.2.1,c.2.2.2.1,c.2.2.2.2.1,c.2.2.2.2.2.1]++encT c.2.2.2.2.2.2.1)++encT c.2.2.2.2.2.2.2
theorem COk.tx {c:TCmd} (h:COk c):c.2.2.2.2.2.2.1.size≤30∧c.2.2.2.2.2.2.2.size≤30:=by
 rcases h with ⟨_,rfl⟩ | h
 ·exact ⟨e30,e30⟩
 ·exact ⟨h.2.2.2.2.2.2.2.1.1,h.2.2.2.2.2.2.2.2.1⟩
theorem COk.who {c:TCmd} (h:COk c) : -1≤c.1∧c.1≤3:=by
 rcases h with ⟨h,_⟩ | h<;>omega
theorem x_z1 {c:TCmd} (h:COk c):BOk (encC c)∧(encC c).length≤100:=by
 have h1:=x_ez [c.1+1,c.2.1,c.2.2.1,c.2.2.2.1,c.2.2.2.2.1,c.2.2.2.2.2.1]
 have h2:=x_f9 c.2.2.2.2.2.2.1
 have h3:=x_f9 c.2.2.2.2.2.2.2
 have h4:=h.tx
 simp only [length_cons,length_nil] at h1
 unfold encC
 exact ⟨(h1.1.app h2.1).app h3.1,by rw [length_append,length_append];omega⟩
theorem x_1d {K:Nat} (hK:2097152≤K) (c:TCmd) (h:COk c):Tot (x_kr K c) fun x=>x.1=encC c:=by
 unfold x_kr
 have hw:=h.who
 have h1:=(x_ez [c.1+1,c.2.1,c.2.2.1,c.2.2.2.1,c.2.2.2.2.1,c.2.2.2.2.2.1]).2
 have h2:=(x_f9 c.2.2.2.2.2.2.1).2
 have h3:=(x_f9 c.2.2.2.2.2.2.2).2
 have h4:=h.tx
 simp only [length_cons,length_nil] at h1
 refine tb (x_n7 hK c h.sz) fun v g=>tg g (fun a=>absurd h a) fun _=>?_
 rw [w6 (by omega) (by omega)]
 refine tv (x_ts hK _ (by simp)) (tv (x_kk hK _ (by omega)) (tc (by show _≤70368744177664;(try dsimp only);(try simp only [ll_]);omega) (tv (x_kk hK _ (by omega)) (tc (by show _≤70368744177664;(try dsimp only);(try simp only [ll_]);omega) (tr rfl)))))
noncomputable def encE (e:x_c6):List Int:=encN e.1++encC e.2
def NtOk (r:x_df):Prop:=(0≤r.2.1∧r.2.1≤300)∧(0≤r.2.2.2.1∧r.2.2.2.1≤300)∧EsOk r.2.2.2.2.1 300∧r.2.2.2.2.2.size≤30000∧
 ((r.1=1∧(-1≤r.2.2.1∧r.2.2.1≤4)∧r.2.2.2.1=0∧r.2.2.2.2.1=[]∧r.2.2.2.2.2=ByteArray.empty)∨(r.1=2∧r.2.2.1=0∧r.2.2.2.2.2=ByteArray.empty)∨(r.1=3∧r.2.2.1=0∧r.2.2.2.2.1=[]))
theorem x_nr (s:ByteArray):Is (decide (s.data.toList=ByteArray.empty.data.toList)) (s=ByteArray.empty):=⟨fun h=>ba_ext (of_decide_eq_true h),fun h=>by rw [h];simp⟩
theorem x_ol {K:Nat} (hK:2097152≤K) (r:x_df) (h:EsSz r.2.2.2.2.1):Tot (x_j8 K r) fun x=>Is x.1 (NtOk r):=by
 unfold x_j8
 refine tb (x_bk _ _ _) fun v1 g1=>tg g1 (fun a=>tr (x_a fun h=>a h.1)) fun a1=>?_
 refine tb (x_bk _ _ _) fun v2 g2=>tg g2 (fun a=>tr (x_a fun h=>a h.2.1)) fun a2=>?_
 refine tb (x_x9 hK _ _ h) fun v3 g3=>tg g3 (fun a=>tr (x_a fun h=>a h.2.2.1)) fun a3=>?_
 refine ti (fun a=>tr (x_a fun h=>by have:=h.2.2.2.1;omega)) fun a4=>?_
 have hl:r.2.2.2.2.1=[]↔((r.2.2.2.2.1.length:Nat):Int)=0:=by rw [←List.length_eq_zero_iff];omega
 have he:=x_nr r.2.2.2.2.2
 refine ti (fun k1=>?_) fun k1=>ti (fun k2=>?_) fun k2=>ti (fun k3=>?_) fun k3=>tr (x_a fun h=>by rcases h.2.2.2.2 with h | h | h<;>omega)
 ·have no:∀ {p:Prop},((-1≤r.2.2.1∧r.2.2.1≤4)∧r.2.2.2.1=0∧r.2.2.2.2.1=[]∧r.2.2.2.2.2=ByteArray.empty→p)→ ¬ p→ ¬ NtOk r:=fun k np h=>by
   rcases h.2.2.2.2 with h | h | h
   ·exact np (k h.2)
   ·omega
   ·omega
  refine tb (x_bk _ _ _) fun v4 g4=>tf g4 (fun b1=>ti (fun b2=>ti (fun b3=>tr ?_) fun b3=>tr (x_a (no (fun h=>h.2.2.1) fun h=>b3 (hl.1 h)))) fun b2=>tr (x_a (no (fun h=>h.2.1) b2))) fun b1=>tr (x_a (no (fun h=>h.1) b1))
  refine ⟨fun h=>⟨a1,a2,a3,by omega, .inl ⟨k1,b1,b2,hl.2 b3,he.1 h⟩⟩,fun h=>he.2 ?_⟩
  rcases h.2.2.2.2 with h | h | h
  ·exact h.2.2.2.2
  ·omega
  ·omega
 ·refine ti (fun b1=>tr ⟨fun h=>⟨a1,a2,a3,by omega, .inr (.inl ⟨k2,b1,he.1 h⟩)⟩,fun h=>he.2 ?_⟩) fun b1=>tr (x_a fun h=>?_)
  ·rcases h.2.2.2.2 with h | h | h
   ·omega
   ·exact h.2.2
   ·omega
  ·rcases h.2.2.2.2 with h | h | h
   ·omega
   ·exact b1 h.2.1
   ·omega
 ·refine ti (fun b1=>tr ⟨fun h=>⟨a1,a2,a3,by omega, .inr (.inr ⟨k3,b1,hl.2 (of_decide_eq_true h)⟩)⟩,fun h=>decide_eq_true (hl.1 ?_)⟩) fun b1=>tr (x_a fun h=>?_)
  ·rcases h.2.2.2.2 with h | h | h
   ·omega
   ·omega
   ·exact h.2.2
  ·rcases h.2.2.2.2 with h | h | h
   ·omega
   ·omega
   ·exact b1 h.2.1
noncomputable def x_cp (r:x_df):List Int:=(((((encN r.1++encN r.2.1)++encN (r.2.2.1+1))++encN r.2.2.2.1)++encN (r.2.2.2.2.1.length:Int))++r.2.2.2.2.1.flatMap encE)++encT r.2.2.2.2.2
theorem x_rm:∀ {l:List x_c6},(∀ e∈l,COk e.2)→BOk (l.flatMap encE)∧(l.flatMap encE).length≤105*l.length
 | [],_=>⟨.nil,by simp⟩
 | e::l,h=>by
  have h1:=x_rm (l:=l) fun x hx=>h x (by simp [hx])
  have h2:=x_cd e.1
  have h3:=x_z1 (h e (by simp))
  rw [List.flatMap_cons]
  unfold encE at *
  refine ⟨(h2.1.app h3.1).app h1.1,?_⟩
  simp only [length_append,length_cons]
  omega
theorem EsOk.cok {l:List x_c6} {t:Int} (h:EsOk l t):∀ e∈l,COk e.2:=fun e he=>by
 obtain ⟨i,hi,rfl⟩:=List.mem_iff_getElem.1 he
 have:=(h.1 i hi).2
 rwa [x_az hi] at this
theorem x_ho {r:x_df} (h:NtOk r):BOk (x_cp r)∧(x_cp r).length≤34300:=by
 obtain ⟨_,_,h3,h4,_⟩:=h
 have e1:=x_cd r.1
 have e2:=x_cd r.2.1
 have e3:=x_cd (r.2.2.1+1)
 have e4:=x_cd r.2.2.2.1
 have e5:=x_cd (r.2.2.2.2.1.length:Int)
 have e6:=x_rm h3.cok
 have e7:=x_f9 r.2.2.2.2.2
 have:=h3.2
 unfold x_cp
 refine ⟨(((((e1.1.app e2.1).app e3.1).app e4.1).app e5.1).app e6.1).app e7.1,?_⟩
 simp only [length_append]
 omega
theorem x_za {K:Nat} (hK:2097152≤K) (r:x_df) (h:NtOk r):Tot (x_d8 K r) fun x=>x.1=x_cp r:=by
 have h3:=h.2.2.1
 have h40:=h3.2
 have h4:=h.2.2.2.1
 have e1:=(x_cd r.1).2
 have e2:=(x_cd r.2.1).2
 have e3:=(x_cd (r.2.2.1+1)).2
 have e4:=(x_cd r.2.2.2.1).2
 have e5:=(x_cd (r.2.2.2.2.1.length:Int)).2
 have e7:=(x_f9 r.2.2.2.2.2).2
 have hv : -1≤r.2.2.1∧r.2.2.1≤4:=by rcases h.2.2.2.2 with h | h | h<;>omega
 unfold x_d8 x_d8.b
 rw [w6 (n:=r.2.2.1+1) (by omega) (by omega)]
 refine tv (x_gc hK _) (tv (x_gc hK _) (tc (by show _≤70368744177664;(try dsimp only);(try simp only [ll_]);omega) (tv (x_gc hK _) (tc (by show _≤70368744177664;(try dsimp only);(try simp only [ll_]);omega) (tv (x_gc hK _) (tc (by show _≤70368744177664;(try dsimp only);(try simp only [ll_]);omega) (tv (x_gc hK _) (tc (by show _≤70368744177664;(try dsimp only);(try simp only [ll_]);omega) ?_))))))))
 refine l2_ (L:=x_d8.l0 K r) (fun _ _ _=>rfl) (fun m q x=> ∃ i:Nat,x=i∧i+m=r.2.2.2.2.1.length∧q=((((encN r.1++encN r.2.1)++encN (r.2.2.1+1))++encN r.2.2.2.1)++encN (r.2.2.2.2.1.length:Int))++(r.2.2.2.2.1.take i).flatMap encE) (fun m q x L' hi kk=>?_) (m:=r.2.2.2.2.1.length) (by omega) ⟨0,rfl,by omega,by simp⟩
 obtain ⟨i,rfl,hm,rfl⟩:=hi
 have hl:=(x_rm (l:=r.2.2.2.2.1.take i) fun e he=>h3.cok e (List.mem_of_mem_take he)).2
 rw [length_take] at hl
 unfold x_d8.l0b
 rw [tz]
 refine ti (fun h1=>tc (by omega) (tc h1 ?_)) fun h1=>?_
 ·have hi:i<r.2.2.2.2.1.length:=by omega
  have e8:=(x_cd (r.2.2.2.2.1.getD i x_ay).1).2
  have e9:=(x_z1 (h3.1 i hi).2).2
  refine tv (x_gc hK _) (tc (by show _≤70368744177664;(try dsimp only);(try simp only [ll_]);omega) (tv (x_1d hK _ (h3.1 i hi).2) (tc (by show _≤70368744177664;(try dsimp only);(try simp only [ll_]);omega) ?_)))
  rw [w6 (by omega) (by omega)]
  refine kk (m-1) _ _ (by omega) ⟨i+1,by push_cast;rfl,by omega,?_⟩
  rw [←x_kz (z:=x_ay) hi]
  simp only [encE,List.append_assoc]
 ·rw [List.take_of_length_le (show r.2.2.2.2.1.length≤i by omega)] at *
  exact tv (x_kk hK _ (by omega)) (tc (by show _≤70368744177664;(try dsimp only);(try simp only [ll_]);omega) (tr rfl))
theorem t_SumOf {K:Nat} (hK:2097152≤K) (l:List Int) (h:l.length<200000) (hb:BOk l):Tot (x_ee K l) fun x=>0≤x.1∧x.1<4294967296:=by
 unfold x_ee x_ee.b
 refine l3_ (L:=x_ee.l0 K l) (fun _ _ _ _=>rfl) (fun m x y q=>(0≤x∧x<65521)∧(0≤y∧y<65521)∧ ∃ i:Nat,q=i∧i+m=l.length) (fun m x y q L' hi kk=>?_) (m:=l.length) (by omega) ⟨by omega,by omega,0,rfl,by omega⟩
 obtain ⟨hx,hy,i,rfl,hm⟩:=hi
 unfold x_ee.l0b
 rw [tz]
 refine ti (fun h1=>tc (by omega) (tc h1 ?_)) fun h1=>tr ?_
 ·have hi:i<l.length:=by omega
  have hd:=hb _ (x_ad (z:=(0:Int)) hi)
  rw [w6 (n:=l.getD i 0) (by omega) (by omega),w6 (n:=x+l.getD i 0) (by omega) (by omega)]
  have t1:=x_mb (x:=x+l.getD i 0) (n:=65521) (by omega) (by omega)
  rw [w6 (n:=y+Int.tmod (x+l.getD i 0) 65521) (by omega) (by omega),wi (i:=i) (by omega)]
  exact kk (m-1) _ _ _ (by omega) ⟨t1,x_mb (by omega) (by omega),i+1,by push_cast;rfl,by omega⟩
 ·show 0≤i6 (i6 (y*65536)+x)∧i6 (i6 (y*65536)+x)<4294967296
  rw [w6 (n:=y*65536) (by omega) (by omega),w6 (by omega) (by omega)]
  omega
theorem u8_in (x:Int):0≤IntKind.u8.wrap x∧IntKind.u8.wrap x≤255:=by
 simp only [IntKind.wrap,IntKind.bits,IntKind.signed]
 simp
 omega
theorem t_l9Sum {K:Nat} (hK:2097152≤K) (l:List Int) (h:l.length<200000) (hb:BOk l):Tot (x_os K l) fun x=>x.1.length=4∧BOk x.1:=by
 unfold x_os
 refine tb (t_SumOf hK l h hb) fun v hv=>tr ⟨rfl,fun x hx=>?_⟩
 simp only [mem_cons,List.not_mem_nil,or_false] at hx
 rcases hx with rfl | rfl | rfl | rfl<;>exact u8_in _
theorem x_hu {K:Nat} (hK:2097152≤K) (r:x_df) (h:EsSz r.2.2.2.2.1):Tot (x_eh K r) fun x=>(NtOk r→ ∃ s,s.length=4∧BOk s∧x.1=(encN ((x_cp r).length:Int)++x_cp r)++s)∧(¬ NtOk r→x.1=[])∧BOk x.1∧x.1.length≤34400:=by
 unfold x_eh
 refine tb (x_ol hK r h) fun v1 g1=>tg g1 (fun a=>tr ⟨fun k=>absurd k a,fun _=>rfl, .nil,by simp⟩) fun a=>?_
 have hb:=x_ho a
 have hl:=hb.2
 have hn:=x_cd ((x_cp r).length:Int)
 have hnl:=hn.2
 refine tv (x_za hK r a) (tv (x_gc hK _) (tc (by show _≤70368744177664;(try dsimp only);(try simp only [ll_]);omega) (tb (t_l9Sum hK _ (by show (x_cp r).length<_;omega) hb.1) fun v4 g4=>?_)))
 have h4:=g4.1
 refine tc (by show _≤70368744177664;(try dsimp only);(try simp only [ll_]);omega) (tr ⟨fun _=>⟨v4.1,g4.1,g4.2,rfl⟩,fun k=>absurd a k,(hn.1.app hb.1).app g4.2,?_⟩)
 show ((encN ((x_cp r).length:Int)++x_cp r)++v4.1).length≤34400
 simp only [length_append]
 omega
theorem t_Append (d:x_pu) (h:d.1.length<2097152) (b:List Int) (hb:b.length<2097152):Tot (x_rt d b) fun x=>(x.2.1=true∧DOk d∧x.1=(d.1++b,d.2)∧DOk x.1)∨(x.2.1=false∧x.1=d):=by
 unfold x_rt
 refine tv (x_mz d h) (tb (x_qi d) fun v2 g2=>tg g2 (fun _=>tr (.inr ⟨rfl,rfl⟩)) fun a=>?_)
 rw [w6 (by omega) (by omega)]
 refine ti (fun _=>tr (.inr ⟨rfl,rfl⟩)) fun h2=>tc (by show _≤70368744177664;(try dsimp only);(try simp only [ll_]);omega) (tr (.inl ⟨rfl,a,rfl,?_⟩))
 have:=a.1
 have:=a.2
 refine ⟨by show (d.1++b).length≤_;simp;omega,this.1,?_⟩
 show d.2≤(((d.1++b).length:Nat):Int)
 simp;omega
def LBd (l:TLog):Prop:=(-1000000≤l.1∧l.1≤1000000)∧l.2.2.length<2097152
def x_k8 (l:TLog) (i:Int):Int:=if i=l.1 then l.2.1 else if l.1<i∧i≤x_fb l∧i≤300∧0≤l.1 then (l.2.2.getD (i-l.1-1).toNat x_ay).1 else -1
theorem t_l8At (l:TLog) (h:LBd l) (i:Int):Tot (x_wz l i) fun x=>(l.1<i∧i≤x_fb l∧i≤300∧0≤l.1→x.1=i-l.1-1)∧(¬ (l.1<i∧i≤x_fb l∧i≤300∧0≤l.1)→x.1= -1):=by
 obtain ⟨h1,h2⟩:=h
 unfold x_wz x_fb
 refine ti (fun a=>tr ⟨fun k=>by omega,fun _=>rfl⟩) fun a=>ti (fun b=>tr ⟨fun k=>by omega,fun _=>rfl⟩) fun b=>ti (fun c=>tr ⟨fun k=>by omega,fun _=>rfl⟩) fun c=>?_
 rw [w6 (n:=i-l.1) (by omega) (by omega),w6 (n:=i-l.1-1) (by omega) (by omega)]
 exact ti (fun d=>tr ⟨fun k=>by omega,fun _=>rfl⟩) fun d=>tr ⟨fun _=>rfl,fun k=>absurd (show _∧_ by omega) k⟩
theorem x_hz (l:TLog) (h:LBd l) (i:Int):Tot (x_gq l i) fun x=>x.1=x_k8 l i:=by
 unfold x_gq x_k8
 refine ti (fun a=>tr (by rw [if_pos a])) fun a=>tb (t_l8At l h i) fun v g=>?_
 rw [if_neg a]
 by_cases k:l.1<i∧i≤x_fb l∧i≤300∧0≤l.1
 ·have e:=g.1 k
  have hl:x_fb l=l.1+(l.2.2.length:Int):=rfl
  rw [if_pos k]
  refine ti (fun b=>by omega) fun b=>t2_ (by omega) ((tr (by rw [e])))
 ·have e:=g.2 k
  rw [if_neg k]
  exact ti (fun b=>tr rfl) fun b=>by omega
def x_jr (d:Nat) (acc:List x_c6) (j:Nat) (e:x_c6):List x_c6:=if d+j<acc.length∧(acc.getD (d+j) x_ay).1=e.1 then acc else acc.take (d+j)++[e]
def putN (d:Nat) (l es:List x_c6):Nat→List x_c6
 | 0=>l
 | j+1=>x_jr d (putN d l es j) j (es.getD j x_ay)
def x_li (l:TLog) (prev:Int) (es:List x_c6):TLog:=(l.1,l.2.1,putN (prev-l.1).toNat l.2.2 es es.length)
theorem x_x3 {d:Nat} {l es:List x_c6} (hl:∀ x∈l,CSz x.2) (he:∀ x∈es,CSz x.2):∀ j,j≤es.length→(∀ x∈putN d l es j,CSz x.2)∧(putN d l es j).length≤l.length+j
 | 0,_=>⟨hl,Nat.le_refl _⟩
 | j+1,h=>by
  obtain ⟨h1,h2⟩:=x_x3 hl he j (by omega)
  unfold putN x_jr
  split
  ·exact ⟨h1,by omega⟩
  ·refine ⟨fun x hx=>?_,by simp only [length_append,length_take,length_singleton];omega⟩
   rcases mem_append.1 hx with hx | hx
   ·exact h1 x (List.mem_of_mem_take hx)
   ·rw [mem_singleton] at hx
    rw [hx];exact he _ (x_ad (by omega))
theorem LOk.bd {l:TLog} (h:LOk l):LBd l:=⟨by have:=h.1;omega,h.sz.1⟩
theorem LOk.last {l:TLog} (h:LOk l):l.1≤x_fb l∧x_fb l≤300:=by have:=h.2.2.1;unfold x_fb;omega
def x_pf (l:TLog) (prev term:Int) (es:List x_c6):Prop:=0≤term∧x_k8 l prev=term∧LOk (x_li l prev es)
theorem x_wm {l:TLog} {i:Int} (h:0≤x_k8 l i) (hb:l.1≤x_fb l):l.1≤i∧i≤x_fb l:=by
 unfold x_k8 at h
 split at h
 ·omega
 ·split at h
  ·omega
  ·omega
theorem x_t1 {K:Nat} (hK:2097152≤K) (l:TLog) (hz:LSz l) (prev term:Int) (es:List x_c6) (he:EsSz es) (h40:es.length≤40) :
  Tot (x_dy K l prev term es) fun x=>(LOk l→(x_pf l prev term es→x=(x_li l prev es,true,()))∧(¬ x_pf l prev term es→x=(l,false,())))∧(¬ LOk l→x=((0,0,[]),false,())):=by
 unfold x_dy x_dy.b
 refine tb (x_yx hK l hz) fun v1 g1=>tg g1 (fun a=>tr ⟨fun k=>absurd k a,fun _=>rfl⟩) fun a=>?_
 refine tb (x_q5 l hz.1) fun v2 h2=>?_
 have no:¬ x_pf l prev term es→Tot (some (v2.1,false,())) fun x=>(LOk l→(x_pf l prev term es→x=(x_li l prev es,true,()))∧(¬ x_pf l prev term es→x=(l,false,())))∧(¬ LOk l→x=((0,0,[]),false,())):=
  fun k=>tr ⟨fun _=>⟨fun k'=>absurd k' k,fun _=>by rw [h2]⟩,fun k'=>absurd a k'⟩
 refine ti (fun b=>no fun k=>by have:=k.1;omega) fun b=>?_
 refine tb (x_hz l a.bd prev) fun v3 h3=>tn (fun c=>no fun k=>c (by rw [h3];exact k.2.1)) fun c=>?_
 rw [h3] at c
 have hin:=x_wm (l:=l) (i:=prev) (by omega) a.last.1
 have hlast:=a.last
 have hl0:=a.2.2.1
 have hb0:=a.1
 have hd:i6 (prev-l.1)=prev-l.1:=w6 (by omega) (by omega)
 refine l3_ (L:=x_dy.l0 K l prev term es) (fun _ _ _ _=>rfl) (fun m x v q=>v.1=l∧ ∃ j:Nat,x=j∧j+m=es.length∧q=putN (prev-l.1).toNat l.2.2 es j) (fun m x v q L' hi kk=>?_) (m:=es.length) (by omega) ⟨h2,0,rfl,by omega,by rw [h2];rfl⟩
 obtain ⟨hv,j,rfl,hm,rfl⟩:=hi
 have hsz:=x_x3 (d:=(prev-l.1).toNat) hz.2 he.2 j (by omega)
 generalize hq:putN (prev-l.1).toNat l.2.2 es j=q at hsz
 unfold x_dy.l0b
 rw [hd,w6 (n:=prev-l.1+(j:Int)) (by omega) (by omega),wi (i:=j) (by omega),tz,show Int.toNat (prev-l.1+(j:Int))=(prev-l.1).toNat+j by omega]
 have hql:=hsz.2
 have next:∀ q',q'=putN (prev-l.1).toNat l.2.2 es (j+1)→j<es.length→Tot (L' ((j:Int)+1) v q') fun x=>(LOk l→(x_pf l prev term es→x=(x_li l prev es,true,()))∧(¬ x_pf l prev term es→x=(l,false,())))∧(¬ LOk l→x=((0,0,[]),false,())):=
  fun q' hq' hj=>kk (m-1) _ _ _ (by omega) ⟨hv,j+1,by push_cast;rfl,by omega,hq'⟩
 refine ti (fun h4=>?_) fun h4=>?_
 ·have hj:j<es.length:=by omega
  refine ti (fun h5=>tc (by omega) (tc h5 (tc (by omega) (tc h4 (ti (fun h6=>next q ?_ hj) fun h6=>?_))))) fun h5=>tc (by omega) (tc h4 (tc (by show _≤70368744177664;(try dsimp only);(try simp only [ll_]);omega) (next _ ?_ hj)))
  ·unfold putN x_jr
   rw [hq,if_pos ⟨by omega,h6⟩]
  ·refine tc rfl (t2_ (by omega) ((tc (by show _≤70368744177664;(try dsimp only);(try simp only [ll_]);omega) (tc (by omega) (tc h4 (tc (by show _≤70368744177664;(try dsimp only);(try simp only [ll_]);omega) (next _ ?_ hj)))))))
   unfold putN x_jr
   rw [hq,if_neg (fun k=>h6 k.2)]
   simp
  ·unfold putN x_jr
   rw [hq,if_neg (fun k=>by omega),List.take_of_length_le (by omega)]
 ·have hj:j=es.length:=by omega
  have hlp:(v.1.1,v.1.2.1,q)=x_li l prev es:=by rw [hv, ←hq,hj];rfl
  refine tb (x_yx hK (v.1.1,v.1.2.1,q) ⟨by show q.length<_;have:=hz.1;omega,hsz.1⟩) fun v4 g4=>tg g4 (fun k=>?_) fun k=>tr ⟨fun _=>⟨fun _=>by rw [←hlp],fun k'=>absurd ⟨by omega,c,by rw [←hlp];exact k⟩ k'⟩,fun k'=>absurd a k'⟩
  refine tv (x_q5 l hz.1) (tr ⟨fun _=>⟨fun k'=>absurd (by rw [hlp];exact k'.2.2) k,fun _=>rfl⟩,fun k'=>absurd a k'⟩)
noncomputable def x_hd (l:TLog) (i:Int):TLog:=if l.1<i∧i≤x_fb l∧i≤300∧0≤l.1 then (i,(l.2.2.getD (i-l.1-1).toNat x_ay).1,l.2.2.drop (i-l.1).toNat) else l
theorem x_re (l:TLog) (h:LBd l) (i:Int):Tot (x_o4 l i) fun x=>x.1=x_hd l i:=by
 have hl:x_fb l=l.1+(l.2.2.length:Int):=rfl
 have h2:=h.2
 unfold x_o4 x_hd
 refine tv (x_q5 l h.2) (tb (t_l8At l h i) fun v g=>?_)
 by_cases k:l.1<i∧i≤x_fb l∧i≤300∧0≤l.1
 ·have e:=g.1 k
  rw [if_pos k,w6 (n:=v.1+1) (by omega) (by omega)]
  refine ti (fun b=>by omega) fun b=>t2_ (by omega) ((tc rfl (t2_ (by omega) ((tc (by omega) (tc (by show _≤70368744177664;(try dsimp only);(try simp only [ll_]);omega) (tr ?_)))))))
  rw [tz,List.take_length,List.nil_append,e,show i-l.1-1+1=i-l.1 by omega]
 ·have e:=g.2 k
  rw [if_neg k]
  exact ti (fun b=>tr rfl) fun b=>by omega
theorem x_m4 {l:TLog} (h:LOk l) (i:Int):LOk (x_hd l i)∧x_fb (x_hd l i)=x_fb l∧x_tj (x_hd l i)=x_tj l:=by
 unfold x_hd
 split
 ·rename_i k
  obtain ⟨h1,h2,h3,h4⟩:=h
  have hl:x_fb l=l.1+(l.2.2.length:Int):=rfl
  have hlen:(l.2.2.drop (i-l.1).toNat).length=l.2.2.length-(i-l.1).toNat:=length_drop
  have lt:∀ j,x_ir (i,(l.2.2.getD (i-l.1-1).toNat x_ay).1,l.2.2.drop (i-l.1).toNat) j=x_ir l ((i-l.1).toNat+j):=fun j=>by
   unfold x_ir
   by_cases hj:j=0
   ·subst hj
    rw [if_pos rfl,if_neg (by omega)]
    show (l.2.2.getD (i-l.1-1).toNat x_ay).1=_
    rw [show (i-l.1).toNat+0-1=(i-l.1-1).toNat by omega]
   ·rw [if_neg hj,if_neg (by omega)]
    show ((l.2.2.drop (i-l.1).toNat).getD (j-1) x_ay).1=_
    rw [x_m2,show (i-l.1).toNat+(j-1)=(i-l.1).toNat+j-1 by omega]
  refine ⟨⟨⟨by show 0≤i;omega,k.2.2.1⟩,?_,?_,fun j hj=>?_⟩,?_,?_⟩
  ·have hb:(i-l.1-1).toNat<l.2.2.length:=by omega
   have a1:=(h4 _ hb).1
   have a2:∀ n,n≤l.2.2.length→0≤x_ir l n:=fun n hn=>by
    induction n with
    | zero=>exact h2.1
    | succ n ih=>
     have:=(h4 n (by omega)).1.1
     have:=ih (by omega)
     unfold x_ir
     rw [if_neg (by omega),Nat.add_sub_cancel]
     omega
   have:=a2 _ (Nat.le_of_lt hb)
   show 0≤(l.2.2.getD (i-l.1-1).toNat x_ay).1∧(l.2.2.getD (i-l.1-1).toNat x_ay).1≤300
   omega
  ·show (((l.2.2.drop (i-l.1).toNat).length:Nat):Int)≤300-i
   rw [hlen];omega
  ·have hj:j<(l.2.2.drop (i-l.1).toNat).length:=hj
   rw [hlen] at hj
   have:=h4 ((i-l.1).toNat+j) (by omega)
   unfold EOk at this ⊢
   rw [lt]
   show (_≤((l.2.2.drop (i-l.1).toNat).getD j x_ay).1∧((l.2.2.drop (i-l.1).toNat).getD j x_ay).1≤300)∧COk ((l.2.2.drop (i-l.1).toNat).getD j x_ay).2
   rw [x_m2]
   exact this
  ·show i+(((l.2.2.drop (i-l.1).toNat).length:Nat):Int)=x_fb l
   rw [hlen];omega
  ·unfold x_tj
   rw [lt]
   show x_ir l ((i-l.1).toNat+(l.2.2.drop (i-l.1).toNat).length)=_
   rw [hlen,show (i-l.1).toNat+(l.2.2.length-(i-l.1).toNat)=l.2.2.length by omega]
 ·exact ⟨h,rfl,rfl⟩
abbrev x_dt:=x_h
theorem bad {P:Prop} (h:false=true):P:=absurd h (by decide)
theorem bad' {P:Prop} (h:true=false):P:=absurd h (by decide)
theorem or_in {a b:Int} (ha:0≤a∧a<34359738368) (hb:0≤b∧b<34359738368):0≤i6 ((BitVec.ofInt (IntKind.bits .i64) a ||| BitVec.ofInt (IntKind.bits .i64) b).toNat:Int)∧i6 ((BitVec.ofInt (IntKind.bits .i64) a ||| BitVec.ofInt (IntKind.bits .i64) b).toNat:Int)<34359738368:=by
 have t:∀ x:Int,0≤x∧x<34359738368→(BitVec.ofInt (IntKind.bits .i64) x).toNat=x.toNat:=fun x hx=>by
  show (BitVec.ofInt 64 x).toNat=_
  rw [BitVec.toNat_ofInt]
  congr 1
  rw [Int.emod_eq_of_lt hx.1]
  show x<((2 ^ 64:Nat):Int)
  omega
 have h:(BitVec.ofInt (IntKind.bits .i64) a ||| BitVec.ofInt (IntKind.bits .i64) b).toNat<2 ^ 35:=by
  rw [BitVec.toNat_or,t a ha,t b hb]
  exact Nat.or_lt_two_pow (by omega) (by omega)
 rw [w6 (by omega) (by omega)]
 omega
theorem x_tt {K:Nat} (hK:2097152≤K) (b:List Int) (hb:BOk b) (hl:b.length≤2000000) (at_:Int) (ha:at_≤4000000):Tot (x_cn K b at_) fun r=>(r.2.2.1=true→(0≤r.1∧r.1≤2147483647)∧0≤at_∧at_<r.2.1∧r.2.1≤(b.length:Int))∧(r.2.2.1=false→r=(0,0,false,())):=by
 have no:Tot (some ((0:Int),(0:Int),false,())) fun r=>(r.2.2.1=true→(0≤r.1∧r.1≤2147483647)∧0≤at_∧at_<r.2.1∧r.2.1≤(b.length:Int))∧(r.2.2.1=false→r=(0,0,false,())):=tr ⟨fun h=>bad h,fun _=>rfl⟩
 unfold x_cn x_cn.b
 refine l2_ (L:=x_cn.l0 K b at_) (fun _ _ _=>rfl) (fun m n q=>(0≤n∧n<34359738368)∧ ∃ i:Nat,q=i∧i+m=5) (fun m n q L' hi kk=>?_) (m:=5) (by omega) ⟨by omega,0,rfl,by omega⟩
 obtain ⟨hn,i,rfl,hm⟩:=hi
 unfold x_cn.l0b
 refine ti (fun h1=>?_) fun h1=>no
 refine ti (fun h2=>no) fun h2=>?_
 rw [w6 (n:=((b.length:Nat):Int)-(i:Int)) (by omega) (by omega)]
 refine ti (fun h3=>no) fun h3=>?_
 rw [w6 (n:=at_+(i:Int)) (by omega) (by omega),w6 (n:=at_+(i:Int)+1) (by omega) (by omega),wi (i:=i) (by omega),w6 (n:=7*(i:Int)) (by omega) (by omega)]
 refine t2_ (by omega) ((tc (by omega) ?_))
 have hd:=hb _ (x_ad (z:=(0:Int)) (show (at_+(i:Int)).toNat<b.length by omega))
 rw [w6 (n:=b.getD (at_+(i:Int)).toNat 0) (by omega) (by omega)]
 generalize b.getD (at_+(i:Int)).toNat 0=d at hd
 have hmod:=x_mb (x:=d) (n:=128) (by omega) (by omega)
 have hp:0≤Int.tmod d 128*2 ^ (min (7*(i:Int)).toNat 64)∧Int.tmod d 128*2 ^ (min (7*(i:Int)).toNat 64)<34359738368:=by
  have:i=0∨i=1∨i=2∨i=3∨i=4:=by omega
  rcases this with rfl | rfl | rfl | rfl | rfl
  ·show 0≤Int.tmod d 128*1∧Int.tmod d 128*1<_;omega
  ·show 0≤Int.tmod d 128*128∧Int.tmod d 128*128<_;omega
  ·show 0≤Int.tmod d 128*16384∧Int.tmod d 128*16384<_;omega
  ·show 0≤Int.tmod d 128*2097152∧Int.tmod d 128*2097152<_;omega
  ·show 0≤Int.tmod d 128*268435456∧Int.tmod d 128*268435456<_;omega
 rw [w6 (n:=Int.tmod d 128*2 ^ (min (7*(i:Int)).toNat 64)) (by omega) (by omega)]
 have ho:=or_in hn hp
 generalize i6 ((BitVec.ofInt (IntKind.bits .i64) n ||| BitVec.ofInt (IntKind.bits .i64) (Int.tmod d 128*2 ^ (min (7*(i:Int)).toNat 64))).toNat:Int)=n' at ho
 have yes:n'≤2147483647→Tot (some (n',at_+(i:Int)+1,true,())) fun r=>(r.2.2.1=true→(0≤r.1∧r.1≤2147483647)∧0≤at_∧at_<r.2.1∧r.2.1≤(b.length:Int))∧(r.2.2.1=false→r=(0,0,false,())):=
  fun h=>tr ⟨fun _=>⟨⟨ho.1,h⟩,by omega,by show at_<at_+(i:Int)+1;omega,by show at_+(i:Int)+1≤_;omega⟩,fun h=>bad' h⟩
 refine ti (fun h4=>ti (fun h5=>ti (fun _=>no) fun _=>ti (fun _=>no) fun h6=>yes (by omega)) fun _=>ti (fun _=>no) fun h6=>yes (by omega)) fun h4=>kk (m-1) _ _ (by omega) ⟨ho,i+1,by push_cast;rfl,by omega⟩
def C7 (b:List Int) (c:x_dt):Prop:=c.1=b∧0≤c.2.1∧c.2.1≤(b.length:Int)
def Adv (c c':x_dt):Prop:=c.2.1≤c'.2.1∧(c'.2.2=true→c.2.2=true∧c.2.1+1≤c'.2.1)
theorem Adv.trans {a b c:x_dt} (h:Adv a b) (k:Adv b c):Adv a c:=⟨Int.le_trans h.1 k.1,fun hc=>by
 have h1:=k.2 hc
 have h2:=h.2 h1.1
 exact ⟨h2.1,by omega⟩⟩
def BSt (b:List Int):Prop:=BOk b∧b.length≤2000000
theorem x_cm {K:Nat} (hK:2097152≤K) {b:List Int} (hb:BSt b) (c:x_dt) (hc:C7 b c):Tot (x_b6 K c) fun r=>(0≤r.1∧r.1≤2147483647)∧C7 b r.2.1∧Adv c r.2.1:=by
 obtain ⟨rfl,h0,h1⟩:=hc
 have hl:=hb.2
 have z:0≤(0:Int)∧(0:Int)≤2147483647:=by decide
 unfold x_b6
 refine tb (x_tt hK _ hb.1 hb.2 _ (by omega)) fun v hv=>tN (fun a=>tr ⟨z,⟨rfl,h0,h1⟩,Int.le_refl _,fun h=>bad h⟩) fun a=>tN (fun a2=>tr ⟨z,⟨rfl,h0,h1⟩,Int.le_refl _,fun h=>bad h⟩) fun a2=>?_
 obtain ⟨a3,a4,a5,a6⟩:=hv.1 a
 exact tr ⟨a3,⟨rfl,by show 0≤v.2.1;omega,a6⟩,by show c.2.1≤v.2.1;omega,fun _=>⟨a2,by show c.2.1+1≤v.2.1;omega⟩⟩
theorem t_GetText {K:Nat} (hK:2097152≤K) (b:List Int) (hb:BSt b) (at_:Int) (ha:at_≤4000000):Tot (x_jh K b at_) fun r=>(r.2.2.1=true→0≤at_∧at_<r.2.1∧r.2.1≤(b.length:Int))∧r.1.size≤b.length:=by
 have e0:ByteArray.empty.size≤b.length:=Nat.zero_le _
 have hl:=hb.2
 unfold x_jh
 refine tb (x_tt hK _ hb.1 hb.2 _ ha) fun v hv=>tN (fun a=>tr ⟨fun h=>bad h,e0⟩) fun a=>?_
 obtain ⟨a3,a4,a5,a6⟩:=hv.1 a
 rw [w6 (n:=((b.length:Nat):Int)-v.2.1) (by omega) (by omega),w6 (n:=v.2.1+v.1) (by omega) (by omega)]
 refine ti (fun _=>tr ⟨fun h=>bad h,e0⟩) fun h=>tc rfl (t2_ (by omega) ((tc (by omega) (tr ⟨fun _=>⟨a4,by show at_<v.2.1+v.1;omega,by show v.2.1+v.1≤_;omega⟩,?_⟩))))
 show (x_jo _).size≤_
 rw [←x_m8,x_kj,length_map,length_drop,length_take]
 omega
theorem x_j5 {K:Nat} (hK:2097152≤K) {b:List Int} (hb:BSt b) (c:x_dt) (hc:C7 b c):Tot (x_fr K c) fun r=>r.1.size<2097152∧C7 b r.2.1∧Adv c r.2.1:=by
 obtain ⟨rfl,h0,h1⟩:=hc
 have hl:=hb.2
 have z:ByteArray.empty.size<2097152:=by decide
 unfold x_fr
 refine tb (t_GetText hK _ hb _ (by omega)) fun v hv=>tN (fun a=>tr ⟨z,⟨rfl,h0,h1⟩,Int.le_refl _,fun h=>bad h⟩) fun a=>tN (fun a2=>tr ⟨z,⟨rfl,h0,h1⟩,Int.le_refl _,fun h=>bad h⟩) fun a2=>?_
 obtain ⟨a4,a5,a6⟩:=hv.1 a
 have:=hv.2
 exact tr ⟨by show v.1.size<_;omega,⟨rfl,by show 0≤v.2.1;omega,a6⟩,by show c.2.1≤v.2.1;omega,fun _=>⟨a2,by show c.2.1+1≤v.2.1;omega⟩⟩
def left (b:List Int) (c:x_dt):Nat:=if c.2.2=true then (b.length:Int).toNat-c.2.1.toNat+1 else 0
theorem x_ng {b:List Int} {c c':x_dt} (hc:C7 b c) (hc':C7 b c') (h:Adv c c') (hok:c.2.2=true):left b c'<left b c:=by
 unfold left
 rw [if_pos hok]
 split
 ·have:=(h.2 (by assumption)).2
  have:=hc.2.1
  have:=hc'.2.2
  omega
 ·omega
theorem x_o0 {b:List Int} {c:x_dt}:left b c≤b.length+1:=by unfold left;split<;>omega
theorem t_l7Row {K:Nat} (hK:2097152≤K) {b:List Int} (hb:BSt b) (c:x_dt) (hc:C7 b c):Tot (x_d0 K c) fun r=>RSz r.1∧C7 b r.2.1∧Adv c r.2.1:=by
 have hl:=hb.2
 unfold x_d0 x_d0.b
 refine tb (x_cm hK hb c hc) fun v1 h1=>tb (x_cm hK hb _ h1.2.1) fun v2 h2=>tb (x_cm hK hb _ h2.2.1) fun v3 h3=>?_
 have ad:=(h1.2.2.trans h2.2.2).trans h3.2.2
 have lf:=x_o0 (b:=b) (c:=v3.2.1)
 refine l1_ (L:=fun n (q:(Int×x_dt×Unit)×Int×(Int×x_dt×Unit)×(Int×x_dt×Unit)×(Int×x_dt×Unit)×List x_l9)=>x_d0.l0 K c n q.1 q.2.1 q.2.2.1 q.2.2.2.1 q.2.2.2.2.1 q.2.2.2.2.2)
  (b:=fun L' q=>x_d0.l0b K c (fun a b c d e f=>L' (a,b,c,d,e,f)) q.1 q.2.1 q.2.2.1 q.2.2.2.1 q.2.2.2.2.1 q.2.2.2.2.2) (fun _ _=>rfl)
  (fun m q=>q.1.1≤2147483647∧(0≤q.2.1∧q.2.1≤2147483647)∧C7 b q.2.2.1.2.1∧Adv c q.2.2.1.2.1∧left b q.2.2.1.2.1=m∧q.2.2.2.2.2.length+m≤b.length+1∧ ∀ x∈q.2.2.2.2.2,ISz x) (fun m q L' hi kk=>?_) (x:=(v3,0,v3,v1,v2,[])) (m:=left b v3.2.1) (by omega) ⟨h3.1.2,by show (0:Int)≤0∧(0:Int)≤2147483647;decide,h3.2.1,ad,rfl,by show 0+_≤_;omega,fun x hx=>by simp at hx⟩
 obtain ⟨w,j,u,x1,x2,its⟩:=q
 obtain ⟨hw,hj,hu,hau,hm,hlen,hits⟩:=hi
 simp only at hw hj hu hau hm hlen hits
 unfold x_d0.l0b
 simp only
 have fin:Tot (some ((x1.1,x2.1,its),u.2.1,())) fun r=>RSz r.1∧C7 b r.2.1∧Adv c r.2.1:=tr ⟨⟨by show its.length<_;omega,hits⟩,hu,hau⟩
 refine ti (fun a1=>tB (fun a2=>?_) fun _=>fin) fun _=>fin
 rw [w6 (n:=j+1) (by omega) (by omega)]
 refine tb (x_cm hK hb _ hu) fun v4 g4=>tb (x_j5 hK hb _ g4.2.1) fun v5 g5=>tb (x_j5 hK hb _ g5.2.1) fun v6 g6=>tb (x_cm hK hb _ g6.2.1) fun v7 g7=>tb (x_cm hK hb _ g7.2.1) fun v8 g8=>tc (by show _≤70368744177664;(try dsimp only);(try simp only [ll_]);omega) ?_
 have ad2:=(((g4.2.2.trans g5.2.2).trans g6.2.2).trans g7.2.2).trans g8.2.2
 have lt:=x_ng hu g8.2.1 ad2 a2
 have a1:j<w.1:=a1
 refine kk (left b v8.2.1) (w,j+1,v8,x1,x2,its++[(v4.1,v5.1,v6.1,v7.1,v8.1)]) (by omega) ⟨hw,⟨by show 0≤j+1;omega,by show j+1≤_;omega⟩,g8.2.1,hau.trans ad2,rfl,by show (its++[_]).length+_≤_;simp;omega,fun x hx=>?_⟩
 have hx:x∈its++[(v4.1,v5.1,v6.1,v7.1,v8.1)]:=hx
 rw [mem_append,mem_singleton] at hx
 rcases hx with hx | rfl
 ·exact hits x hx
 ·exact ⟨g5.1,g6.1⟩
theorem t_l7Maker {K:Nat} (hK:2097152≤K) {b:List Int} (hb:BSt b) (c:x_dt) (hc:C7 b c):Tot (x_bu K c) fun r=>MkS r.1∧C7 b r.2.1∧Adv c r.2.1:=by
 have hl:=hb.2
 unfold x_bu x_bu.b
 refine tb (x_cm hK hb c hc) fun v1 h1=>tb (x_cm hK hb _ h1.2.1) fun v2 h2=>tb (x_cm hK hb _ h2.2.1) fun v3 h3=>tb (x_cm hK hb _ h3.2.1) fun v4 h4=>tb (x_cm hK hb _ h4.2.1) fun v5 h5=>?_
 have ad:=(((h1.2.2.trans h2.2.2).trans h3.2.2).trans h4.2.2).trans h5.2.2
 have lf:=x_o0 (b:=b) (c:=v5.2.1)
 refine l1_ (L:=fun n (q:(Int×x_dt×Unit)×Int×(Int×x_dt×Unit)×(Int×x_dt×Unit)×(Int×x_dt×Unit)×(Int×x_dt×Unit)×(Int×x_dt×Unit)×List x_q3)=>x_bu.l0 K c n q.1 q.2.1 q.2.2.1 q.2.2.2.1 q.2.2.2.2.1 q.2.2.2.2.2.1 q.2.2.2.2.2.2.1 q.2.2.2.2.2.2.2)
  (b:=fun L' q=>x_bu.l0b K c (fun a b c d e f g h=>L' (a,b,c,d,e,f,g,h)) q.1 q.2.1 q.2.2.1 q.2.2.2.1 q.2.2.2.2.1 q.2.2.2.2.2.1 q.2.2.2.2.2.2.1 q.2.2.2.2.2.2.2) (fun _ _=>rfl)
  (fun m q=>q.1.1≤2147483647∧(0≤q.2.1∧q.2.1≤2147483647)∧C7 b q.2.2.1.2.1∧Adv c q.2.2.1.2.1∧left b q.2.2.1.2.1=m∧q.2.2.2.2.2.2.2.length+m≤b.length+1∧ ∀ x∈q.2.2.2.2.2.2.2,0≤x.1) (fun m q L' hi kk=>?_) (x:=(v5,0,v5,v1,v2,v3,v4,[])) (m:=left b v5.2.1) (by omega) ⟨h5.1.2,by show (0:Int)≤0∧(0:Int)≤2147483647;decide,h5.2.1,ad,rfl,by show 0+_≤_;omega,fun x hx=>by simp at hx⟩
 obtain ⟨w,j,u,x1,x2,x3,x4,its⟩:=q
 obtain ⟨hw,hj,hu,hau,hm,hlen,hsq⟩:=hi
 simp only at hw hj hu hau hm hlen hsq
 unfold x_bu.l0b
 simp only
 have fin:Tot (some ((x1.1,x2.1,x3.1,i6 (x4.1-1),its),u.2.1,())) fun r=>MkS r.1∧C7 b r.2.1∧Adv c r.2.1:=tr ⟨⟨by show its.length<_;omega,hsq⟩,hu,hau⟩
 refine ti (fun a1=>tB (fun a2=>?_) fun _=>fin) fun _=>fin
 rw [w6 (n:=j+1) (by omega) (by omega)]
 refine tb (x_cm hK hb _ hu) fun v6 g6=>tb (x_cm hK hb _ g6.2.1) fun v7 g7=>tc (by show _≤70368744177664;(try dsimp only);(try simp only [ll_]);omega) ?_
 have ad2:=g6.2.2.trans g7.2.2
 have lt:=x_ng hu g7.2.1 ad2 a2
 have a1:j<w.1:=a1
 exact kk (left b v7.2.1) (w,j+1,v7,x1,x2,x3,x4,its++[(v6.1,v7.1)]) (by omega) ⟨hw,⟨by show 0≤j+1;omega,by show j+1≤_;omega⟩,g7.2.1,hau.trans ad2,rfl,by show (its++[_]).length+_≤_;simp;omega,fun x hx=>by
  have hx:x∈its++[_]:=hx
  rw [mem_append,mem_singleton] at hx
  rcases hx with hx | rfl
  ·exact hsq x hx
  ·exact g6.1.1⟩
theorem t_l7Group {K:Nat} (hK:2097152≤K) {b:List Int} (hb:BSt b) (c:x_dt) (hc:C7 b c) (rows:Int) (hr:0≤rows∧rows≤4):Tot (x_ab K c rows) fun r=>GSz r.1∧C7 b r.2.1∧Adv c r.2.1:=by
 have hl:=hb.2
 unfold x_ab x_ab.b
 refine tb (x_cm hK hb c hc) fun v1 h1=>tb (x_cm hK hb _ h1.2.1) fun v2 h2=>?_
 have ad:=h1.2.2.trans h2.2.2
 have lf:=x_o0 (b:=b) (c:=v2.2.1)
 have offs:∀ (L1:Nat→Int→(Int×x_dt×Unit)→(Int×x_dt×Unit)→(List Int)→(List Int)→(List Int)→Option (x_ar×x_dt×Unit)),L1=x_ab.l1 K c rows→ ∀ (u x1:Int×x_dt×Unit) (ms bs:List Int),C7 b u.2.1→Adv c u.2.1→ms.length<2097152→bs.length<2097152→Tot (x_ab.j0 K (L1 K) u x1 ms bs) fun r=>GSz r.1∧C7 b r.2.1∧Adv c r.2.1:=by
  intro L1 e u x1 ms bs hu hau hms hbs
  subst e
  unfold x_ab.j0
  refine l1_ (L:=fun n (q:Int×(Int×x_dt×Unit)×List Int)=>x_ab.l1 K c rows n q.1 q.2.1 x1 ms bs q.2.2) (b:=fun L' q=>x_ab.l1b K c rows (fun a b _ _ _ f=>L' (a,b,f)) q.1 q.2.1 x1 ms bs q.2.2)
   (fun _ _=>rfl) (fun m q=> ∃ i:Nat,q.1=i∧i+m=rows.toNat∧C7 b q.2.1.2.1∧Adv c q.2.1.2.1∧q.2.2.length=i) (fun m q L' hi kk=>?_) (x:=(0,u,[])) (m:=rows.toNat) (by omega) ⟨0,rfl,by omega,hu,hau,rfl⟩
  obtain ⟨j,v,os⟩:=q
  obtain ⟨i,hj,hm,hv,hav,hlen⟩:=hi
  simp only at hj hv hav hlen
  subst hj
  unfold x_ab.l1b
  simp only
  refine ti (fun a1=>?_) fun a1=>tr ⟨⟨hms,hbs,by show os.length<_;omega⟩,hv,hav⟩
  rw [w6 (by omega) (by omega)]
  refine tb (x_cm hK hb _ hv) fun v5 g5=>tc (by show _≤70368744177664;(try dsimp only);(try simp only [ll_]);omega) (kk (m-1) ((i:Int)+1,v5,os++[v5.1]) (by omega) ⟨i+1,by push_cast;rfl,by omega,g5.2.1,?_,by show (os++[_]).length=_;simp;omega⟩)
  exact hav.trans g5.2.2
 refine l1_ (L:=fun n (q:(Int×x_dt×Unit)×Int×(Int×x_dt×Unit)×(Int×x_dt×Unit)×List Int×List Int)=>x_ab.l0 K c rows n q.1 q.2.1 q.2.2.1 q.2.2.2.1 q.2.2.2.2.1 q.2.2.2.2.2)
  (b:=fun L' q=>x_ab.l0b K c rows (fun a b c d e f=>L' (a,b,c,d,e,f)) (x_ab.l1 K c rows K) q.1 q.2.1 q.2.2.1 q.2.2.2.1 q.2.2.2.2.1 q.2.2.2.2.2) (fun _ _=>rfl)
  (fun m q=>q.1.1≤2147483647∧(0≤q.2.1∧q.2.1≤2147483647)∧C7 b q.2.2.1.2.1∧Adv c q.2.2.1.2.1∧left b q.2.2.1.2.1=m∧q.2.2.2.2.1.length+m≤b.length+1∧q.2.2.2.2.2.length+m≤b.length+1) (fun m q L' hi kk=>?_) (x:=(v2,0,v2,v1,[],[])) (m:=left b v2.2.1) (by omega) ⟨h2.1.2,by show (0:Int)≤0∧(0:Int)≤2147483647;decide,h2.2.1,ad,rfl,by show 0+_≤_;omega,by show 0+_≤_;omega⟩
 obtain ⟨w,j,u,x1,ms,bs⟩:=q
 obtain ⟨hw,hj,hu,hau,hm,hlen,hlen2⟩:=hi
 simp only at hw hj hu hau hm hlen hlen2
 unfold x_ab.l0b
 simp only
 have fin:=offs _ rfl u x1 ms bs hu hau (by omega) (by omega)
 refine ti (fun a1=>tB (fun a2=>?_) fun _=>fin) fun _=>fin
 rw [w6 (n:=j+1) (by omega) (by omega)]
 refine tb (x_cm hK hb _ hu) fun v3 g3=>tb (x_cm hK hb _ g3.2.1) fun v4 g4=>tc (by show _≤70368744177664;(try dsimp only);(try simp only [ll_]);omega) (tc (by show _≤70368744177664;(try dsimp only);(try simp only [ll_]);omega) ?_)
 have ad2:=g3.2.2.trans g4.2.2
 have lt:=x_ng hu g4.2.1 ad2 a2
 have a1:j<w.1:=a1
 exact kk (left b v4.2.1) (w,j+1,v4,x1,ms++[v3.1],bs++[v4.1]) (by omega) ⟨hw,⟨by show 0≤j+1;omega,by show j+1≤_;omega⟩,g4.2.1,hau.trans ad2,rfl,by show (ms++[_]).length+_≤_;simp;omega,by show (bs++[_]).length+_≤_;simp;omega⟩
end Go.Proofs.YtjfnlbdnfglmfaaGreat.Cu
