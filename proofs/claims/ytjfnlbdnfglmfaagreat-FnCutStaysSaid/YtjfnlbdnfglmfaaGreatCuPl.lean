/- Plain facts of what the functions compute. -/
import Derived.Test.YtjfnlbdnfglmfaaGreatCuPl1
set_option linter.all false
set_option maxRecDepth 100000
namespace Go.Proofs.YtjfnlbdnfglmfaaGreat.Cu
open Go Go.Kn
open List (length_append length_cons length_nil length_take length_drop length_singleton length_set length_replicate length_map mem_append mem_singleton mem_cons)
theorem Tot.all1 {B β : Type} {L:Nat→Int→B→Option β} {b:(Int→B→Option β)→Int→B→Option β} (hL:∀ n x y,L (n+1) x y=b (L n) x y) (c:B) (N:Nat) (P:Nat→Prop) {R : β→Prop}
  (step:∀ (i:Nat) (L':Int→B→Option β),i<N→(P i→Tot (L' ((i:Int)+1) c) R)→(∀ j,j<i→P j)→Tot (b L' (i:Int) c) R)
  (fin:∀ L',(∀ i,i<N→P i)→Tot (b L' (N:Int) c) R) {n:Nat} (hn:N<n):Tot (L n 0 c) R:=by
 refine l2_ (L:=L) (b:=b) hL (fun m q y=>y=c∧ ∃ i:Nat,q=i∧i+m=N∧ ∀ j,j<i→P j) (fun m x y L' hi k=>?_) hn ⟨rfl,0,rfl,by omega,fun j h=>by omega⟩
 obtain ⟨rfl,i,rfl,hm,ha⟩:=hi
 rcases Nat.lt_or_ge i N with h | h
 ·refine step i L' h (fun hp=>k (m-1) _ _ (by omega) ⟨rfl,i+1,by push_cast;rfl,by omega,fun j hj=>?_⟩) ha
  rcases Nat.lt_or_ge j i with h | h
  ·exact ha j h
  ·obtain rfl:j=i:=by omega
   exact hp
 ·obtain rfl:i=N:=by omega
  exact fin L' ha
theorem Tot.all2 {B C β : Type} {L:Nat→Int→B→C→Option β} {b:(Int→B→C→Option β)→Int→B→C→Option β} (hL:∀ n x y z,L (n+1) x y z=b (L n) x y z) (c:B) (d:C) (N:Nat) (P:Nat→Prop) {R : β→Prop}
  (step:∀ (i:Nat) (L':Int→B→C→Option β),i<N→(P i→Tot (L' ((i:Int)+1) c d) R)→(∀ j,j<i→P j)→Tot (b L' (i:Int) c d) R)
  (fin:∀ L',(∀ i,i<N→P i)→Tot (b L' (N:Int) c d) R) {n:Nat} (hn:N<n):Tot (L n 0 c d) R:=
 Tot.all1 (L:=fun n x (y:B×C)=>L n x y.1 y.2) (b:=fun L' x y=>b (fun x y z=>L' x (y,z)) x y.1 y.2) (fun n x y=>hL n x y.1 y.2) (c,d) N P
  (fun i L' hi k ha=>step i (fun x y z=>L' x (y,z)) hi k ha) (fun L' ha=>fin (fun x y z=>L' x (y,z)) ha) hn
def Srch (r:Int) (p:Prop):Prop:=(0≤r→ ¬ p)∧(r<0→p)
theorem Srch.is {r:Int} {p:Prop} (h:Srch r p):Is (!decide (r≥0)) p:=by
 by_cases hr:0≤r
 ·simp [Is,hr,h.1 hr]
 ·simp [Is,hr,h.2 (by omega)]
theorem Is.not {b:Bool} {p:Prop} (h:Is (!b) p):Is b (¬ p):=by
 cases b
 ·exact ⟨fun h=>absurd h (by decide),fun k=>absurd (h.1 rfl) k⟩
 ·exact ⟨fun _ hp=>absurd (h.2 hp) (by decide),fun _=>rfl⟩
theorem Is.neg {b:Bool} {p:Prop} (h:Is b p):Is (!b) (¬ p):=by
 cases b
 ·exact ⟨fun _ hp=>absurd (h.2 hp) (by decide),fun _=>rfl⟩
 ·exact ⟨fun h=>absurd h (by decide),fun k=>absurd (h.1 rfl) k⟩
theorem x_9 (x a b:Int):Tot (x_aa x a b) fun r=>Is r.1 (a≤x∧x≤b):=by
 unfold x_aa
 refine ti (fun h=>tr ⟨fun h1=>⟨h,by simpa using h1⟩,fun h1=>by simpa using h1.2⟩) fun h=>tr (x_a fun h1=>h h1.1)
theorem x_is (s:x_d):Tot (x_g4 s) fun r=>Is r.1 (SOk s):=by
 unfold x_g4
 refine tb (x_9 _ _ _) fun v1 h1=>tf h1 (fun a1=>?_) fun a=>tr (x_a fun h=>a h.1)
 refine tb (x_9 _ _ _) fun v2 h2=>tf h2 (fun a2=>?_) fun a=>tr (x_a fun h=>a h.2.1)
 refine tb (x_9 _ _ _) fun v3 h3=>tf h3 (fun a3=>?_) fun a=>tr (x_a fun h=>a h.2.2.1)
 exact tb (x_9 _ _ _) fun v4 h4=>tr ⟨fun h=>⟨a1,a2,a3,h4.1 h⟩,fun h=>h4.2 h.2.2.2⟩
theorem x_hs {K:Nat} (hK:2097152≤K) (b:ByteArray) (h:b.size<2097152):Tot (x_bo K b) fun r=>Is r.1 (TxOk b):=by
 unfold x_bo x_bo.b
 refine l1_ (L:=x_bo.l0 K b) (fun _ _=>rfl) (fun m q=> ∃ i:Nat,q=i∧i+m=b.size∧ ∀ j:Nat,j<i→okB (x_fc b j)) (fun m x L' hi k=>?_) (m:=b.size) (by omega) ⟨0,rfl,by omega,fun j hj=>by omega⟩
 obtain ⟨i,rfl,hm,ha⟩:=hi
 unfold x_bo.l0b
 have go:i<b.size→okB (x_fc b i)→Tot (L' (i6 ((i:Int)+1))) fun r=>Is r.1 (TxOk b):=fun h1 h2=>by
  rw [w6 (by omega) (by omega)]
  refine k (m-1) _ (by omega) ⟨i+1,by push_cast;rfl,by omega,fun j hj=>?_⟩
  rcases Nat.lt_or_ge j i with h | h
  ·exact ha j h
  ·obtain rfl:j=i:=by omega
   exact h2
 have no:i<b.size→ ¬ okB (x_fc b i)→Tot (some (false,())) fun r=>Is r.1 (TxOk b):=fun h1 h2=>tr (x_a fun h3=>h2 (h3.2 i h1))
 have hlt:((i:Nat):Int)<((b.size:Nat):Int)→i<b.size:=fun h=>by omega
 unfold okB at go no
 refine ti (fun h0=>tc (by omega) (tc h0 ?_)) fun h0=>tr ⟨fun h1=>⟨?_,fun j hj=>ha j (by omega)⟩,fun h1=>?_⟩
 ·repeat' (first | refine ti (fun _=>?_) (fun _=>?_) | refine tn (fun _=>?_) (fun _=>?_) | (refine tE ?_;omega))
  all_goals first | (refine go (by omega) ?_;omega) | (refine no (by omega) ?_;omega)
 ·have:=of_decide_eq_true h1;omega
 ·have:=h1.1;exact decide_eq_true (by omega)
theorem x_j0 {K:Nat} (hK:2097152≤K) (c:TCmd) (h:CSz c):Tot (x_jt K c) fun r=>Is r.1 (COk c):=by
 unfold x_jt
 refine ti (fun h1=>tr ?_) fun h1=>?_
 ·have:=x_e1 eCmd c nobody (by decide)
  exact ⟨fun h=> .inl ⟨h1,this.1 h⟩,fun h=>this.2 (by rcases h with h | h;exact h.2;exact absurd h1 h.1)⟩
 have no:∀ {p:Prop},((c.1≠ -1∧(0≤c.1∧c.1≤3)∧(1≤c.2.1∧c.2.1≤100000)∧(1≤c.2.2.1∧c.2.2.1≤10)∧(0≤c.2.2.2.1∧c.2.2.2.1≤100000)∧(0≤c.2.2.2.2.1∧c.2.2.2.2.1≤100000)∧(0≤c.2.2.2.2.2.1∧c.2.2.2.2.2.1≤100000)∧TxOk c.2.2.2.2.2.2.1∧TxOk c.2.2.2.2.2.2.2)→p)→ ¬ p→ ¬ COk c:=fun k np h=>by
  rcases h with h | h
  ·exact h1 h.1
  ·exact np (k h)
 refine tb (x_9 _ _ _) fun v1 g1=>tf g1 (fun a1=>?_) fun a=>tr (x_a (no (fun h=>h.2.1) a))
 refine tb (x_9 _ _ _) fun v2 g2=>tf g2 (fun a2=>?_) fun a=>tr (x_a (no (fun h=>h.2.2.1) a))
 refine tb (x_9 _ _ _) fun v3 g3=>tf g3 (fun a3=>?_) fun a=>tr (x_a (no (fun h=>h.2.2.2.1) a))
 refine tb (x_9 _ _ _) fun v4 g4=>tf g4 (fun a4=>?_) fun a=>tr (x_a (no (fun h=>h.2.2.2.2.1) a))
 refine tb (x_9 _ _ _) fun v5 g5=>tf g5 (fun a5=>?_) fun a=>tr (x_a (no (fun h=>h.2.2.2.2.2.1) a))
 refine tb (x_9 _ _ _) fun v6 g6=>tf g6 (fun a6=>?_) fun a=>tr (x_a (no (fun h=>h.2.2.2.2.2.2.1) a))
 refine tb (x_hs hK _ h.1) fun v7 g7=>tf g7 (fun a7=>?_) fun a=>tr (x_a (no (fun h=>h.2.2.2.2.2.2.2.1) a))
 refine tb (x_hs hK _ h.2) fun v8 g8=>tr ⟨fun h=> .inr ⟨h1,a1,a2,a3,a4,a5,a6,a7,g8.1 h⟩,fun h=>?_⟩
 rcases h with h | h
 ·exact absurd h.1 h1
 ·exact g8.2 h.2.2.2.2.2.2.2.2
theorem ti_LastOf (l:TLog) (h:l.2.2.length<2097152) (hb : -9223372036854775808≤l.1∧l.1≤1000000):Tot (x_qy l) fun r=>r=(x_fb l,x_tj l,()):=by
 unfold x_qy x_fb x_tj x_ir
 refine ti (fun h1=>?_) fun h1=>tr ?_
 ·rw [w6 (n:=((l.2.2.length:Nat):Int)-1) (by omega) (by omega),w6 (n:=l.1+((l.2.2.length:Nat):Int)) (by omega) (by omega)]
  refine t2_ (by omega) ((tr ?_))
  rw [if_neg (by omega),show Int.toNat (((l.2.2.length:Nat):Int)-1)=l.2.2.length-1 by omega]
 ·have h0:l.2.2.length=0:=by omega
  rw [if_pos h0,h0];simp
theorem ti_last (l:TLog) (h:l.2.2.length<2097152) (hb : -9223372036854775808≤l.1∧l.1≤1000000):Tot (i_last l) fun r=>r.1=x_fb l:=by
 unfold i_last x_fb
 rw [w6 (n:=l.1+((l.2.2.length:Nat):Int)) (by omega) (by omega)]
 exact tr rfl
theorem x_ud {K:Nat} (hK:2097152≤K) (l:TLog) (h:LSz l):Tot (x_et K l) fun r=>Is r.1 (LOk l):=by
 obtain ⟨hl,hs⟩:=h
 unfold x_et x_et.b
 refine tb (x_9 _ _ _) fun v1 g1=>tg g1 (fun a=>tr (x_a fun h=>a h.1)) fun a1=>?_
 refine tb (x_9 _ _ _) fun v2 g2=>tg g2 (fun a=>tr (x_a fun h=>a h.2.1)) fun a2=>?_
 rw [w6 (by omega) (by omega)]
 refine ti (fun h3=>tr (x_a fun h=>by have:=h.2.2.1;omega)) fun h3=>?_
 refine l2_ (L:=x_et.l0 K l) (fun _ _ _=>rfl) (fun m t x=> ∃ i:Nat,x=i∧i+m=l.2.2.length∧t=x_ir l i∧ ∀ j,j<i→EOk l j) (fun m t x L' hi k=>?_) (m:=l.2.2.length) (by omega) ⟨0,rfl,by omega,rfl,fun j h=>by omega⟩
 obtain ⟨i,rfl,hm,rfl,ha⟩:=hi
 unfold x_et.l0b
 rw [tz]
 refine ti (fun h4=>?_) fun h4=>tr (x_eg ⟨a1,a2,by omega,fun j hj=>ha j (by omega)⟩)
 have hi:i<l.2.2.length:=by omega
 refine tc (by omega) (tc h4 ?_)
 refine tb (x_9 _ _ _) fun v3 g3=>tg g3 (fun a=>tr (x_a fun h=>a (h.2.2.2 i hi).1)) fun a3=>?_
 refine tb (x_j0 hK _ (hs _ (x_ad hi))) fun v4 g4=>tg g4 (fun a=>tr (x_a fun h=>a (h.2.2.2 i hi).2)) fun a4=>?_
 rw [w6 (by omega) (by omega)]
 refine k (m-1) _ _ (by omega) ⟨i+1,by push_cast;rfl,by omega,by unfold x_ir;rw [if_neg (by omega),Nat.add_sub_cancel],fun j hj=>?_⟩
 rcases Nat.lt_or_ge j i with h | h
 ·exact ha j h
 ·obtain rfl:j=i:=by omega
  exact ⟨a3,a4⟩
theorem x_fz {K:Nat} (hK:2097152≤K) (l:List Int) (h:l.length<2097152) (a b:Int):Tot (x_er K l a b) fun r=>Is r.1 (∀ i,i<l.length→a≤l.getD i 0∧l.getD i 0≤b):=by
 unfold x_er x_dj x_l x_l.b
 have:Tot (x_l.l0 K l a b K 0 a b) fun r=>Srch r.1 (∀ i,i<l.length→a≤l.getD i 0∧l.getD i 0≤b):=by
  refine Tot.all2 (L:=x_l.l0 K l a b) (fun _ _ _ _=>rfl) a b l.length (fun i=>a≤l.getD i 0∧l.getD i 0≤b) (fun i L' hi k ha=>?_) (fun L' ha=>?_) (by omega)
  ·unfold x_l.l0b x_ih
   rw [tz,wi (i:=i) (by omega)]
   refine ti (fun h1=>tc (by omega) (tc h1 ?_)) fun h1=>absurd (show (i:Int)<((l.length:Nat):Int) by omega) h1
   refine tb (Q:=fun v=>Is (!v.1) (a≤l.getD i 0∧l.getD i 0≤b)∧v.2=(a,b,())) (tb (x_9 _ _ _) fun v1 g1=>tr ⟨by simpa using g1,rfl⟩) fun v g=>?_
   obtain ⟨x,y⟩:=v
   obtain ⟨g1,rfl⟩:=g
   refine tf (Is.not g1) (fun a1=>tr ⟨fun _ h2=>a1 (h2 i hi),fun h2=>by omega⟩) fun a1=>k (Classical.not_not.1 a1)
  ·unfold x_l.l0b
   exact ti (fun h1=>absurd h1 (by omega)) fun h1=>tr ⟨fun h2=>absurd (show (0:Int)≤ -1 from h2) (by decide),fun _=>ha⟩
 refine tb (Q:=fun v=>Is (!v.1) (∀ i,i<l.length→a≤l.getD i 0∧l.getD i 0≤b)) (tb this fun v g=>tr g.is) fun v g=>tr g
theorem x_yz {K:Nat} (hK:2097152≤K) (m:x_at) (h:MkS m) (w:Int):Tot (x_c0 K m w) fun r=>Is r.1 (MOk m w):=by
 obtain ⟨hl,hq⟩:=h
 unfold x_c0 x_c0.b
 refine tb (x_9 _ _ _) fun v1 g1=>tg g1 (fun a=>tr (x_a fun h=>a h.2.2.2.2.1)) fun a1=>?_
 refine tb (x_9 _ _ _) fun v2 g2=>tg g2 (fun a=>tr (x_a fun h=>a h.2.2.2.2.2.1)) fun a2=>?_
 refine tb (x_9 _ _ _) fun v3 g3=>tg g3 (fun a=>tr (x_a fun h=>a h.2.2.2.2.2.2.1)) fun a3=>?_
 refine tb (x_9 _ _ _) fun v4 g4=>tg g4 (fun a=>tr (x_a fun h=>a h.2.2.2.2.2.2.2)) fun a4=>?_
 refine ti (fun a=>tr (x_a fun h=>by have:=h.2.1;omega)) fun a5=>?_
 have e6:Is (decide (m.2.2.2.1= -1) == decide ((m.2.2.2.2.length:Int)=0)) (m.2.2.2.1= -1↔m.2.2.2.2.length=0):=by
  unfold Is
  rw [beq_iff_eq,decide_eq_decide]
  omega
 refine tg e6 (fun a=>tr (x_a fun h=>a ?_)) fun a6=>?_
 ·have h3:=h.2.2.1
  have h4:=h.2.2.2.1
  omega
 refine tA (L:=x_c0.l0 K m w) (fun _ _=>rfl) m.2.2.2.2.length (KMark m) (fun i L' hi k ha=>?_) (fun L' ha=>?_) (by omega)
 ·unfold x_c0.l0b
  have no:¬ KMark m i→ ¬ MOk m w:=fun h1 h2=>h1 (h2.1 i hi)
  rw [tz,wi (i:=i) (by omega),w6 (n:=m.2.2.2.1-((m.2.2.2.2.length:Nat):Int)) (by omega) (by omega),w6 (n:=m.2.2.2.1-((m.2.2.2.2.length:Nat):Int)+1) (by omega) (by omega),w6 (n:=m.2.2.2.1-((m.2.2.2.2.length:Nat):Int)+1+(i:Int)) (by omega) (by omega)]
  refine ti (fun h1=>tc (by omega) (tc h1 ?_)) fun h1=>absurd (show (i:Int)<((m.2.2.2.2.length:Nat):Int) by omega) h1
  refine tn (fun a=>tr (x_a (no fun h=>by have:=h.2.1;omega))) fun b1=>?_
  refine tb (x_9 _ _ _) fun v5 g5=>tg g5 (fun a=>tr (x_a (no fun h=>a h.1))) fun b2=>?_
  refine ti (fun h3=>?_) fun h3=>k ⟨b2,by omega,fun h=>by omega⟩
  rw [w6 (n:=(i:Int)-1) (by omega) (by omega),show Int.toNat ((i:Int)-1)=i-1 by omega]
  refine t2_ (by omega) (?_)
  exact ti (fun h4=>tr (x_a (no fun h=>by have:=h.2.2 (by omega);omega))) fun h4=>k ⟨b2,by omega,fun _=>by omega⟩
 ·unfold x_c0.l0b
  refine ti (fun h1=>absurd h1 (by omega)) fun h1=>tr (x_eg ⟨ha,by omega,?_,fun h=>by omega,a1,a2,a3,a4⟩)
  rcases Nat.eq_zero_or_pos m.2.2.2.2.length with h0 | h0
  ·omega
  ·have h2:=(ha 0 h0).2.1
   have h3:=hq _ (x_ad (z:=x_ie) h0)
   omega
theorem ti_RowOk {K:Nat} (hK:2097152≤K) (r:TRow) (h:RSz r):Tot (x_e0 K r) fun x=>Is x.1 (ROk r):=by
 obtain ⟨hl,hs⟩:=h
 unfold x_e0 x_e0.b
 refine tb (x_9 _ _ _) fun v1 g1=>tg g1 (fun a=>tr (x_a fun h=>a h.1)) fun a1=>?_
 refine ti (fun a=>tr (x_a fun h=>by have:=h.2.1;omega)) fun a2=>ti (fun a=>tr (x_a fun h=>by have:=h.2.2.1;omega)) fun a3=>?_
 refine tA (L:=x_e0.l0 K r) (fun _ _=>rfl) r.2.2.length (RIt r) (fun i L' hi k ha=>?_) (fun L' ha=>?_) (by omega)
 ·unfold x_e0.l0b
  have no:¬ RIt r i→ ¬ ROk r:=fun h1 h2=>h1 (h2.2.2.2 i hi)
  rw [tz,wi (i:=i) (by omega),w6 (n:=r.2.1-1) (by omega) (by omega)]
  refine ti (fun h1=>tc (by omega) (tc h1 ?_)) fun h1=>absurd (show (i:Int)<((r.2.2.length:Nat):Int) by omega) h1
  refine tb (x_9 _ _ _) fun v2 g2=>tg g2 (fun a=>tr (x_a (no fun h=>a h.2.1))) fun b1=>?_
  have go:(0<i→(r.2.2.getD (i-1) x_ce).1<(r.2.2.getD i x_ce).1)→Tot ((x_bo K (r.2.2.getD i x_ce).2.1).bind fun v3=>bif !v3.1 then some (false,()) else (x_bo K (r.2.2.getD i x_ce).2.2.1).bind fun v4=>bif !v4.1 then some (false,()) else
    (x_aa (r.2.2.getD i x_ce).2.2.2.1 0 3).bind fun v5=>bif !v5.1 then some (false,()) else (x_aa (r.2.2.getD i x_ce).2.2.2.2 0 100000).bind fun v6=>bif !v6.1 then some (false,()) else L' ((i:Int)+1)) fun x=>Is x.1 (ROk r):=fun h3=>by
   refine tb (x_hs hK _ (hs _ (x_ad hi)).1) fun v3 g3=>tg g3 (fun a=>tr (x_a (no fun h=>a h.1.1))) fun b3=>?_
   refine tb (x_hs hK _ (hs _ (x_ad hi)).2) fun v4 g4=>tg g4 (fun a=>tr (x_a (no fun h=>a h.1.2.1))) fun b4=>?_
   refine tb (x_9 _ _ _) fun v5 g5=>tg g5 (fun a=>tr (x_a (no fun h=>a h.1.2.2.1))) fun b5=>?_
   exact tb (x_9 _ _ _) fun v6 g6=>tg g6 (fun a=>tr (x_a (no fun h=>a h.1.2.2.2))) fun b6=>k ⟨⟨b3,b4,b5,b6⟩,b1,h3⟩
  refine ti (fun h3=>?_) fun h3=>go fun h=>by omega
  rw [w6 (n:=(i:Int)-1) (by omega) (by omega),show Int.toNat ((i:Int)-1)=i-1 by omega]
  refine t2_ (by omega) (?_)
  exact ti (fun h4=>tr (x_a (no fun h=>by have:=h.2.2 (by omega);omega))) fun h4=>go fun _=>by omega
 ·unfold x_e0.l0b
  exact ti (fun h1=>absurd h1 (by omega)) fun h1=>tr (x_eg ⟨a1,by omega,by omega,ha⟩)
theorem x_y9 {K:Nat} (hK:2097152≤K) (g:x_ar) (h:GSz g) (rows:Int):Tot (x_cw K g rows) fun r=>Is r.1 (GOk rows g):=by
 obtain ⟨hl,hb,ho⟩:=h
 unfold x_cw x_cw.b
 refine tA (L:=x_cw.l0 K g rows) (fun _ _=>rfl) g.2.1.length (fun i=>(0≤g.2.1.getD i 0∧g.2.1.getD i 0≤3)∧(0<i→g.2.1.getD (i-1) 0<g.2.1.getD i 0)) (fun i L' hi k ha=>?_) (fun L' ha=>?_) (by omega)
 ·unfold x_cw.l0b x_f8
  have no:¬ ((0≤g.2.1.getD i 0∧g.2.1.getD i 0≤3)∧(0<i→g.2.1.getD (i-1) 0<g.2.1.getD i 0))→ ¬ GOk rows g:=fun h1 h2=>h1 ⟨(h2.2.2.2.1 i hi).1,(h2.2.2.2.1 i hi).2.1⟩
  rw [tz,wi (i:=i) (by omega)]
  refine ti (fun h1=>tc (by omega) (tc h1 ?_)) fun h1=>absurd (show (i:Int)<((g.2.1.length:Nat):Int) by omega) h1
  refine tb (Q:=fun v=>Is v.1 (0≤g.2.1.getD i 0∧g.2.1.getD i 0≤3)) (tb (x_9 _ _ _) fun v g=>tr g) fun v1 g1=>tg g1 (fun a=>tr (x_a (no fun h=>a h.1))) fun b1=>?_
  refine ti (fun h3=>?_) fun h3=>k ⟨b1,fun h=>by omega⟩
  rw [w6 (n:=(i:Int)-1) (by omega) (by omega),show Int.toNat ((i:Int)-1)=i-1 by omega]
  refine t2_ (by omega) (?_)
  exact ti (fun h4=>tr (x_a (no fun h=>by have:=h.2 (by omega);omega))) fun h4=>k ⟨b1,fun _=>by omega⟩
 ·unfold x_cw.l0b
  refine ti (fun h1=>absurd h1 (by omega)) fun h1=>?_
  refine tb (x_9 _ _ _) fun v2 g2=>tf g2 (fun b1=>?_) fun a=>tr (x_a fun h=>a h.1)
  refine ti (fun b2=>?_) fun a=>tr (x_a fun h=>a (by have:=h.2.1;omega))
  have b2:g.2.2.1.length=g.2.1.length:=by omega
  refine tb (x_fz hK _ hb _ _) fun v3 g3=>tf g3 (fun b3=>?_) fun a=>tr (x_a fun h=>a fun i hi=>(h.2.2.2.1 i (by omega)).2.2)
  refine ti (fun b4=>?_) fun a=>tr (x_a fun h=>a h.2.2.1)
  exact tb (x_fz hK _ ho _ _) fun v4 g4=>tr ⟨fun h=>⟨b1,b2,b4,fun i hi=>⟨(ha i hi).1,(ha i hi).2,b3 i (by omega)⟩,g4.1 h⟩,fun h=>g4.2 h.2.2.2.2⟩
theorem x_ps {K:Nat} (hK:2097152≤K) (a:x_dl) (h:ASz a):Tot (x_in K a) fun r=>Is r.1 (AOk a):=by
 unfold x_in
 refine tb (x_9 _ _ _) fun v1 g1=>tf g1 (fun a1=>?_) fun a=>tr (x_a fun h=>a h.1)
 refine tb (x_9 _ _ _) fun v2 g2=>tf g2 (fun a2=>?_) fun a=>tr (x_a fun h=>a h.2.1)
 refine tb (x_hs hK _ h.1) fun v3 g3=>tf g3 (fun a3=>?_) fun a=>tr (x_a fun h=>a h.2.2.1)
 exact tb (x_hs hK _ h.2) fun v4 g4=>tr ⟨fun h=>⟨a1,a2,a3,g4.1 h⟩,fun h=>g4.2 h.2.2.2⟩
theorem cf_row {K:Nat} (hK:2097152≤K) (l:List TRow) (h:l.length<2097152) (hz:∀ r∈l,RSz r):Tot (x_cu K l) fun r=>Is (!r.1) (∀ i,i<l.length→ROk (l.getD i zRow)):=by
 unfold x_cu x_3 x_3.b
 have:Tot (x_3.l0 K l K 0) fun r=>Srch r.1 (∀ i,i<l.length→ROk (l.getD i zRow)):=by
  refine tA (L:=x_3.l0 K l) (fun _ _=>rfl) l.length (fun i=>ROk (l.getD i zRow)) (fun i L' hi k ha=>?_) (fun L' ha=>?_) (by omega)
  ·unfold x_3.l0b x_n0
   rw [tz,wi (i:=i) (by omega)]
   refine ti (fun h1=>tc (by omega) (tc h1 ?_)) fun h1=>absurd (show (i:Int)<((l.length:Nat):Int) by omega) h1
   refine tb (Q:=fun v=>Is v.1 (¬ ROk (l.getD i zRow))) (tb (ti_RowOk hK _ (hz _ (x_ad hi))) fun v1 g1=>tr (Is.neg g1)) fun v g=>?_
   exact tf g (fun a1=>tr ⟨fun _ h2=>a1 (h2 i hi),fun h2=>by omega⟩) fun a1=>k (Classical.not_not.1 a1)
  ·unfold x_3.l0b
   exact ti (fun h1=>absurd h1 (by omega)) fun h1=>tr ⟨fun h2=>absurd (show (0:Int)≤ -1 from h2) (by decide),fun _=>ha⟩
 exact tb this fun v g=>tr g.is
theorem cf_group {K:Nat} (hK:2097152≤K) (l:List x_ar) (h:l.length<2097152) (hz:∀ r∈l,GSz r) (s:x_d):Tot (x_c1 K l s) fun r=>Is (!r.1) (∀ i,i<l.length→GOk s.1 (l.getD i x_bv)):=by
 unfold x_c1 x_z x_z.b
 have:Tot (x_z.l0 K l s K 0 s) fun r=>Srch r.1 (∀ i,i<l.length→GOk s.1 (l.getD i x_bv)):=by
  refine Tot.all1 (L:=x_z.l0 K l s) (fun _ _ _=>rfl) s l.length (fun i=>GOk s.1 (l.getD i x_bv)) (fun i L' hi k ha=>?_) (fun L' ha=>?_) (by omega)
  ·unfold x_z.l0b x_nm
   rw [tz,wi (i:=i) (by omega)]
   refine ti (fun h1=>tc (by omega) (tc h1 ?_)) fun h1=>absurd (show (i:Int)<((l.length:Nat):Int) by omega) h1
   refine tb (Q:=fun v=>Is v.1 (¬ GOk s.1 (l.getD i x_bv))∧v.2=(s,())) (tb (x_y9 hK _ (hz _ (x_ad hi)) _) fun v1 g1=>tr ⟨(Is.neg g1),rfl⟩) fun v g=>?_
   obtain ⟨x,y⟩:=v
   obtain ⟨g,rfl⟩:=g
   exact tf g (fun a1=>tr ⟨fun _ h2=>a1 (h2 i hi),fun h2=>by omega⟩) fun a1=>k (Classical.not_not.1 a1)
  ·unfold x_z.l0b
   exact ti (fun h1=>absurd h1 (by omega)) fun h1=>tr ⟨fun h2=>absurd (show (0:Int)≤ -1 from h2) (by decide),fun _=>ha⟩
 exact tb this fun v g=>tr g.is
theorem cf_ans {K:Nat} (hK:2097152≤K) (l:List x_dl) (h:l.length<2097152) (hz:∀ r∈l,ASz r):Tot (x_cr K l) fun r=>Is (!r.1) (∀ i,i<l.length→AOk (l.getD i x_b7)):=by
 unfold x_cr x_0 x_0.b
 have:Tot (x_0.l0 K l K 0) fun r=>Srch r.1 (∀ i,i<l.length→AOk (l.getD i x_b7)):=by
  refine tA (L:=x_0.l0 K l) (fun _ _=>rfl) l.length (fun i=>AOk (l.getD i x_b7)) (fun i L' hi k ha=>?_) (fun L' ha=>?_) (by omega)
  ·unfold x_0.l0b x_nz
   rw [tz,wi (i:=i) (by omega)]
   refine ti (fun h1=>tc (by omega) (tc h1 ?_)) fun h1=>absurd (show (i:Int)<((l.length:Nat):Int) by omega) h1
   refine tb (Q:=fun v=>Is v.1 (¬ AOk (l.getD i x_b7))) (tb (x_ps hK _ (hz _ (x_ad hi))) fun v1 g1=>tr (Is.neg g1)) fun v g=>?_
   exact tf g (fun a1=>tr ⟨fun _ h2=>a1 (h2 i hi),fun h2=>by omega⟩) fun a1=>k (Classical.not_not.1 a1)
  ·unfold x_0.l0b
   exact ti (fun h1=>absurd h1 (by omega)) fun h1=>tr ⟨fun h2=>absurd (show (0:Int)≤ -1 from h2) (by decide),fun _=>ha⟩
 exact tb this fun v g=>tr g.is
theorem x_m1 {K:Nat} (hK:2097152≤K) (s:x_d) (k:x_ai) (h:KSz k):Tot (x_di K s k) fun r=>Is r.1 (KOk s k):=by
 obtain ⟨z1,z2,z3,z4,z5,z6,z7,z8⟩:=h
 unfold x_di x_di.b
 refine tb (x_is s) fun v1 g1=>tg g1 (fun a=>tr (x_a fun h=>a h.1)) fun a1=>?_
 refine tn (fun h=>tr (x_a fun k=>h k.2.1)) fun h2=>tn (fun h=>tr (x_a fun k=>h (by have:=k.2.2.1;omega))) fun h3=>?_
 refine tb (x_9 _ _ _) fun v2 g2=>tg g2 (fun a=>tr (x_a fun h=>a h.2.2.2.2.2.1)) fun a2=>?_
 refine tn (fun h=>tr (x_a fun k=>h (by have:=k.2.2.2.1;omega))) fun h4=>?_
 refine tb (x_fz hK _ z6 _ _) fun v3 g3=>tg g3 (fun a=>tr (x_a fun h=>a fun i hi=>(h.2.2.2.2.2.2.2.2.2 i (by have:=h.2.2.2.1;omega)).1)) fun a3=>?_
 refine tn (fun h=>tr (x_a fun k=>h (by have:=k.2.2.2.2.1;omega))) fun h5=>?_
 refine tA (L:=x_di.l0 K s k) (fun _ _=>rfl) k.2.1.length (MaOk s k.2.1) (fun i L' hi kk ha=>?_) (fun L' ha=>?_) (by have:=z3.1;omega)
 ·unfold x_di.l0b
  have no:¬ MaOk s k.2.1 i→ ¬ KOk s k:=fun h1 h2=>h1 (h2.2.2.2.2.2.2.1 i hi)
  have:=z3.1
  rw [tz,wi (i:=i) (by omega)]
  refine ti (fun h1=>tc (by omega) (tc h1 ?_)) fun h1=>absurd (show (i:Int)<((k.2.1.length:Nat):Int) by omega) h1
  refine tb (x_yz hK _ (z3.2 _ (x_ad hi)) _) fun v4 g4=>tg g4 (fun a=>tr (x_a (no fun h=>a h.1))) fun b1=>?_
  refine ti (fun a=>tr (x_a (no fun h=>by have:=h.2.1;omega))) fun b2=>?_
  refine ti (fun h3=>?_) fun h3=>kk ⟨b1,by omega,fun h=>by omega⟩
  rw [w6 (n:=(i:Int)-1) (by omega) (by omega),show Int.toNat ((i:Int)-1)=i-1 by omega]
  refine t2_ (by omega) (?_)
  refine ti (fun a=>tr (x_a (no fun h=>by rcases h.2.2 (by omega) with h | h<;>omega))) fun b3=>t2_ (by omega) (?_)
  refine ti (fun b4=>t2_ (by omega) (?_)) fun b4=>kk ⟨b1,by omega,fun _=> .inl (by omega)⟩
  exact ti (fun a=>tr (x_a (no fun h=>by rcases h.2.2 (by omega) with h | h<;>omega))) fun b5=>kk ⟨b1,by omega,fun _=> .inr ⟨b4,by omega⟩⟩
 ·unfold x_di.l0b
  refine ti (fun h1=>absurd h1 (by omega)) fun h1=>?_
  refine tb (cf_row hK _ z1 z2) fun v5 g5=>tb (cf_group hK _ z4 z5 s) fun v6 g6=>tb (cf_ans hK _ z7 z8) fun v7 g7=>?_
  have e6:k.2.2.1.length=2:=by omega
  have e7:k.2.2.2.2.2.length=4:=by omega
  have e8:k.2.2.2.2.1.length=4:=by omega
  refine tf g5 (fun b5=>tf g6 (fun b6=>tr ?_) fun a=>tr (x_a fun h=>a fun i hi=>h.2.2.2.2.2.2.2.2.1 i (by omega))) fun a=>tr (x_a fun h=>a h.2.2.2.2.2.2.2.1)
  exact ⟨fun h=>⟨a1,h2,e6,e8,e7,a2,ha,b5,fun i hi=>b6 i (by omega),fun i hi=>⟨a3 i (by omega),g7.1 h i (by omega)⟩⟩,fun h=>g7.2 fun i hi=>(h.2.2.2.2.2.2.2.2.2 i (by omega)).2⟩
theorem x_ky {K:Nat} (hK:2097152≤K) (p:x_d) (h:x_dh) (hz:HSw h):Tot (x_iw K p h) fun r=>Is r.1 (HOk p h):=by
 obtain ⟨z1,z2,z3⟩:=hz
 unfold x_iw
 refine tb (ti_LastOf _ z1.1 z2) fun v1 h1=>?_
 subst h1
 refine tb (x_9 _ _ _) fun v2 g2=>tf g2 (fun a2=>?_) fun a=>tr (x_a fun h=>a h.1)
 refine tb (x_9 _ _ _) fun v3 g3=>tf g3 (fun a3=>?_) fun a=>tr (x_a fun h=>a h.2.1)
 refine tb (x_ud hK _ z1) fun v4 g4=>tf g4 (fun a4=>?_) fun a=>tr (x_a fun h=>a h.2.2.1)
 refine ti (fun a5=>?_) fun a5=>tr (x_a fun h=>a5 h.2.2.2.1)
 exact tb (x_m1 hK p _ z3) fun v5 g5=>tr ⟨fun h=>⟨a2,a3,a4,a5,g5.1 h⟩,fun h=>g5.2 h.2.2.2.2⟩
theorem cf_ents {K:Nat} (hK:2097152≤K) (r:TRpc) (h:RpSz r):Tot (x_db K r.2.2.2.2.2.2.2.1 r) fun x=>Is (!x.1) (∀ i,i<r.2.2.2.2.2.2.2.1.length→(0≤(r.2.2.2.2.2.2.2.1.getD i x_ay).1∧(r.2.2.2.2.2.2.2.1.getD i x_ay).1≤r.2.2.2.1)∧COk (r.2.2.2.2.2.2.2.1.getD i x_ay).2):=by
 obtain ⟨hl,hz⟩:=h
 unfold x_db x_4 x_4.b
 let P:Nat→Prop:=fun i=>(0≤(r.2.2.2.2.2.2.2.1.getD i x_ay).1∧(r.2.2.2.2.2.2.2.1.getD i x_ay).1≤r.2.2.2.1)∧COk (r.2.2.2.2.2.2.2.1.getD i x_ay).2
 have:Tot (x_4.l0 K r.2.2.2.2.2.2.2.1 r K 0 r) fun x=>Srch x.1 (∀ i,i<r.2.2.2.2.2.2.2.1.length→P i):=by
  refine Tot.all1 (L:=x_4.l0 K r.2.2.2.2.2.2.2.1 r) (fun _ _ _=>rfl) r r.2.2.2.2.2.2.2.1.length P (fun i L' hi k ha=>?_) (fun L' ha=>?_) (by omega)
  ·unfold x_4.l0b x_rb
   rw [tz,wi (i:=i) (by omega)]
   refine ti (fun h1=>tc (by omega) (tc h1 ?_)) fun h1=>absurd (show (i:Int)<((r.2.2.2.2.2.2.2.1.length:Nat):Int) by omega) h1
   refine tb (Q:=fun v=>Is v.1 (¬ P i)∧v.2=(r,())) (tb (x_9 _ _ _) fun v1 g1=>tg g1 (fun a=>tr ⟨x_eg fun h=>a h.1,rfl⟩) fun a1=>tb (x_j0 hK _ (hz _ (x_ad hi))) fun v2 g2=>tr ⟨?_,rfl⟩) fun v g=>?_
   ·exact ⟨fun h hp=>(Is.neg g2).1 h hp.2,fun h=>(Is.neg g2).2 fun h2=>h ⟨a1,h2⟩⟩
   obtain ⟨x,y⟩:=v
   obtain ⟨g,rfl⟩:=g
   exact tf g (fun a1=>tr ⟨fun _ h2=>a1 (h2 i hi),fun h2=>by omega⟩) fun a1=>k (Classical.not_not.1 a1)
  ·unfold x_4.l0b
   exact ti (fun h1=>absurd h1 (by omega)) fun h1=>tr ⟨fun h2=>absurd (show (0:Int)≤ -1 from h2) (by decide),fun _=>ha⟩
 exact tb this fun v g=>tr g.is
theorem x_zk {K:Nat} (hK:2097152≤K) (r:TRpc) (n:Int) (h:RpSz r):Tot (x_sc K r n) fun x=>Is x.1 (RpOk r n):=by
 unfold x_sc
 refine tb (x_9 _ _ _) fun v2 g2=>tg g2 (fun a=>tr (x_a fun h=>a h.2.1)) fun a2=>?_
 refine tb (x_9 _ _ _) fun v1 g1=>tg g1 (fun a=>tr (x_a fun h=>a h.1)) fun a1=>?_
 rw [w6 (by omega) (by omega)]
 refine tb (x_9 _ _ _) fun v3 g3=>tg g3 (fun a=>tr (x_a fun h=>a h.2.2.1)) fun a3=>?_
 refine tb (x_9 _ _ _) fun v4 g4=>tg g4 (fun a=>tr (x_a fun h=>a h.2.2.2.1)) fun a4=>?_
 refine ti (fun h=>tr (x_a fun k=>k.2.2.2.2.1 h)) fun h5=>?_
 refine tb (x_9 _ _ _) fun v5 g5=>tg g5 (fun a=>tr (x_a fun h=>a h.2.2.2.2.2.1)) fun a5=>?_
 refine tb (x_9 _ _ _) fun v6 g6=>tg g6 (fun a=>tr (x_a fun h=>a h.2.2.2.2.2.2.1)) fun a6=>?_
 refine tb (x_9 _ _ _) fun v7 g7=>tg g7 (fun a=>tr (x_a fun h=>a h.2.2.2.2.2.2.2.1)) fun a7=>?_
 refine tb (x_9 _ _ _) fun v8 g8=>tg g8 (fun a=>tr (x_a fun h=>a h.2.2.2.2.2.2.2.2.1)) fun a8=>?_
 refine ti (fun a=>tr (x_a fun h=>by have:=h.2.2.2.2.2.2.2.2.2.1.2;omega)) fun b1=>ti (fun a=>tr (x_a fun h=>by have:=h.2.2.2.2.2.2.2.2.2.2;omega)) fun b2=>?_
 exact tb (cf_ents hK r h) fun v9 g9=>tr ⟨fun h=>⟨a1,a2,a3,a4,h5,a5,a6,a7,a8,⟨g9.1 h,by omega⟩,by omega⟩,fun h=>g9.2 h.2.2.2.2.2.2.2.2.2.1.1⟩
theorem ti_DiskOk (d:x_pu):Tot (x_rj d) fun x=>Is x.1 (DOk d):=by
 unfold x_rj
 refine ti (fun h=>?_) fun h=>tr (x_a fun k=>h (by have:=k.1;omega))
 exact tb (x_9 _ _ _) fun v g=>tr ⟨fun h1=>⟨by omega,g.1 h1⟩,fun h1=>g.2 h1.2⟩
theorem cf_held {K:Nat} (hK:2097152≤K) (n:x_bq) (size:Int) (hl:n.2.2.2.2.2.2.2.2.2.length<2097152) (hz:∀ r∈n.2.2.2.2.2.2.2.2.2,RpSz r):Tot (x_c2 K n.2.2.2.2.2.2.2.2.2 size n) fun x=>Is (!x.1) (∀ i,i<n.2.2.2.2.2.2.2.2.2.length→PHd n size i):=by
 unfold x_c2 x_1 x_1.b
 have:Tot (x_1.l0 K n.2.2.2.2.2.2.2.2.2 size n K 0 size n) fun x=>Srch x.1 (∀ i,i<n.2.2.2.2.2.2.2.2.2.length→PHd n size i):=by
  refine Tot.all2 (L:=x_1.l0 K n.2.2.2.2.2.2.2.2.2 size n) (fun _ _ _ _=>rfl) size n n.2.2.2.2.2.2.2.2.2.length (PHd n size) (fun i L' hi k ha=>?_) (fun L' ha=>?_) (by omega)
  ·unfold x_1.l0b x_o2
   rw [tz,wi (i:=i) (by omega)]
   refine ti (fun h1=>tc (by omega) (tc h1 ?_)) fun h1=>absurd (show (i:Int)<((n.2.2.2.2.2.2.2.2.2.length:Nat):Int) by omega) h1
   refine tb (Q:=fun v=>Is v.1 (¬ PHd n size i)∧v.2=(size,n,())) (tb (x_zk hK _ size (hz _ (x_ad hi))) fun v1 g1=>tg g1 (fun a=>tr ⟨x_eg fun h=>a h.1,rfl⟩) fun a1=>tr ⟨?_,rfl⟩) fun v g=>?_
   ·refine ⟨fun h hp=>?_,fun h=>?_⟩
    ·rw [decide_eq_true hp.2] at h;exact bad h
    ·rw [decide_eq_false fun h2=>h ⟨a1,h2⟩];rfl
   obtain ⟨x,y⟩:=v
   obtain ⟨g,rfl⟩:=g
   exact tf g (fun a1=>tr ⟨fun _ h2=>a1 (h2 i hi),fun h2=>by omega⟩) fun a1=>k (Classical.not_not.1 a1)
  ·unfold x_1.l0b
   exact ti (fun h1=>absurd h1 (by omega)) fun h1=>tr ⟨fun h2=>absurd (show (0:Int)≤ -1 from h2) (by decide),fun _=>ha⟩
 exact tb this fun v g=>tr g.is
theorem ti_PeerOk {K:Nat} (hK:2097152≤K) (p:x_d) (n:x_bq) (size:Int) (h:PSw n) (hn:n.2.2.2.2.1.length<2097152) (hm:n.2.2.2.2.2.1.length<2097152):Tot (x_qu K p n size) fun x=>Is x.1 (POk p n size):=by
 obtain ⟨z1,z2,z3,z4⟩:=h
 unfold x_qu
 refine tb (x_9 _ _ _) fun v1 g1=>tg g1 (fun a=>tr (x_a fun h=>a h.1)) fun a1=>?_
 rw [w6 (by omega) (by omega)]
 refine tb (x_9 _ _ _) fun v2 g2=>tg g2 (fun a=>tr (x_a fun h=>a h.2.1)) fun a2=>?_
 refine tb (x_ky hK p _ z1) fun v3 g3=>tg g3 (fun a=>tr (x_a fun h=>a h.2.2.1)) fun a3=>?_
 refine ti (fun a=>tr (x_a fun h=>by have:=h.2.2.2.1;omega)) fun a4=>?_
 refine tb (x_9 _ _ _) fun v4 g4=>tg g4 (fun a=>tr (x_a fun h=>a h.2.2.2.2.1)) fun a5=>?_
 refine tv (ti_last _ z1.1.1 z1.2.1) ?_
 have hlog:=a3.2.2.1
 have hln:0≤x_fb n.2.1.2.2.1∧x_fb n.2.1.2.2.1≤300:=by have:=hlog.1;have:=hlog.2.2.1;unfold x_fb;omega
 refine tn (fun a=>tr (x_a fun h=>a h.2.2.2.2.2.1)) fun a6=>tn (fun a=>tr (x_a fun h=>a h.2.2.2.2.2.2.1)) fun a7=>?_
 dsimp only
 rw [w6 (n:=x_fb n.2.1.2.2.1+1) (by omega) (by omega)]
 refine tb (x_fz hK _ hn _ _) fun v6 g6=>tg g6 (fun a=>tr (x_a fun h=>a fun i hi=>(h.2.2.2.2.2.2.2.2.1 i (by omega)).1)) fun b1=>?_
 refine tn (fun a=>tr (x_a fun h=>a h.2.2.2.2.2.2.2.1)) fun a8=>?_
 refine tb (x_fz hK _ hm _ _) fun v7 g7=>tg g7 (fun a=>tr (x_a fun h=>a fun i hi=>(h.2.2.2.2.2.2.2.2.1 i (by omega)).2)) fun b2=>?_
 refine tb (x_9 _ _ _) fun v8 g8=>tg g8 (fun a=>tr (x_a fun h=>a h.2.2.2.2.2.2.2.2.2.2.1)) fun b3=>?_
 refine tb (x_m1 hK p _ z2) fun v9 g9=>tg g9 (fun a=>tr (x_a fun h=>a h.2.2.2.2.2.2.2.2.2.2.2.1)) fun b4=>?_
 refine tb (ti_DiskOk _) fun v10 g10=>tg g10 (fun a=>tr (x_a fun h=>a h.2.2.2.2.2.2.2.2.2.2.2.2.1)) fun b5=>?_
 refine ti (fun a=>tr (x_a fun h=>by have:=h.2.2.2.2.2.2.2.2.2.2.2.2.2;omega)) fun b6=>?_
 exact tb (cf_held hK n size z3 z4) fun v11 g11=>tr ⟨fun h=>⟨a1,a2,a3,by omega,a5,a6,a7,a8,fun i hi=>⟨b1 i (by omega),b2 i (by omega)⟩,g11.1 h,b3,b4,b5,by omega⟩,fun h=>g11.2 h.2.2.2.2.2.2.2.2.2.1⟩
variable {K N:Nat}
theorem x_mn {c:x_6} (h:x_c9 c) (x:TCmd) (hx:CSz x):Tot (x_h2 c x) fun r=>CSz r.1∧x_c9 r.2.1:=by
 unfold x_h2
 refine tb (x_af h 14 (by decide)) fun v1 g1=>?_
 have pk:∀ l:List Int,0<l.length→Tot (x_7 v1.2.1 l) fun r=>x_c9 r.2.1:=fun l hl=>(x_ax g1.2.2 l hl).mono fun r g=>g.2
 refine ti (fun _=>tb (pk _ (by decide)) fun v g=>tr ⟨hx,g⟩) fun _=>ti (fun _=>tb (pk _ (by decide)) fun v g=>tr ⟨hx,g⟩) fun _=>ti (fun _=>tb (pk _ (by decide)) fun v g=>tr ⟨hx,g⟩) fun _=>ti (fun _=>tb (pk _ (by decide)) fun v g=>tr ⟨hx,g⟩) fun _=>ti (fun _=>tb (x_uv g1.2.2 _ (by decide)) fun v g=>tr ⟨⟨?_,hx.2⟩,g.2⟩) fun _=>tr ⟨hx,g1.2.2⟩
 have e:=g.1
 simp only [mem_cons,List.not_mem_nil,or_false] at e
 show v.1.size<2097152
 rcases e with e | e<;>rw [e]<;>decide
theorem u_l3Draw (hK:2097152≤K) {c:x_6} (h:x_c9 c):Tot (x_dx K c) fun r=>RSz r.1∧x_c9 r.2.1:=(t_l3Draw hK h).mono fun r g=>⟨⟨by have:=g.1.2.2.1;omega,fun x hx=>⟨by have:=(g.1.2.2.2 x hx).2.1;omega,by have:=(g.1.2.2.2 x hx).2.2.1;omega⟩⟩,g.2⟩
theorem u_l5Draw (hK:2097152≤K) {c:x_6} (h:x_c9 c):Tot (x_oc K c) fun r=>GSz r.1∧x_c9 r.2.2.1:=(t_l5Draw hK h).mono fun r g=>⟨⟨by have:=g.1.2.1;omega,by have:=g.1.2.2.1;omega,by have:=g.1.2.2.2.1;omega⟩,g.2⟩
def LSy (l:TLog):Prop:=LSz l∧(-9223372036854775808≤l.1∧l.1≤1000000)
def HSy (h:x_dh):Prop:=LSy h.2.2.1∧KSz h.2.2.2
theorem HSz.sy {h:x_dh} (k:HSz h):HSy h:=⟨⟨k.1,by have:=k.2.1;omega⟩,k.2.2⟩
def NSy (n:x_bq):Prop:=HSy n.2.1∧KSz n.2.2.2.2.2.2.2.1∧n.2.2.2.1.length<2097152∧n.2.2.2.2.1.length<2097152∧n.2.2.2.2.2.1.length<2097152∧(n.2.2.2.2.2.2.2.2.1.1.length≤2000000∧BOk n.2.2.2.2.2.2.2.2.1.1)∧n.2.2.2.2.2.2.2.2.2.length<2097152∧ ∀ r∈n.2.2.2.2.2.2.2.2.2,RpSz r
theorem NI.sy {p:x_d} {s:Int} {n:x_bq} (h:NI p s n):NSy n:=by
 obtain ⟨h1,h2,h3,h4,h5,h6,h7,h8⟩:=h
 exact ⟨h2.sz.sy,h5.sz (by decide),by omega,by omega,by omega,⟨by omega,h6.2⟩,by omega,h8⟩
theorem u_l8Draw (hK:2097152≤K) {c:x_6} (h:x_c9 c):Tot (x_rg K c) fun r=>LSy r.1∧x_c9 r.2.1:=by
 unfold x_rg x_io
 refine tb (Q:=fun r=>LSy r.1∧r.1.2.2.length≤6∧x_c9 r.2.1) ?_ fun v1 g1=>tb (x_af g1.2.2 14 (by decide)) fun v2 g2=>?_
 ·refine tb (x_af h 3 (by decide)) fun v1 g1=>tb (x_af g1.2.2 2 (by decide)) fun v2 g2=>tb (x_g7 hK g2.2.2 _ 6 (by decide)) fun v3 g3=>tr ⟨⟨⟨by show v3.1.length<_;omega,g3.2.1⟩,⟨by show -9223372036854775808≤v1.1;omega,by show v1.1≤1000000;omega⟩⟩,by show v3.1.length≤6;omega,g3.2.2⟩
 obtain ⟨⟨lz,lb⟩,l6,_⟩:=g1
 refine ti (fun _=>tb (x_ax g2.2.2 _ (by decide)) fun v3 g3=>tr ⟨⟨lz,?_⟩,g3.2⟩) fun _=>ti (fun _=>tb (x_ax g2.2.2 _ (by decide)) fun v3 g3=>tr ⟨⟨lz,lb⟩,g3.2⟩) fun _=>ti (fun _=>?_) fun _=>tr ⟨⟨lz,lb⟩,g2.2.2⟩
 ·have e:=g3.1
  simp only [mem_cons,List.not_mem_nil,or_false] at e
  show -9223372036854775808≤v3.1∧v3.1≤1000000
  omega
 ·refine tb (x_af g2.2.2 5 (by decide)) fun v5 g5=>tb (x_eo g5.2.2) fun v6 g6=>tb (x_mn g6.2 _ g6.1) fun v7 g7=>tc (by show _≤70368744177664;(try dsimp only);(try simp only [ll_]);omega) (tr ⟨⟨⟨?_,fun x hx=>?_⟩,lb⟩,g7.2⟩)
  ·show (v1.1.2.2++[_]).length<_
   rw [length_append,length_singleton];omega
  ·have hx:x∈v1.1.2.2++[_]:=hx
   rw [mem_append,mem_singleton] at hx
   rcases hx with hx | rfl
   ·exact lz.2 x hx
   ·exact g7.1
theorem u_l6Draw (hK:2097152≤K) {c:x_6} (h:x_c9 c):Tot (x_qm K c) fun r=>KSz r.2.1∧x_c9 r.2.2.1:=by
 unfold x_qm
 refine tb (x_iu hK h) fun v1 g1=>tb (x_af g1.2.2 16 (by decide)) fun v2 g2=>?_
 have hr:=g1.2.1.2.1
 have hs:=g1.1.1
 have hg:=g1.2.1.2.2.1
 have hd:=g1.2.1.2.2.2.1
 have hl:=g1.2.1.2.2.2.2.1
 have hm:=g1.2.1.ms.1
 obtain ⟨z1,z2,z3,z4,z5,z6,z7,z8⟩:=g1.2.1.sz (by decide)
 have sz:KSz v1.2.1:=⟨z1,z2,z3,z4,z5,z6,z7,z8⟩
 have pk:∀ l:List Int,0<l.length→Tot (x_7 v2.2.1 l) fun r=>x_c9 r.2.1:=fun l hl=>(x_ax g2.2.2 l hl).mono fun r g=>g.2
 refine ti (fun _=>tb (t_l1Draw g2.2.2) fun v g=>tr ⟨sz,g⟩) fun _=>ti (fun _=>tb (u_l3Draw hK g2.2.2) fun v g=>tc (by omega) (tr ⟨⟨?_,fun r hr=>?_,z3,z4,z5,z6,z7,z8⟩,g.2⟩)) fun _=>ti (fun _=>tb (u_l4Draw hK g2.2.2) fun v g=>tc (by show _≤70368744177664;(try dsimp only);(try simp only [ll_]);omega) (tr ⟨⟨z1,z2,⟨?_,fun m hm=>?_⟩,z4,z5,z6,z7,z8⟩,g.2⟩)) fun _=>ti (fun _=>tb (u_l5Draw hK g2.2.2) fun v g=>tc (by omega) (tr ⟨⟨z1,z2,z3,?_,fun q hq=>?_,z6,z7,z8⟩,g.2⟩)) fun _=>ti (fun _=>tb (pk _ (by decide)) fun v g=>tc (by omega) (tr ⟨⟨z1,z2,z3,z4,z5,?_,z7,z8⟩,g⟩)) fun _=>ti (fun _=>tb (x_af g2.2.2 12 (by decide)) fun v8 g8=>tb (x_ax g8.2.2 _ (by decide)) fun v9 g9=>tc (by omega) (tr ⟨⟨z1,z2,z3,z4,z5,z6,?_,fun a ha=>?_⟩,g9.2⟩)) fun _=>ti (fun _=>tb (pk _ (by decide)) fun v g=>tr ⟨⟨z1,z2,z3,z4,z5,z6,z7,z8⟩,g⟩) fun _=>tr ⟨sz,g2.2.2⟩
 ·show (v1.2.1.1.set 0 _).length<_
  rw [length_set];exact z1
 ·rcases x_ma hr with hr | rfl
  ·exact z2 r hr
  ·exact g.1
 ·show (v1.2.1.2.1++[_]).length<_
  rw [length_append,length_singleton];omega
 ·have hm:m∈v1.2.1.2.1++[_]:=hm
  rw [mem_append,mem_singleton] at hm
  rcases hm with hm | rfl
  ·exact z3.2 m hm
  ·exact g.1
 ·show (v1.2.1.2.2.1.set 0 _).length<_
  rw [length_set];exact z4
 ·rcases x_ma hq with hq | rfl
  ·exact z5 q hq
  ·exact g.1
 ·show (v1.2.1.2.2.2.2.1.set 0 _).length<_
  rw [length_set];exact z6
 ·show (v1.2.1.2.2.2.2.2.set 1 _).length<_
  rw [length_set];exact z7
 ·rcases x_ma ha with ha | rfl
  ·exact z8 a ha
  ·exact ⟨by show ByteArray.empty.size<_;decide,by show ByteArray.empty.size<_;decide⟩
theorem u_l11Draw (hK:2097152≤K) {c:x_6} (h:x_c9 c):Tot (x_mt K c) fun r=>HSy r.2.1∧x_c9 r.2.2.1:=by
 unfold x_mt
 refine tb (x_qq hK h) fun v1 g1=>tb (x_af g1.2 14 (by decide)) fun v2 g2=>?_
 have ok:=g1.1.sz.sy
 exact ti (fun _=>tb (x_ax g2.2.2 _ (by decide)) fun v3 g3=>tr ⟨ok,g3.2⟩) fun _=>ti (fun _=>tb (x_ax g2.2.2 _ (by decide)) fun v3 g3=>tr ⟨ok,g3.2⟩) fun _=>ti (fun _=>tb (u_l8Draw hK g2.2.2) fun v g=>tr ⟨⟨g.1,ok.2⟩,g.2⟩) fun _=>ti (fun _=>tb (u_l6Draw hK g2.2.2) fun v g=>tr ⟨⟨ok.1,g.1⟩,g.2⟩) fun _=>tr ⟨ok,g2.2.2⟩
theorem x_sp (hK:2097152≤K) {c:x_6} (h:x_c9 c):Tot (x_a7 K c) fun r=>(r.1.length≤200000∧BOk r.1)∧x_c9 r.2.1:=by
 unfold x_a7 x_a7.b
 refine l3_ (L:=x_a7.l0 K c) (fun _ _ _ _=>rfl) (fun m q x y=>(∃ i:Nat,x=i∧i+m=4∧q.length≤34400*i)∧x_c9 y∧BOk q) (fun m q x y L' hi kk=>?_) (m:=4) (by omega) ⟨⟨0,rfl,rfl,Nat.le_refl _⟩,h, .nil⟩
 obtain ⟨⟨i,rfl,hm,hq⟩,hy,hb⟩:=hi
 unfold x_a7.l0b
 refine tb (x_af hy 4 (by decide)) fun v1 g1=>ti (fun a=>?_) fun _=>tr ⟨⟨by show q.length≤_;omega,hb⟩,g1.2.2⟩
 rw [wi (i:=i) (by omega)]
 refine tb (x_s0 hK g1.2.2) fun v2 g2=>tb (x_hu hK _ g2.1) fun v3 g3=>?_
 have g3l:=g3.2.2.2
 exact tc (by show _≤70368744177664;(try dsimp only);(try simp only [ll_]);omega) (kk (m-1) _ _ _ (by omega) ⟨⟨i+1,by push_cast;rfl,by omega,by rw [length_append];omega⟩,g2.2,hb.app g3.2.2.1⟩)
theorem u_l10Draw (hK:2097152≤K) {c:x_6} (h:x_c9 c):Tot (x_mx K c) fun r=>(r.1.1.length≤2000000∧BOk r.1.1)∧x_c9 r.2.1:=by
 unfold x_mx
 refine tb (x_sp hK h) fun v1 g1=>?_
 have hl:=g1.1.1
 have ok:v1.1.length≤2000000∧BOk v1.1:=⟨by omega,g1.1.2⟩
 rw [w6 (n:=((v1.1.length:Nat):Int)+1) (by omega) (by omega)]
 refine tb (x_af g1.2 _ (by omega)) fun v2 g2=>tb (x_af g2.2.2 14 (by decide)) fun v3 g3=>ti (fun _=>tb (x_ax g3.2.2 _ (by show (0:Nat)<2;decide)) fun v g=>tr ⟨ok,g.2⟩) fun _=>ti (fun _=>tb (x_af g3.2.2 2 (by decide)) fun v5 g5=>?_) fun _=>tr ⟨ok,g3.2.2⟩
 rw [w6 (n:=80000+v5.1) (by omega) (by omega)]
 refine tc rfl (tc (by omega) (tc (by show _≤70368744177664;(try dsimp only);(try simp only [ll_]);omega) (tr ⟨⟨?_,fun x hx=>?_⟩,g5.2.2⟩)))
 ·show (List.replicate (Int.toNat (80000+v5.1)) (0:Int)).length≤_
  rw [length_replicate];omega
 ·rw [(List.mem_replicate.1 hx).2];decide
theorem x_nv (hK:2097152≤K) {c:x_6} (h:x_c9 c):Tot (x_dv K c) fun r=>RpSz r.1∧x_c9 r.2.1:=by
 unfold x_dv
 refine tb (x_af h 5 (by decide)) fun v1 g1=>tb (x_af g1.2.2 3 (by decide)) fun v2 g2=>tb (x_af g2.2.2 3 (by decide)) fun v3 g3=>tb (x_af g3.2.2 4 (by decide)) fun v4 g4=>tb (x_af g4.2.2 5 (by decide)) fun v5 g5=>tb (x_af g5.2.2 3 (by decide)) fun v6 g6=>tb (x_af g6.2.2 4 (by decide)) fun v7 g7=>tb (x_nj g7.2.2 _) fun v8 g8=>?_
 have j:∀ (u:x_6×Unit) l,x_c9 u.1→EsSz l→Tot (x_dv.j0 K v1 u v2 v3 v4 v5 v6 v7 l v8) fun r=>RpSz r.1∧x_c9 r.2.1:=fun u l hu hl=>by
  unfold x_dv.j0
  exact ti (fun _=>tb (x_iu hK hu) fun v12 g12=>tb (x_jf hK _ _ g12.2.1 (by decide)) fun v13 _=>tr ⟨hl,g12.2.2⟩) fun _=>tr ⟨hl,hu⟩
 exact ti (fun _=>tb (x_g7 hK g8 _ 3 (by decide)) fun v9 g9=>j _ _ g9.2.2 ⟨by have:=g9.1;omega,g9.2.1⟩) fun _=>j _ _ g8 EsSz.nil
theorem u_l12Draw (hK:2097152≤K) {c:x_6} (h:x_c9 c):Tot (x_m3 K c) fun r=>(SOk r.1∧NSy r.2.1)∧x_c9 r.2.2.2.1:=by
 unfold x_m3
 refine tb (x_k5 hK h) fun v1 g1=>?_
 have hs:=g1.1.2.2.1
 have hsz:=g1.1.2.1
 have hp:=g1.1.1
 refine ti (fun a=>by omega) fun _=>tb (x_af g1.2 _ (by omega)) fun v2 g2=>t2_ (by omega) (?_)
 have hn:=g1.1.at (i:=Int.toNat v2.1) (by omega)
 refine tv (x_fv hK _ hn.nsz) (tb (x_af g2.2.2 18 (by decide)) fun v4 g4=>?_)
 have ok:=hn.sy
 obtain ⟨n1,n2,n3,n4,n5,n6,n7,n8⟩:=hn.sy
 have hnx:=hn.2.2.1.2.1
 have pk:∀ l:List Int,0<l.length→Tot (x_7 v4.2.1 l) fun r=>x_c9 r.2.1:=fun l hl=>(x_ax g4.2.2 l hl).mono fun r g=>g.2
 refine ti (fun _=>tb (pk _ (by decide)) fun v g=>tr ⟨⟨hp,ok⟩,g⟩) fun _=>ti (fun _=>tb (u_l11Draw hK g4.2.2) fun v g=>tr ⟨⟨hp,g.1,ok.2⟩,g.2⟩) fun _=>ti (fun _=>tb (pk _ (by decide)) fun v g=>tr ⟨⟨hp,ok⟩,g⟩) fun _=>ti (fun _=>tb (pk _ (by decide)) fun v g=>tc (by show (0:Int)<(((v1.1.2.2.1.getD (Int.toNat v2.1) x_bx).2.2.2.2.1.length:Nat):Int);omega) (tr ⟨⟨hp,n1,n2,n3,?_,n5,n6,n7,n8⟩,g⟩)) fun _=>ti (fun _=>tb (u_l10Draw hK g4.2.2) fun v g=>tr ⟨⟨hp,n1,n2,n3,n4,n5,g.1,n7,n8⟩,g.2⟩) fun _=>ti (fun _=>tb (x_af g4.2.2 5 (by decide)) fun v g=>tr ⟨⟨hp,ok⟩,g.2.2⟩) fun _=>ti (fun _=>tb (x_nv hK g4.2.2) fun v g=>tc (by show _≤70368744177664;(try dsimp only);(try simp only [ll_]);omega) (tr ⟨⟨hp,n1,n2,n3,n4,n5,n6,?_,fun r hr=>?_⟩,g.2⟩)) fun _=>tr ⟨⟨hp,ok⟩,g4.2.2⟩
 ·show ((v1.1.2.2.1.getD (Int.toNat v2.1) x_bx).2.2.2.2.1.set 0 _).length<_
  rw [length_set];exact n4
 ·show ((v1.1.2.2.1.getD (Int.toNat v2.1) x_bx).2.2.2.2.2.2.2.2.2++[_]).length<_
  have:=hn.2.2.2.2.2.2.1
  rw [length_append,length_singleton];omega
 ·have hr:r∈(v1.1.2.2.1.getD (Int.toNat v2.1) x_bx).2.2.2.2.2.2.2.2.2++[_]:=hr
  rw [mem_append,mem_singleton] at hr
  rcases hr with hr | rfl
  ·exact n8 r hr
  ·exact g.1
def WSy (w:x_u):Prop:=SOk w.1∧(0≤w.2.1∧w.2.1≤6)∧w.2.2.1.length<2097152∧(∀ n∈w.2.2.1,NSy n)∧w.2.2.2.1.length<2097152∧(∀ r∈w.2.2.2.1,RpSz r)∧(w.2.2.2.2.1.length<2097152∧ ∀ c∈w.2.2.2.2.1,CSz c)∧w.2.2.2.2.2.1.length<2097152∧(w.2.2.2.2.2.2.1.length<2097152∧ ∀ h∈w.2.2.2.2.2.2.1,ASz h.2.2.1)∧w.2.2.2.2.2.2.2.length<2097152∧ ∀ c∈w.2.2.2.2.2.2.2,CSz c
theorem GI.sy {w:x_u} (h:GI w):WSy w:=by
 obtain ⟨h1,h2,h3,h4,h5,h6,h7,h8,h9⟩:=h
 exact ⟨h1,by omega,by omega,fun n hn=>(h4 n hn).sy,by omega,fun r hr=>(h5.2 r hr).sz,⟨by omega,h6.2⟩,by omega,⟨by omega,h8.2⟩,by omega,h9.2⟩
theorem u_l15Draw (hK:2097152≤K) {c:x_6} (h:x_c9 c):Tot (x_m6 K c) fun r=>WSy r.1∧x_c9 r.2.1:=by
 unfold x_m6
 refine tb (x_k5 hK h) fun v1 g1=>tb (x_af g1.2 18 (by decide)) fun v2 g2=>?_
 have ok:=g1.1.sy
 obtain ⟨⟨h1,h2,h3,h4,h5,h6,h7,h8,h9⟩,_⟩:=g1
 have h51:=h5.1
 have h61:=h6.1
 have h81:=h8.1
 have h91:=h9.1
 obtain ⟨o1,os,o2,o3,o4,o5,o6,o7,o8,o9,o10⟩:=ok
 refine ti (fun _=>tb (x_af g2.2.2 7 (by decide)) fun v g=>tr ⟨⟨o1,⟨g.1,by show v.1≤6;have:=g.2.1;omega⟩,o2,o3,o4,o5,o6,o7,o8,o9,o10⟩,g.2.2⟩) fun _=>ti (fun _=>tb (x_nv hK g2.2.2) fun v g=>tc (by show _≤70368744177664;(try dsimp only);(try simp only [ll_]);omega) (tr ⟨⟨o1,os,o2,o3,?_,fun r hr=>?_,o6,o7,o8,o9,o10⟩,g.2⟩)) fun _=>ti (fun _=>?_) fun _=>ti (fun _=>tb (x_eo g2.2.2) fun v8 g8=>tb (x_mn g8.2 _ g8.1) fun v9 g9=>tc (by omega) (tr ⟨⟨o1,os,o2,o3,o4,o5,⟨?_,fun y hy=>?_⟩,o7,o8,o9,o10⟩,g9.2⟩)) fun _=>ti (fun _=>tb (x_eo g2.2.2) fun v8 g8=>tb (x_mn g8.2 _ g8.1) fun v9 g9=>tc (by show _≤70368744177664;(try dsimp only);(try simp only [ll_]);omega) (tr ⟨⟨o1,os,o2,o3,o4,o5,o6,o7,o8,?_,fun y hy=>?_⟩,g9.2⟩)) fun _=>ti (fun _=>tb (u_l12Draw hK g2.2.2) fun v g=>tc (by omega) (tr ⟨⟨o1,os,?_,fun n hn=>?_,o4,o5,o6,o7,o8,o9,o10⟩,g.2⟩)) fun _=>ti (fun _=>tb (x_ax g2.2.2 _ (by decide)) fun v g=>tc (by omega) (tr ⟨⟨o1,os,o2,o3,o4,o5,o6,?_,o8,o9,o10⟩,g.2⟩)) fun _=>tr ⟨⟨o1,os,o2,o3,o4,o5,o6,o7,o8,o9,o10⟩,g2.2.2⟩
 ·show (v1.1.2.2.2.1++[_]).length<_
  rw [length_append,length_singleton];omega
 ·have hr:r∈v1.1.2.2.2.1++[_]:=hr
  rw [mem_append,mem_singleton] at hr
  rcases hr with hr | rfl
  ·exact o5 r hr
  ·exact g.1
 ·refine tb (x_af g2.2.2 5 (by decide)) fun v5 g5=>tb (x_af g5.2.2 4 (by decide)) fun v6 g6=>tb (x_af g6.2.2 9 (by decide)) fun v7 g7=>tc (by show _≤70368744177664;(try dsimp only);(try simp only [ll_]);omega) (tr ⟨⟨o1,os,o2,o3,o4,o5,o6,o7,⟨?_,fun y hy=>?_⟩,o9,o10⟩,g7.2.2⟩)
  ·show (v1.1.2.2.2.2.2.2.1++[_]).length<_
   rw [length_append,length_singleton];omega
  ·have hy:y∈v1.1.2.2.2.2.2.2.1++[_]:=hy
   rw [mem_append,mem_singleton] at hy
   rcases hy with hy | rfl
   ·exact o8.2 y hy
   ·exact ⟨by show ByteArray.empty.size<_;decide,by show ByteArray.empty.size<_;decide⟩
 ·show (v1.1.2.2.2.2.1.set 0 _).length<_
  rw [length_set];exact o6.1
 ·rcases x_ma hy with hy | rfl
  ·exact o6.2 y hy
  ·exact g9.1
 ·show (v1.1.2.2.2.2.2.2.2++[_]).length<_
  rw [length_append,length_singleton];omega
 ·have hy:y∈v1.1.2.2.2.2.2.2.2++[_]:=hy
  rw [mem_append,mem_singleton] at hy
  rcases hy with hy | rfl
  ·exact o10 y hy
  ·exact g9.1
 ·show (v1.1.2.2.1.set 0 _).length<_
  rw [length_set];exact o2
 ·rcases x_ma hn with hn | rfl
  ·exact o3 n hn
  ·exact g.1.2
 ·show (v1.1.2.2.2.2.2.1.set 1 _).length<_
  rw [length_set];exact o7
theorem bv8 {x:Int} (h:0≤x∧x≤255):(BitVec.ofInt (IntKind.bits .u8) x).toNat=x.toNat:=by
 show (BitVec.ofInt 8 x).toNat=_
 rw [BitVec.toNat_ofInt]
 congr 1
 rw [Int.emod_eq_of_lt h.1]
 show x<((2 ^ 8:Nat):Int)
 omega
theorem bv64 {x:Int} (h:0≤x∧x<34359738368):(BitVec.ofInt (IntKind.bits .i64) x).toNat=x.toNat:=by
 show (BitVec.ofInt 64 x).toNat=_
 rw [BitVec.toNat_ofInt]
 congr 1
 rw [Int.emod_eq_of_lt h.1]
 show x<((2 ^ 64:Nat):Int)
 omega
theorem and127 (n:Nat):n &&& 127=n % 128:=Nat.and_two_pow_sub_one_eq_mod n 7
theorem u8_and {x:Int} (h:0≤x∧x≤255):IntKind.u8.wrap ((BitVec.ofInt (IntKind.bits .u8) x &&& BitVec.ofInt (IntKind.bits .u8) 127).toNat:Int)=x % 128:=by
 rw [BitVec.toNat_and,bv8 h,bv8 (by decide),show (127:Int).toNat=127 from rfl,and127,w8 (by omega) (by omega)]
 omega
theorem u8_or {x:Int} (h:0≤x∧x≤127):IntKind.u8.wrap ((BitVec.ofInt (IntKind.bits .u8) x ||| BitVec.ofInt (IntKind.bits .u8) 128).toNat:Int)=x+128:=by
 have e:x.toNat ||| 128=128+x.toNat:=by
  rw [Nat.or_comm]
  have:=Nat.two_pow_add_eq_or_of_lt (i:=7) (b:=x.toNat) (by omega) 1
  simpa using this.symm
 rw [BitVec.toNat_or,bv8 (by omega),bv8 (by decide),show (128:Int).toNat=128 from rfl,e,w8 (by omega) (by omega)]
 omega
theorem ban_127 {x:Int} (h:0≤x∧x<34359738368):ban x 127=x % 128:=by
 show ((BitVec.ofInt (IntKind.bits .i64) x &&& BitVec.ofInt (IntKind.bits .i64) 127).toNat:Int)=_
 rw [BitVec.toNat_and,bv64 h,bv64 (by decide),show (127:Int).toNat=127 from rfl,and127]
 omega
theorem bor_add {x d:Int} {s:Nat} (hs:s≤28) (hx:0≤x∧x<2 ^ s) (hd:0≤d∧d<128):bor x (d*2 ^ s)=x+d*2 ^ s∧0≤d*2 ^ s∧d*2 ^ s<34359738368:=by
 obtain ⟨m,rfl⟩:=Int.eq_ofNat_of_zero_le hx.1
 obtain ⟨e,rfl⟩:=Int.eq_ofNat_of_zero_le hd.1
 have hp:(2:Nat) ^ s≤2 ^ 28:=Nat.pow_le_pow_right (by decide) hs
 have hx2:m<2 ^ s:=by have:=hx.2;exact_mod_cast this
 have hde:((e:Int)*2 ^ s)=((2 ^ s*e:Nat):Int):=by push_cast;rw [Int.mul_comm]
 have hle:2 ^ s*e<34359738368:=by
  have:2 ^ s*e≤2 ^ 28*127:=Nat.mul_le_mul hp (by omega)
  omega
 have hm:m<34359738368:=by omega
 refine ⟨?_,by rw [hde];omega,by rw [hde];omega⟩
 show ((BitVec.ofInt (IntKind.bits .i64) (m:Int) ||| BitVec.ofInt (IntKind.bits .i64) ((e:Int)*2 ^ s)).toNat:Int)=_
 rw [hde,BitVec.toNat_or,bv64 (by omega),bv64 (by omega),tz,tz,Nat.or_comm, ←Nat.two_pow_add_eq_or_of_lt hx2]
 push_cast;omega
theorem x_vf {K:Nat} (hK:2097152≤K) (n:Int):Tot (x_dw K n) fun x=>x.1=encN n:=by
 unfold x_dw x_dw.b encN
 refine tb (x_9 _ _ _) fun v1 g1=>tg g1 (fun a=>tr (by rw [if_neg a])) fun a=>?_
 rw [if_pos a]
 refine l2_ (L:=x_dw.l0 K n) (fun _ _ _=>rfl) (fun m x q=>0≤x∧x≤2147483647∧q.length+m≤100∧q++x_gy x.toNat=x_gy n.toNat∧x.toNat<128 ^ m) (fun m x q L' hi kk=>?_) (m:=5) (by omega) ⟨a.1,a.2,by simp,rfl,by omega⟩
 obtain ⟨h0,h1,hm,he,hp⟩:=hi
 unfold x_dw.l0b
 refine ti (fun h2=>?_) fun h2=>?_
 ·have hm0:0<m:=by
   rcases Nat.eq_zero_or_pos m with h | h
   ·subst h;simp at hp;omega
   ·exact h
  rw [ban_127 (by omega),w6 (n:=x % 128) (by omega) (by omega),w8 (n:=x % 128) (by omega) (by omega),u8_or (by omega)]
  have ed:Int.fdiv x (2 ^ 7)=x / 128:=by rw [Int.fdiv_eq_ediv_of_nonneg _ (by decide)];rfl
  rw [ed]
  refine tc (by show _≤70368744177664;(try dsimp only);(try simp only [ll_]);omega) (kk (m-1) _ _ (by omega) ⟨by omega,by omega,by simp;omega,?_,?_⟩)
  ·rw [←he,List.append_assoc]
   congr 1
   conv=>rhs;rw [x_gy]
   rw [if_neg (by omega)]
   have e1:(x / 128).toNat=x.toNat / 128:=by omega
   have e2:x % 128+128=((x.toNat % 128+128:Nat):Int):=by omega
   rw [e1,e2];rfl
  ·obtain ⟨m,rfl⟩ : ∃ k,m=k+1:=⟨m-1,by omega⟩
   rw [Nat.pow_succ] at hp
   have e1:(x / 128).toNat=x.toNat / 128:=by omega
   rw [e1,Nat.add_sub_cancel]
   omega
 ·rw [w8 (by omega) (by omega)]
  refine tc (by show _≤70368744177664;(try dsimp only);(try simp only [ll_]);omega) (tr ?_)
  show q++[x]=_
  rw [←he]
  congr 1
  rw [x_gy,if_pos (by omega),show ((x.toNat:Nat):Int)=x by omega]
theorem x_r9 {K:Nat} (hK:2097152≤K) (l:List Int) (h:l.length<200000):Tot (x_el K l) fun x=>x.1=x_i9 l:=by
 unfold x_el x_el.b
 refine l2_ (L:=x_el.l0 K l) (fun _ _ _=>rfl) (fun m q x=> ∃ i:Nat,x=i∧i+m=l.length∧q=(l.take i).flatMap encN∧q.length≤5*i) (fun m q x L' hi kk=>?_) (m:=l.length) (by omega) ⟨0,rfl,by omega,rfl,by simp⟩
 obtain ⟨i,rfl,hm,rfl,hq⟩:=hi
 unfold x_el.l0b
 rw [tz]
 refine ti (fun h1=>tc (by omega) (tc h1 ?_)) fun h1=>tr ?_
 ·have hi:i<l.length:=by omega
  have he:=(x_cd (l.getD i 0)).2
  refine tv (x_vf hK _) (tc (by show _≤70368744177664;(try dsimp only);(try simp only [ll_]);omega) ?_)
  rw [w6 (by omega) (by omega)]
  exact kk (m-1) _ _ (by omega) ⟨i+1,by push_cast;rfl,by omega,x_kz hi,by show (_++encN (l.getD i 0)).length≤_;rw [length_append];omega⟩
 ·rw [List.take_of_length_le (show l.length≤i by omega)];rfl
theorem x_la {K:Nat} (hK:2097152≤K) (s:ByteArray) (h:s.size<200000):Tot (x_fl K s) fun x=>x.1=encT s:=by
 unfold x_fl
 have h1:=(x_cd s.size).2
 have k:=(x_ga s).2
 exact tv (x_vf hK _) (tc (by show _≤70368744177664;(try dsimp only);(try simp only [ll_]);omega) (tr rfl))
theorem x_of {l:List (List Int)} {i:Nat}:((l.take i).flatMap fun x=>x).length≤(l.flatMap fun x=>x).length:=by
 conv=>rhs;rw [←List.take_append_drop i l,List.flatMap_append,length_append]
 omega
theorem x_lb {K:Nat} (hK:2097152≤K) (l:List (List Int)) (h:l.length<2000000) (hs:(l.flatMap fun x=>x).length<2000000):Tot (x_av K l) fun x=>x.1=l.flatMap fun x=>x:=by
 unfold x_av x_av.b
 refine l2_ (L:=x_av.l0 K l) (b:=fun L'=>x_av.l0b K l L' (x_av.l1 K l K)) (fun _ _ _=>rfl) (fun m x q=> ∃ i:Nat,q=i∧i+m=l.length∧x=(((l.take i).flatMap fun x=>x).length:Int)) (fun m x q L' hi kk=>?_) (m:=l.length) (by omega) ⟨0,rfl,by omega,rfl⟩
 obtain ⟨i,rfl,hm,rfl⟩:=hi
 unfold x_av.l0b
 rw [tz]
 have fl:∀ j,j<l.length→((l.take j).flatMap fun x=>x).length+(l.getD j []).length≤(l.flatMap fun x=>x).length∧((l.take j).flatMap fun x=>x)++l.getD j []=(l.take (j+1)).flatMap fun x=>x:=fun j hj=>by
  have e:=x_kz (f:=fun x:List Int=>x) (z:=([]:List Int)) hj
  refine ⟨?_,e⟩
  have:=congrArg List.length e
  rw [length_append] at this
  have:=x_of (l:=l) (i:=j+1)
  omega
 refine ti (fun h1=>tc (by omega) (tc h1 ?_)) fun h1=>?_
 ·have hi:i<l.length:=by omega
  obtain ⟨f1,f2⟩:=fl i hi
  rw [w6 (by omega) (by omega)]
  refine ti (fun a=>by omega) fun _=>?_
  rw [w6 (by omega) (by omega)]
  exact kk (m-1) _ _ (by omega) ⟨i+1,by push_cast;rfl,by omega,by rw [←f2,length_append];push_cast;rfl⟩
 ·have hll:=x_of (l:=l) (i:=i)
  refine tv (a:=[]) ?_ ?_
  ·unfold x_z6
   refine ti (fun a=>by omega) fun _=>?_
   rw [w6 (by omega) (by omega)]
   refine ti (fun a=>tc (by omega) (tc (by show _≤70368744177664;simp only [length_replicate,length_nil];omega) (tc (by omega) (tr ?_)))) fun _=>tr rfl
   simp
  ·refine l2_ (L:=x_av.l1 K l) (fun _ _ _=>rfl) (fun m q x=> ∃ i:Nat,x=i∧i+m=l.length∧q=(l.take i).flatMap fun x=>x) (fun m q x L' hi kk=>?_) (m:=l.length) (by omega) ⟨0,rfl,by omega,rfl⟩
   obtain ⟨i,rfl,hm,rfl⟩:=hi
   unfold x_av.l1b
   rw [tz]
   refine ti (fun h1=>tc (by omega) (tc h1 ?_)) fun h1=>tr ?_
   ·obtain ⟨f1,f2⟩:=fl i (by omega)
    refine tc (by show _≤70368744177664;omega) ?_
    rw [w6 (by omega) (by omega)]
    exact kk (m-1) _ _ (by omega) ⟨i+1,by push_cast;rfl,by omega,f2⟩
   ·rw [List.take_of_length_le (show l.length≤i by omega)]
theorem x_w6 {K:Nat} (hK:2097152≤K) (c:TCmd) (h:CSz c):Tot (x_k0 K c) fun x=>(COk c→x.1=encC c)∧(¬ COk c→x.1=[]):=by
 unfold x_k0
 refine tb (x_j0 hK c h) fun v g=>tg g (fun a=>tr ⟨fun k=>absurd k a,fun _=>rfl⟩) fun a=>?_
 have hw:=a.who
 have h1:=(x_ez [c.1+1,c.2.1,c.2.2.1,c.2.2.2.1,c.2.2.2.2.1,c.2.2.2.2.2.1]).2
 have h2:=(x_f9 c.2.2.2.2.2.2.1).2
 have h3:=(x_f9 c.2.2.2.2.2.2.2).2
 have h4:=a.tx
 simp only [length_cons,length_nil] at h1
 rw [w6 (n:=c.1+1) (by omega) (by omega)]
 refine tv (x_r9 hK _ (by simp)) (tv (x_la hK _ (by omega)) (tv (x_la hK _ (by omega)) ?_))
 refine tv (x_lb hK _ (by simp) (by simp only [List.flatMap_cons,List.flatMap_nil,length_append,length_nil];omega)) (tr ⟨fun _=>?_,fun k=>absurd a k⟩)
 unfold encC
 simp only [List.flatMap_cons,List.flatMap_nil,List.append_nil,List.append_assoc]
theorem x_wr (l:List Int) (x:Int):sumL (l++[x])=(((sumL l).1+x) % 65521,((sumL l).2+((sumL l).1+x) % 65521) % 65521):=by
 unfold sumL
 rw [List.foldl_append];rfl
theorem ti_SumOf {K:Nat} (hK:2097152≤K) (l:List Int) (h:l.length<200000) (hb:BOk l):Tot (x_fd K l) fun x=>x.1=(sumL l).2*65536+(sumL l).1:=by
 unfold x_fd x_fd.b
 refine l3_ (L:=x_fd.l0 K l) (fun _ _ _ _=>rfl) (fun m x y q=> ∃ i:Nat,q=i∧i+m=l.length∧x=(sumL (l.take i)).1∧y=(sumL (l.take i)).2) (fun m x y q L' hi kk=>?_) (m:=l.length) (by omega) ⟨0,rfl,by omega,rfl,rfl⟩
 obtain ⟨i,rfl,hm,rfl,rfl⟩:=hi
 unfold x_fd.l0b
 rw [tz]
 have hx:=x_s1 (l.take i) fun x hx=>hb x (List.mem_of_mem_take hx)
 refine ti (fun h1=>tc (by omega) (tc h1 ?_)) fun h1=>tr ?_
 ·have hi:i<l.length:=by omega
  have hd:=hb _ (x_ad (z:=(0:Int)) hi)
  have e:=x_wr (l.take i) (l.getD i 0)
  rw [x_d1 hi] at e
  rw [w6 (n:=l.getD i 0) (by omega) (by omega),w6 (n:=(sumL (l.take i)).1+l.getD i 0) (by omega) (by omega),Int.tmod_eq_emod_of_nonneg (by omega),w6 (n:=(sumL (l.take i)).2+((sumL (l.take i)).1+l.getD i 0) % 65521) (by omega) (by omega),Int.tmod_eq_emod_of_nonneg (by omega),wi (i:=i) (by omega)]
  exact kk (m-1) _ _ _ (by omega) ⟨i+1,by push_cast;rfl,by omega,by rw [e],by rw [e]⟩
 ·rw [List.take_of_length_le (show l.length≤i by omega)] at hx ⊢
  show i6 (i6 ((sumL l).2*65536)+(sumL l).1)=_
  rw [w6 (n:=(sumL l).2*65536) (by omega) (by omega),w6 (by omega) (by omega)]
theorem cf_note {K:Nat} (hK:2097152≤K) (l:List x_c6) (h:EsSz l):Tot (x_cv K l) fun x=>Is (!x.1) (∀ i,i<l.length→(0≤(l.getD i x_ay).1∧(l.getD i x_ay).1≤300)∧COk (l.getD i x_ay).2):=by
 obtain ⟨hl,hz⟩:=h
 unfold x_cv x_2 x_2.b
 let P:Nat→Prop:=fun i=>(0≤(l.getD i x_ay).1∧(l.getD i x_ay).1≤300)∧COk (l.getD i x_ay).2
 have:Tot (x_2.l0 K l K 0) fun x=>Srch x.1 (∀ i,i<l.length→P i):=by
  refine tA (L:=x_2.l0 K l) (fun _ _=>rfl) l.length P (fun i L' hi k ha=>?_) (fun L' ha=>?_) (by omega)
  ·unfold x_2.l0b x_og
   rw [tz,wi (i:=i) (by omega)]
   refine ti (fun h1=>tc (by omega) (tc h1 ?_)) fun h1=>absurd (show (i:Int)<((l.length:Nat):Int) by omega) h1
   refine tb (Q:=fun v=>Is v.1 (¬ P i)) (tb (x_9 _ _ _) fun v1 g1=>tg g1 (fun a=>tr (x_eg fun h=>a h.1)) fun a1=>tb (x_j0 hK _ (hz _ (x_ad hi))) fun v2 g2=>tr ?_) fun v g=>?_
   ·exact ⟨fun h hp=>(Is.neg g2).1 h hp.2,fun h=>(Is.neg g2).2 fun h2=>h ⟨a1,h2⟩⟩
   exact tf g (fun a1=>tr ⟨fun _ h2=>a1 (h2 i hi),fun h2=>by omega⟩) fun a1=>k (Classical.not_not.1 a1)
  ·unfold x_2.l0b
   exact ti (fun h1=>absurd h1 (by omega)) fun h1=>tr ⟨fun h2=>absurd (show (0:Int)≤ -1 from h2) (by decide),fun _=>ha⟩
 exact tb this fun v g=>tr g.is
theorem x_p4 {K:Nat} (hK:2097152≤K) (r:x_df) (h:EsSz r.2.2.2.2.1):Tot (x_ly K r) fun x=>Is x.1 (NtOk r):=by
 unfold x_ly
 refine tb (x_9 _ _ _) fun v1 g1=>tg g1 (fun a=>tr (x_a fun h=>a h.1)) fun a1=>?_
 refine tb (x_9 _ _ _) fun v2 g2=>tg g2 (fun a=>tr (x_a fun h=>a h.2.1)) fun a2=>?_
 refine ti (fun a=>tr (x_a fun h=>by have:=h.2.2.1.2;omega)) fun a3=>ti (fun a=>tr (x_a fun h=>by have:=h.2.2.2.1;omega)) fun a4=>?_
 refine tb (cf_note hK _ h) fun v3 g3=>tf (Is.not g3) (fun a=>tr (x_a fun h=>a h.2.2.1.1)) fun a5=>?_
 have a5:=Classical.not_not.1 a5
 have hl:EsOk r.2.2.2.2.1 300:=⟨a5,by omega⟩
 have kind:∀ {q:Prop},NtOk r→((r.1=1∧(-1≤r.2.2.1∧r.2.2.1≤4)∧r.2.2.2.1=0∧r.2.2.2.2.1=[]∧r.2.2.2.2.2=ByteArray.empty)∨(r.1=2∧r.2.2.1=0∧r.2.2.2.2.2=ByteArray.empty)∨(r.1=3∧r.2.2.1=0∧r.2.2.2.2.1=[])→q)→q:=fun h k=>k h.2.2.2.2
 have e0:∀ {l:List x_c6},(l.length:Int)=0↔l=[]:=fun {l} =>⟨fun h=>List.length_eq_zero_iff.1 (by omega),fun h=>by rw [h];rfl⟩
 refine ti (fun k1=>?_) fun k1=>ti (fun k2=>?_) fun k2=>ti (fun k3=>?_) fun k3=>tr (x_a fun h=>kind h fun h=>by rcases h with h | h | h<;>omega)
 ·refine tb (x_9 _ _ _) fun v4 g4=>tf g4 (fun b1=>?_) fun a=>tr (x_a fun h=>kind h fun h=>by rcases h with h | h | h;exact a h.2.1;omega;omega)
  refine ti (fun b2=>ti (fun b3=>tr ?_) fun a=>tr (x_a fun h=>kind h fun h=>by rcases h with h | h | h;exact a (e0.2 h.2.2.2.1);omega;omega)) fun a=>tr (x_a fun h=>kind h fun h=>by rcases h with h | h | h;exact a h.2.2.1;omega;omega)
  exact ⟨fun h=>⟨a1,a2,hl,by omega, .inl ⟨k1,b1,b2,e0.1 b3,(x_nr _).1 h⟩⟩,fun h=>(x_nr _).2 (kind h fun h=>by rcases h with h | h | h;exact h.2.2.2.2;omega;omega)⟩
 ·refine ti (fun b1=>tr ?_) fun a=>tr (x_a fun h=>kind h fun h=>by rcases h with h | h | h;omega;exact a h.2.1;omega)
  exact ⟨fun h=>⟨a1,a2,hl,by omega, .inr (.inl ⟨k2,b1,(x_nr _).1 h⟩)⟩,fun h=>(x_nr _).2 (kind h fun h=>by rcases h with h | h | h;omega;exact h.2.2;omega)⟩
 ·refine ti (fun b1=>tr ?_) fun a=>tr (x_a fun h=>kind h fun h=>by rcases h with h | h | h;omega;omega;exact a h.2.1)
  exact ⟨fun h=>⟨a1,a2,hl,by omega, .inr (.inr ⟨k3,b1,e0.1 (of_decide_eq_true h)⟩)⟩,fun h=>decide_eq_true (e0.2 (kind h fun h=>by rcases h with h | h | h;omega;omega;exact h.2.2))⟩
theorem fsh {x:Int} (h:0≤x) (k:Nat):Int.fdiv x (2 ^ k)=x / 2 ^ k:=Int.fdiv_eq_ediv_of_nonneg _ (Int.le_of_lt (Int.pow_pos (by decide)))
theorem u8_mod {x:Int} (h:0≤x∧x<4294967296):IntKind.u8.wrap x=x % 256:=by
 simp only [IntKind.wrap,IntKind.bits,IntKind.signed]
 simp
theorem x_vo {a b:Int} (ha:0≤a∧a<65521) (hb:0≤b∧b<65521):[IntKind.u8.wrap (b*65536+a),IntKind.u8.wrap ((b*65536+a) / 256),IntKind.u8.wrap ((b*65536+a) / 65536),IntKind.u8.wrap ((b*65536+a) / 16777216)]=[a % 256,a / 256,b % 256,b / 256]:=by
 rw [u8_mod (by omega),u8_mod (by omega),u8_mod (by omega),u8_mod (by omega)]
 have e1:(b*65536+a) % 256=a % 256:=by omega
 have e2:(b*65536+a) / 256 % 256=a / 256:=by omega
 have e3:(b*65536+a) / 65536 % 256=b % 256:=by omega
 have e4:(b*65536+a) / 16777216 % 256=b / 256:=by omega
 rw [e1,e2,e3,e4]
theorem x_oy {K:Nat} (hK:2097152≤K) (r:x_df) (h:EsSz r.2.2.2.2.1):Tot (x_a8 K r) fun x=>(NtOk r→x.1=x_h3 r)∧(¬ NtOk r→x.1=[]):=by
 unfold x_a8 x_a8.b
 refine tb (x_p4 hK r h) fun v1 g1=>tg g1 (fun a=>tr ⟨fun k=>absurd k a,fun _=>rfl⟩) fun a=>?_
 have hk:0≤r.1∧r.1≤3:=by rcases a.2.2.2.2 with h | h | h<;>omega
 have hv : -1≤r.2.2.1∧r.2.2.1≤4:=by rcases a.2.2.2.2 with h | h | h<;>omega
 have hl:=a.2.2.1.2
 have hc:=a.2.2.1.cok
 have hs:=a.2.2.2.1
 rw [w6 (n:=r.2.2.1+1) (by omega) (by omega)]
 refine tb (x_r9 hK _ (by simp)) fun v2 g2=>?_
 have h0:=(x_ez [r.1,r.2.1,r.2.2.1+1,r.2.2.2.1,(r.2.2.2.2.1.length:Int)]).2
 simp only [length_cons,length_nil] at h0
 refine l2_ (L:=x_a8.l0 K r) (fun _ _ _=>rfl) (fun m q x=> ∃ i:Nat,x=i∧i+m=r.2.2.2.2.1.length∧q.1=x_i9 [r.1,r.2.1,r.2.2.1+1,r.2.2.2.1,(r.2.2.2.2.1.length:Int)]++(r.2.2.2.2.1.take i).flatMap encE) (fun m q x L' hi kk=>?_) (m:=r.2.2.2.2.1.length) (by omega) ⟨0,rfl,by omega,by rw [g2];simp⟩
 obtain ⟨i,rfl,hm,hq⟩:=hi
 have ht:=(x_rm (l:=r.2.2.2.2.1.take i) fun e he=>hc e (List.mem_of_mem_take he)).2
 rw [length_take] at ht
 unfold x_a8.l0b
 rw [tz]
 refine ti (fun h1=>tc (by omega) (tc h1 ?_)) fun h1=>?_
 ·have hi:i<r.2.2.2.2.1.length:=by omega
  have hci:=hc _ (x_ad (z:=x_ay) hi)
  have he:=(x_ez [(r.2.2.2.2.1.getD i x_ay).1]).2
  have hb:=(x_z1 hci).2
  simp only [length_cons,length_nil] at he
  refine tv (x_r9 hK _ (by simp)) (tb (x_w6 hK _ (h.2 _ (x_ad hi))) fun v4 g4=>?_)
  have g4:=g4.1 hci
  refine tb (x_lb hK _ (by simp) (by simp only [List.flatMap_cons,List.flatMap_nil,length_append,length_nil,hq,g4];omega)) fun v5 g5=>?_
  rw [w6 (by omega) (by omega)]
  refine kk (m-1) _ _ (by omega) ⟨i+1,by push_cast;rfl,by omega,?_⟩
  rw [g5, ←x_kz (f:=encE) (z:=x_ay) hi]
  simp only [List.flatMap_cons,List.flatMap_nil,List.append_nil,hq,g4,List.append_assoc]
  unfold encE x_i9
  simp only [List.flatMap_cons,List.flatMap_nil,List.append_nil]
 ·have hz:=(x_f9 r.2.2.2.2.2).2
  rw [List.take_of_length_le (show r.2.2.2.2.1.length≤i by omega)] at hq
  have hB:q.1++encT r.2.2.2.2.2=x_cp r:=by
   rw [hq]
   unfold x_cp x_i9
   simp only [List.flatMap_cons,List.flatMap_nil,List.append_nil,List.append_assoc]
  have hbo:=x_ho a
  have hbl:=hbo.2
  refine tv (x_la hK _ (by omega)) (tc (by show (q.1.length+(encT r.2.2.2.2.2).length)*2≤70368744177664;have:=congrArg List.length hB;rw [length_append] at this;omega) ?_)
  dsimp only
  rw [hB]
  have hin:=x_s1 (x_cp r) hbo.1
  refine tv (ti_SumOf hK _ (by omega) hbo.1) (tv (x_r9 hK _ (by simp)) ?_)
  have hn:=(x_ez [((x_cp r).length:Int)]).2
  simp only [length_cons,length_nil] at hn
  refine tv (x_lb hK _ (by simp) (by simp only [List.flatMap_cons,List.flatMap_nil,length_append,length_nil,length_cons];omega)) (tr ⟨fun _=>?_,fun k=>absurd a k⟩)
  dsimp only
  rw [fsh (by omega),fsh (by omega),fsh (by omega)]
  have e:=x_vo hin.1 hin.2
  unfold x_h3 sum4
  rw [←e]
  unfold x_i9
  simp only [List.flatMap_cons,List.flatMap_nil,List.append_nil,List.append_assoc]
  rfl
def GN (b:List Int) (a:Int) (o:Int×Int×Bool×Unit):Prop:=match decN (b.drop a.toNat) with
 | some q=>o=(q.1,(b.length:Int)-(q.2.length:Int),true,())
 | none=>o=(0,0,false,())
def GJ (b:List Int) (a k v:Nat):Prop:=v<2 ^ (7*k)∧decF 5 true (b.drop a)=(decF (5-k) (decide (k=0)) (b.drop (a+k))).map fun r=>(v+2 ^ (7*k)*r.1,r.2)
theorem GJ.zero (b:List Int) (a:Nat):GJ b a 0 0:=by
 refine ⟨by decide,?_⟩
 show decF 5 true (b.drop a)=(decF 5 true (b.drop (a+0))).map _
 rw [Nat.add_zero]
 cases decF 5 true (b.drop a) with
 | none=>rfl
 | some r=>simp
theorem GN.no {b:List Int} {a:Int} (h:decN (b.drop a.toNat)=none):GN b a (0,0,false,()):=by
 unfold GN;rw [h]
theorem GJ.fin {b:List Int} {a k v:Nat} (h:GJ b a k v) (hk:5≤k∨b.length≤a+k):GN b (a:Int) (0,0,false,()):=by
 refine GN.no ?_
 unfold decN
 rw [tz,h.2]
 have:decF (5-k) (decide (k=0)) (b.drop (a+k))=none:=by
  rcases hk with hk | hk
  ·rw [show 5-k=0 by omega];rfl
  ·rw [List.drop_of_length_le hk]
   cases 5-k<;>rfl
 rw [this];rfl
theorem dropc {b:List Int} {n:Nat} (h:n<b.length):b.drop n=b.getD n 0::b.drop (n+1):=by
 rw [x_az h];exact List.drop_eq_getElem_cons h
theorem GJ.at {b:List Int} {a k v:Nat} (h:GJ b a k v) (hk:k<5) (hl:a+k<b.length) (hx:b.getD (a+k) 0<128):decN (b.drop a)=if k≠0∧b.getD (a+k) 0=0 then none else if v+2 ^ (7*k)*(b.getD (a+k) 0).toNat≤2147483647 then some (((v+2 ^ (7*k)*(b.getD (a+k) 0).toNat:Nat):Int),b.drop (a+k+1)) else none:=by
 unfold decN
 rw [h.2,dropc hl]
 obtain ⟨f,hf⟩ : ∃ f,5-k=f+1:=⟨4-k,by omega⟩
 rw [hf]
 unfold decF
 rw [if_pos hx]
 by_cases h0:k≠0∧b.getD (a+k) 0=0
 ·rw [if_pos h0,if_pos ⟨by simp [h0.1],h0.2⟩];rfl
 ·rw [if_neg h0,if_neg (fun h=>h0 ⟨by simpa using h.1,h.2⟩)];rfl
theorem GJ.yes {b:List Int} {a k v:Nat} (h:GJ b a k v) (hk:k<5) (hl:a+k<b.length) (hx:b.getD (a+k) 0<128) (h0:¬ (k≠0∧b.getD (a+k) 0=0)) {w e:Int} (hw:w=((v+2 ^ (7*k)*(b.getD (a+k) 0).toNat:Nat):Int)) (hm:w≤2147483647) (he:e=(a:Int)+(k:Int)+1):GN b (a:Int) (w,e,true,()):=by
 unfold GN
 rw [tz,h.at hk hl hx,if_neg h0,if_pos (by omega)]
 show _=(_,_,true,())
 rw [hw,he,length_drop]
 congr 2
 omega
theorem GJ.nul {b:List Int} {a k v:Nat} (h:GJ b a k v) (hk:k<5) (hl:a+k<b.length) (hx:b.getD (a+k) 0<128) (h0:k≠0∧b.getD (a+k) 0=0):GN b (a:Int) (0,0,false,()):=
 GN.no (by rw [tz,h.at hk hl hx,if_pos h0])
theorem GJ.big {b:List Int} {a k v:Nat} (h:GJ b a k v) (hk:k<5) (hl:a+k<b.length) (hx:b.getD (a+k) 0<128) (hw:2147483647<((v+2 ^ (7*k)*(b.getD (a+k) 0).toNat:Nat):Int)):GN b (a:Int) (0,0,false,()):=by
 refine GN.no ?_
 rw [tz,h.at hk hl hx]
 split
 ·rfl
 ·rw [if_neg (by omega)]
theorem GJ.step {b:List Int} {a k v:Nat} (h:GJ b a k v) (hk:k<5) (hl:a+k<b.length) (hx:128≤b.getD (a+k) 0) (hx2:b.getD (a+k) 0≤255):GJ b a (k+1) (v+2 ^ (7*k)*(b.getD (a+k) 0-128).toNat):=by
 have hp:(2:Nat) ^ (7*(k+1))=2 ^ (7*k)*128:=by rw [Nat.mul_add,Nat.pow_add]
 refine ⟨?_,?_⟩
 ·have h1:=h.1
  have:2 ^ (7*k)*(b.getD (a+k) 0-128).toNat≤2 ^ (7*k)*127:=Nat.mul_le_mul_left _ (by omega)
  rw [hp];omega
 ·rw [h.2,dropc hl]
  obtain ⟨f,hf⟩ : ∃ f,5-k=f+1:=⟨4-k,by omega⟩
  rw [hf,show 5-(k+1)=f by omega,show a+(k+1)=a+k+1 by omega,hp]
  conv=>lhs;unfold decF
  rw [if_neg (by omega),show decide (k+1=0)=false by simp,Option.map_map]
  congr 1
  funext r
  show (_,_)=(_,_)
  congr 1
  show v+2 ^ (7*k)*((b.getD (a+k) 0-128).toNat+128*r.1)=_
  rw [Nat.mul_add,Nat.mul_assoc];omega
theorem GJ.orv {v x k:Nat} (hk:k<5) (hv:v<2 ^ (7*k)) (hx:x<128):i6 (bor (v:Int) (i6 ((x:Int)*2 ^ (7*k))))=((v+2 ^ (7*k)*x:Nat):Int):=by
 obtain ⟨h1,h2,h3⟩:=bor_add (x:=(v:Int)) (d:=(x:Int)) (s:=7*k) (by omega) ⟨by omega,by exact_mod_cast hv⟩ ⟨by omega,by omega⟩
 have hv2:v<2 ^ 28:=Nat.lt_of_lt_of_le hv (Nat.pow_le_pow_right (by decide) (by omega))
 rw [w6 (n:=(x:Int)*2 ^ (7*k)) (by omega) (by omega),h1,w6 (by omega) (by omega)]
 push_cast
 rw [Int.mul_comm]
theorem x_ru {K:Nat} (hK:2097152≤K) (b:List Int) (hb:BSt b) (a:Int) (ha:0≤a∧a≤4000000):Tot (x_dq K b a) fun o=>GN b a o:=by
 obtain ⟨n,rfl⟩:=Int.eq_ofNat_of_zero_le ha.1
 have hn:n≤4000000:=by omega
 have hl:=hb.2
 unfold x_dq x_dq.b
 refine ti (fun h=>by omega) fun _=>?_
 refine l2_ (L:=x_dq.l0 K b (n:Int)) (fun _ _ _=>rfl) (fun m x q=> ∃ k v:Nat,q=(n:Int)+(k:Int)∧x=(v:Int)∧k+m=5∧GJ b n k v) (fun m x q L' hi kk=>?_) (m:=5) (by omega) ⟨0,0,by simp,rfl,rfl,GJ.zero b n⟩
 obtain ⟨k,v,rfl,rfl,hm,hg⟩:=hi
 unfold x_dq.l0b
 rw [w6 (n:=(n:Int)+5) (by omega) (by omega),w6 (n:=(n:Int)+(k:Int)-(n:Int)) (by omega) (by omega),show (n:Int)+(k:Int)-(n:Int)=(k:Int) by omega,w6 (n:=7*(k:Int)) (by omega) (by omega),show ((n:Int)+(k:Int)).toNat=n+k by omega]
 refine ti (fun h1=>ti (fun h2=>?_) fun h2=>tr (hg.fin (by omega))) fun h1=>tr (hg.fin (by omega))
 have hlt:n+k<b.length:=by omega
 have hk:k<5:=by omega
 have hd:=hb.1 _ (x_ad (z:=(0:Int)) hlt)
 rw [show min (7*(k:Int)).toNat 64=7*k by omega,u8_and hd]
 have em:b.getD (n+k) 0 % 128=(((b.getD (n+k) 0) % 128).toNat:Int):=by omega
 rw [em,w6 (n:=(((b.getD (n+k) 0) % 128).toNat:Int)) (by omega) (by omega),hg.1|>fun hv=>GJ.orv hk hv (x:=((b.getD (n+k) 0) % 128).toNat) (by omega)]
 refine t2_ (by omega) ((t2_ (by omega) ((tc (by omega) ?_))))
 refine ti (fun h3=>?_) fun h3=>?_
 ·have e3:((b.getD (n+k) 0) % 128).toNat=(b.getD (n+k) 0).toNat:=by omega
  rw [e3,w6 (n:=(n:Int)+(k:Int)+1) (by omega) (by omega)]
  refine ti (fun h4=>tr (hg.big hk hlt h3 (by omega))) fun h4=>ti (fun h5=>t2_ (by omega) (?_)) fun h5=>tr (hg.yes hk hlt h3 (fun h=>by omega) rfl (by omega) rfl)
  exact ti (fun h6=>tr (hg.nul hk hlt h3 ⟨by omega,h6⟩)) fun h6=>tr (hg.yes hk hlt h3 (fun h=>h6 h.2) rfl (by omega) rfl)
 ·have e3:((b.getD (n+k) 0) % 128).toNat=(b.getD (n+k) 0-128).toNat:=by omega
  rw [e3,w6 (n:=(n:Int)+(k:Int)+1) (by omega) (by omega)]
  exact kk (m-1) _ _ (by omega) ⟨k+1,_,by push_cast;omega,rfl,by omega,hg.step hk hlt (by omega) hd.2⟩
theorem x_wq {K:Nat} (hK:2097152≤K) (b:List Int) (hb:BSt b) (a:Int) (ha:0≤a∧a≤4000000):Tot (x_cn K b a) fun o=>GN b a o:=by
 obtain ⟨n,rfl⟩:=Int.eq_ofNat_of_zero_le ha.1
 have hn:n≤4000000:=by omega
 have hl:=hb.2
 unfold x_cn x_cn.b
 refine l2_ (L:=x_cn.l0 K b (n:Int)) (fun _ _ _=>rfl) (fun m x q=> ∃ k v:Nat,q=(k:Int)∧x=(v:Int)∧k+m=5∧GJ b n k v) (fun m x q L' hi kk=>?_) (m:=5) (by omega) ⟨0,0,by simp,rfl,rfl,GJ.zero b n⟩
 obtain ⟨k,v,rfl,rfl,hm,hg⟩:=hi
 unfold x_cn.l0b
 refine ti (fun h1=>?_) fun h1=>tr (hg.fin (by omega))
 refine ti (fun h2=>by omega) fun h2=>?_
 rw [w6 (n:=((b.length:Nat):Int)-(k:Int)) (by omega) (by omega)]
 refine ti (fun h3=>tr (hg.fin (by omega))) fun h3=>?_
 have hlt:n+k<b.length:=by omega
 have hk:k<5:=by omega
 have hd:=hb.1 _ (x_ad (z:=(0:Int)) hlt)
 rw [w6 (n:=(n:Int)+(k:Int)) (by omega) (by omega),show ((n:Int)+(k:Int)).toNat=n+k by omega,w6 (n:=b.getD (n+k) 0) (by omega) (by omega),w6 (n:=7*(k:Int)) (by omega) (by omega),w6 (n:=(n:Int)+(k:Int)+1) (by omega) (by omega),show min (7*(k:Int)).toNat 64=7*k by omega,Int.tmod_eq_emod_of_nonneg hd.1]
 have em:b.getD (n+k) 0 % 128=(((b.getD (n+k) 0) % 128).toNat:Int):=by omega
 rw [em,GJ.orv hk hg.1 (x:=((b.getD (n+k) 0) % 128).toNat) (by omega)]
 refine t2_ (by omega) ((tc (by omega) ?_))
 refine ti (fun h4=>?_) fun h4=>?_
 ·have e3:((b.getD (n+k) 0) % 128).toNat=(b.getD (n+k) 0).toNat:=by omega
  rw [e3]
  refine ti (fun h5=>ti (fun h6=>tr (hg.nul hk hlt h4 ⟨by omega,h6⟩)) fun h6=>ti (fun h7=>tr (hg.big hk hlt h4 (by omega))) fun h7=>tr (hg.yes hk hlt h4 (fun h=>h6 h.2) rfl (by omega) rfl)) fun h5=>?_
  exact ti (fun h7=>tr (hg.big hk hlt h4 (by omega))) fun h7=>tr (hg.yes hk hlt h4 (fun h=>by omega) rfl (by omega) rfl)
 ·have e3:((b.getD (n+k) 0) % 128).toNat=(b.getD (n+k) 0-128).toNat:=by omega
  rw [e3,wi (i:=k) (by omega)]
  exact kk (m-1) _ _ (by omega) ⟨k+1,_,by push_cast;rfl,rfl,by omega,hg.step hk hlt (by omega) hd.2⟩
structure Rd {α : Type} (s:Nat) (dec:List Int→Option (α×List Int)) (b:List Int) (a0:Int) (f0:Bool) (v : α) (a1:Int) (f1:Bool):Prop where
 in_:a0≤a1∧0≤a1∧a1≤(b.length:Int)
 bad:f0=true→f1=true
 ok:f0=false→match dec (b.drop a0.toNat) with
  | some q=>f1=false∧v=q.1∧q.2=b.drop a1.toNat
  | none=>f1=true
 st:f1=false→a0+(s:Int)≤a1
theorem Rd.mono {α : Type} {s t:Nat} {dec:List Int→Option (α×List Int)} {b:List Int} {a0 a1:Int} {f0 f1:Bool} {v : α} (h:Rd s dec b a0 f0 v a1 f1) (ht:t≤s):Rd t dec b a0 f0 v a1 f1:=
 ⟨h.in_,h.bad,h.ok,fun k=>by have:=h.st k;omega⟩
theorem Rd.yes {α : Type} {s:Nat} {dec:List Int→Option (α×List Int)} {b:List Int} {a0 a1:Int} {f0:Bool} {v : α} (h:Rd s dec b a0 f0 v a1 false):f0=false∧dec (b.drop a0.toNat)=some (v,b.drop a1.toNat):=by
 have h0:f0=false:=by
  cases f0 with
  | false=>rfl
  | true=>exact bad' (h.bad rfl).symm
 refine ⟨h0,?_⟩
 have:=h.ok h0
 split at this
 ·rename_i q hq
  obtain ⟨_,h1,h2⟩:=this
  rw [hq,h1, ←h2]
 ·cases this
theorem Rd.of_some {α : Type} {s:Nat} {dec:List Int→Option (α×List Int)} {b:List Int} {a0 a1:Int} {f1:Bool} {v : α} {q : α×List Int} (h:Rd s dec b a0 false v a1 f1) (hq:dec (b.drop a0.toNat)=some q):f1=false∧v=q.1∧q.2=b.drop a1.toNat:=by
 have:=h.ok rfl
 rw [hq] at this
 exact this
theorem Rd.pr {α β : Type} {s t:Nat} {c:List Int→Option (α×List Int)} {d:List Int→Option (β×List Int)} {b:List Int} {a0 a1 a2:Int} {f0 f1 f2:Bool} {v : α} {w : β} (h:Rd s c b a0 f0 v a1 f1) (k:Rd t d b a1 f1 w a2 f2) :
  Rd (s+t) (fun l=>(c l).bind fun r=>(d r.2).map fun s=>((r.1,s.1),s.2)) b a0 f0 (v,w) a2 f2:=by
 refine ⟨⟨Int.le_trans h.in_.1 k.in_.1,k.in_.2⟩,fun h0=>k.bad (h.bad h0),fun h0=>?_,fun h2=>?_⟩
 ·have h1:=h.ok h0
  cases hc:c (b.drop a0.toNat) with
  | none=>rw [hc] at h1;exact k.bad h1
  | some q=>
   rw [hc] at h1
   obtain ⟨e1,e2,e3⟩:=h1
   have h2:=k.ok e1
   rw [←e3] at h2
   simp only [Option.bind_some]
   cases hd:d q.2 with
   | none=>rw [hd] at h2;exact h2
   | some s=>
    rw [hd] at h2
    obtain ⟨g1,g2,g3⟩:=h2
    exact ⟨g1,by rw [e2,g2],g3⟩
 ·have h1:f1=false:=by
   cases f1 with
   | false=>rfl
   | true=>rw [k.bad rfl] at h2;exact bad' h2
  have:=h.st h1
  have:=k.st h2
  push_cast
  omega
theorem Rd.map {α β : Type} {s:Nat} {c:List Int→Option (α×List Int)} {b:List Int} {a0 a1:Int} {f0 f1:Bool} {v : α} (f : α→β) (h:Rd s c b a0 f0 v a1 f1):Rd s (fun l=>(c l).map fun r=>(f r.1,r.2)) b a0 f0 (f v) a1 f1:=by
 refine ⟨h.in_,h.bad,fun h0=>?_,h.st⟩
 have h1:=h.ok h0
 cases hc:c (b.drop a0.toNat) with
 | none=>rw [hc] at h1;exact h1
 | some q=>
  rw [hc] at h1
  obtain ⟨e1,e2,e3⟩:=h1
  exact ⟨e1,by rw [e2],e3⟩
theorem x_q7 {α : Type} {d:List Int→Option (α×List Int)}:∀ (n:Nat) (l:List Int),decR d (n+1) l=(decR d n l).bind fun r=>(d r.2).map fun s=>(r.1++[s.1],s.2)
 | 0,l=>by
  show (d l).bind _=_
  cases h:d l with
  | none=>simp [decR,h]
  | some q=>simp [decR,h]
 | n+1,l=>by
  show (d l).bind (fun r=>(decR d (n+1) r.2).map fun s=>(r.1::s.1,s.2))=((d l).bind fun r=>(decR d n r.2).map fun s=>(r.1::s.1,s.2)).bind _
  cases h:d l with
  | none=>rfl
  | some q=>
   simp only [Option.bind_some]
   rw [x_q7 n q.2]
   cases h2:decR d n q.2 with
   | none=>rfl
   | some r=>
    simp only [Option.bind_some,Option.map_some]
    cases h3:d r.2 with
    | none=>rfl
    | some s=>rfl
theorem x_v4 {α : Type} {d:List Int→Option (α×List Int)} {n:Nat} {l:List Int} (h:decR d n l=none):∀ k,decR d (n+k) l=none
 | 0=>h
 | k+1=>by
  show decR d (n+k+1) l=none
  rw [x_q7,x_v4 h k];rfl
theorem Rd.nil {α : Type} {d:List Int→Option (α×List Int)} {b:List Int} {a:Int} {f:Bool} (ha:0≤a∧a≤(b.length:Int)):Rd 0 (decR d 0) b a f ([]:List α) a f:=
 ⟨⟨Int.le_refl _,ha⟩,id,fun h=>⟨h,rfl,rfl⟩,fun _=>by simp⟩
theorem Rd.snoc {α : Type} {s t n:Nat} {d:List Int→Option (α×List Int)} {b:List Int} {a0 a1 a2:Int} {f0 f1 f2:Bool} {xs:List α} {x : α} (h:Rd s (decR d n) b a0 f0 xs a1 f1) (k:Rd t d b a1 f1 x a2 f2):Rd (s+t) (decR d (n+1)) b a0 f0 (xs++[x]) a2 f2:=by
 have:=(h.pr k).map fun z=>z.1++[z.2]
 have e:(fun l=>((decR d n l).bind fun r=>(d r.2).map fun s=>((r.1,s.1),s.2)).map fun r:(List α×α)×List Int=>(r.1.1++[r.1.2],r.2))=decR d (n+1):=by
  funext l
  rw [x_q7]
  cases decR d n l with
  | none=>rfl
  | some r=>
   simp only [Option.bind_some]
   cases d r.2<;>rfl
 rwa [←e]
theorem Rd.stop {α : Type} {s n m:Nat} {d:List Int→Option (α×List Int)} {b:List Int} {a0 a1:Int} {f0:Bool} {xs:List α} (h:Rd s (decR d n) b a0 f0 xs a1 true) (hm:n≤m):Rd 0 (decR d m) b a0 f0 xs a1 true:=by
 refine ⟨h.in_,h.bad,fun h0=>?_,fun k=>bad' k⟩
 have h1:=h.ok h0
 have:decR d n (b.drop a0.toNat)=none:=by
  split at h1
  ·exact bad' h1.1
  ·assumption
 have h2:=x_v4 this (m-n)
 rw [show n+(m-n)=m by omega] at h2
 rw [h2]
def CB (b:List Int) (r:List Int×Int×Bool):Prop:=r.1=b∧0≤r.2.1∧r.2.1≤(b.length:Int)
theorem x_he {C X Y β : Type} (cur:C→List Int×Int×Bool) (fl:Bool→Bool) (W:Y→List X→Prop) {dec:List Int→Option (X×List Int)} {b:List Int} (hb:b.length≤2000000) {n:Int} {L:Nat→Int→C→Y→Option β} {B:(Int→C→Y→Option β)→Int→C→Y→Option β}
  (hL:∀ k x c y,L (k+1) x c y=B (L k) x c y) {Q : β→Prop} (c0:C) (h0:CB b (cur c0)) {y0:Y} (hw0:W y0 [])
  (step:∀ (L':Int→C→Y→Option β) (i:Nat) (c:C) (y:Y) (xs:List X),W y xs→CB b (cur c)→(i:Int)<n→fl (cur c).2.2=false→i≤2000000→xs.length≤2000000→
   (∀ (c':C) (y':Y) (x:X),W y' (xs++[x])→(cur c').1=b→Rd 1 dec b (cur c).2.1 (fl (cur c).2.2) x (cur c').2.1 (fl (cur c').2.2)→Tot (L' ((i:Int)+1) c' y') Q)→Tot (B L' (i:Int) c y) Q)
  (fin:∀ (L':Int→C→Y→Option β) (i:Nat) (c:C) (y:Y) (xs:List X),W y xs→xs.length≤2000001→CB b (cur c)→((i:Int)<n→fl (cur c).2.2=true)→Rd 0 (decR dec n.toNat) b (cur c0).2.1 (fl (cur c0).2.2) xs (cur c).2.1 (fl (cur c).2.2)→Tot (B L' (i:Int) c y) Q)
  {k:Nat} (hk:2000002≤k):Tot (L k 0 c0 y0) Q:=by
 refine l3_ (L:=L) (b:=B) hL (fun m x c y=> ∃ (i:Nat) (xs:List X),W y xs∧(xs.length=i∧i≤2000001)∧x=i∧CB b (cur c)∧Rd i (decR dec i) b (cur c0).2.1 (fl (cur c0).2.2) xs (cur c).2.1 (fl (cur c).2.2)∧(i:Int)≤max n 0∧(m:Int)=if fl (cur c).2.2=true then 0 else (b.length:Int)-(cur c).2.1+1) (fun m x c y L' hi kk=>?_)
  (m:=(if fl (cur c0).2.2=true then 0 else (b.length:Int)-(cur c0).2.1+1).toNat) (by have:=h0.2;split<;>omega) ⟨0,[],hw0,⟨rfl,by omega⟩,rfl,h0,Rd.nil h0.2,by omega,by have:=h0.2;split<;>omega⟩
 obtain ⟨i,xs,hw,⟨hxl,hil⟩,rfl,hc,hr,hi,hm⟩:=hi
 cases hfl:fl (cur c).2.2 with
 | true=>
  rw [hfl] at hr
  refine fin L' i c y xs hw (by omega) hc (fun _=>hfl) ?_
  rw [hfl]
  exact hr.stop (by omega)
 | false=>
  rw [hfl] at hr hm
  simp only [Bool.false_eq_true,if_false] at hm
  have h1:=hr.st rfl
  have h2:=h0.2.1
  have h3:=hc.2.2
  by_cases h:(i:Int)<n
  ·refine step L' i c y xs hw hc h hfl (by omega) (by omega) fun c' y' x hw' hb' hx=>?_
   rw [hfl] at hx
   have hs:=hr.snoc hx
   have hcb:CB b (cur c'):=⟨hb',hs.in_.2⟩
   have hmono:=hx.in_.1
   cases hfl':fl (cur c').2.2 with
   | true=>exact kk 0 _ _ _ (by omega) ⟨i+1,_,hw',⟨by simp [hxl],by omega⟩,by push_cast;rfl,hcb,hs,by omega,by simp [hfl']⟩
   | false=>
    have h4:=hx.st hfl'
    have h5:=hcb.2.2
    exact kk ((b.length:Int)-(cur c').2.1+1).toNat _ _ _ (by omega) ⟨i+1,_,hw',⟨by simp [hxl],by omega⟩,by push_cast;rfl,hcb,hs,by omega,by rw [hfl'];simp only [Bool.false_eq_true,if_false];omega⟩
  ·refine fin L' i c y xs hw (by omega) hc (fun h'=>by omega) ?_
   rw [hfl]
   have:n.toNat=i:=by omega
   rw [this]
   exact hr.mono (Nat.zero_le _)
theorem suf {b p r:List Int} {a:Nat} (ha:a≤b.length) (h:b.drop a=p++r):r=b.drop (b.length-r.length)∧a+p.length+r.length=b.length:=by
 have hl:=congrArg List.length h
 rw [length_drop,length_append] at hl
 have e:b=b.take a++(p++r):=by rw [←h,List.take_append_drop]
 refine ⟨?_,by omega⟩
 conv=>rhs;rw [e]
 rw [←List.append_assoc,List.drop_left']
 rw [length_append,length_take]
 simp only [length_append,length_take]
 omega
theorem encN_pos {n:Int} (h:0≤n∧n≤2147483647):1≤(encN n).length:=by
 unfold encN
 rw [if_pos h,x_gy]
 split<;>simp
theorem BOk.drop {b:List Int} (h:BOk b) (n:Nat):BOk (b.drop n):=fun x hx=>h x (List.mem_of_mem_drop hx)
theorem GN.rd {b:List Int} (hb:BSt b) {a:Int} (ha:0≤a∧a≤(b.length:Int)) {o:Int×Int×Bool×Unit} (h:GN b a o):(o.2.2.1=true→Rd 1 decN b a false o.1 o.2.1 false∧0≤o.1∧o.1≤2147483647)∧(o.2.2.1=false→o=(0,0,false,())∧decN (b.drop a.toNat)=none):=by
 unfold GN at h
 split at h
 ·rename_i q hq
  subst h
  obtain ⟨h1,h2⟩:=x_pz (n:=q.1) (r:=q.2) (hb.1.drop _) hq
  obtain ⟨h3,h4⟩:=suf (by omega) h1
  have h5:=encN_pos h2
  refine ⟨fun _=>⟨⟨?_,fun h=>bad h,fun _=>?_,fun _=>?_⟩,h2⟩,fun h=>bad' h⟩
  ·show a≤(b.length:Int)-_∧0≤(b.length:Int)-_∧(b.length:Int)-_≤_
   omega
  ·rw [hq]
   refine ⟨rfl,rfl,?_⟩
   show q.2=b.drop ((b.length:Int)-(q.2.length:Int)).toNat
   rw [show ((b.length:Int)-(q.2.length:Int)).toNat=b.length-q.2.length by omega]
   exact h3
  ·show a+((1:Nat):Int)≤(b.length:Int)-_
   omega
 ·rename_i hq
  subst h
  exact ⟨fun h=>bad h,fun _=>⟨rfl,hq⟩⟩
theorem Rd.fail {α : Type} {s:Nat} {dec:List Int→Option (α×List Int)} {b:List Int} {a:Int} {f:Bool} {v : α} (ha:0≤a∧a≤(b.length:Int)) (h:f=false→dec (b.drop a.toNat)=none):Rd s dec b a f v a true:=
 ⟨⟨Int.le_refl _,ha⟩,fun _=>rfl,fun h0=>by rw [h h0],fun h=>bad' h⟩
def RO {α : Type} (s:Nat) (fl:Bool→Bool) (dec:List Int→Option (α×List Int)) (b:List Int) (r:List Int×Int×Bool) (o : α×(List Int×Int×Bool)×Unit):Prop:=o.2.1.1=b∧Rd s dec b r.2.1 (fl r.2.2) o.1 o.2.1.2.1 (fl o.2.1.2.2)
theorem RO.cb {α : Type} {s:Nat} {fl:Bool→Bool} {dec:List Int→Option (α×List Int)} {b:List Int} {r:List Int×Int×Bool} {o : α×(List Int×Int×Bool)×Unit} (h:RO s fl dec b r o):CB b o.2.1:=⟨h.1,h.2.in_.2⟩
theorem x_ej {K:Nat} (hK:2097152≤K) {b:List Int} (hb:BSt b) (r:x_h) (h:CB b r):Tot (x_8 K r) fun o=>RO 1 id decN b r o∧0≤o.1∧o.1≤2147483647:=by
 obtain ⟨b',a,f⟩:=r
 obtain ⟨h1,h2⟩:=h
 simp only at h1 h2
 subst h1
 have hl:=hb.2
 unfold x_8
 refine tb (x_ru hK b' hb a (by omega)) fun v g=>?_
 have g:=g.rd hb h2
 refine tB (fun e=>tr ⟨⟨rfl,?_⟩,by show (0:Int)≤0∧(0:Int)≤_;decide⟩) fun e=>tN (fun e2=>tr ⟨⟨rfl,?_⟩,by show (0:Int)≤0∧(0:Int)≤_;decide⟩) fun e2=>tr ⟨⟨rfl,?_⟩,(g.1 e2).2⟩
 ·exact Rd.fail h2 fun h=>by have e:f=true:=e;have h:f=false:=h;rw [e] at h;exact bad' h
 ·exact Rd.fail h2 fun _=>(g.2 e2).2
 ·have e:f=false:=e
  subst e
  exact (g.1 e2).1
theorem x_gd {K:Nat} (hK:2097152≤K) {b:List Int} (hb:BSt b) (r:x_h) (h:CB b r):Tot (x_b6 K r) fun o=>RO 1 Bool.not decN b r o∧0≤o.1∧o.1≤2147483647:=by
 obtain ⟨b',a,f⟩:=r
 obtain ⟨h1,h2⟩:=h
 simp only at h1 h2
 subst h1
 have hl:=hb.2
 unfold x_b6
 refine tb (x_wq hK b' hb a (by omega)) fun v g=>?_
 have g:=g.rd hb h2
 refine tN (fun e2=>tr ⟨⟨rfl,?_⟩,by show (0:Int)≤0∧(0:Int)≤_;decide⟩) fun e2=>tN (fun e=>tr ⟨⟨rfl,?_⟩,by show (0:Int)≤0∧(0:Int)≤_;decide⟩) fun e=>tr ⟨⟨rfl,?_⟩,(g.1 e2).2⟩
 ·exact Rd.fail h2 fun _=>(g.2 e2).2
 ·exact Rd.fail h2 fun h=>by have e:f=false:=e;have h:(!f)=false:=h;rw [e] at h;exact bad' h
 ·have e:f=true:=e
  subst e
  exact (g.1 e2).1
def GT (b:List Int) (a:Int) (o:ByteArray×Int×Bool×Unit):Prop:=(o.2.2.1=true→Rd 1 decT b a false o.1 o.2.1 false)∧(o.2.2.1=false→decT (b.drop a.toNat)=none)∧o.1.size≤b.length
theorem gt_of {b:List Int} (hb:BSt b) {a:Int} (ha:0≤a∧a≤(b.length:Int)) {v:Int×Int×Bool×Unit} (g:GN b a v):(v.2.2.1=false→GT b a (ByteArray.empty,0,false,()))∧(v.2.2.1=true→((b.length:Int)-v.2.1<v.1→GT b a (ByteArray.empty,0,false,()))∧
  (v.1≤(b.length:Int)-v.2.1→0≤v.2.1∧0≤v.1∧v.1≤2147483647∧v.2.1≤(b.length:Int)∧GT b a (x_jo ((b.take (v.2.1+v.1).toNat).drop v.2.1.toNat),v.2.1+v.1,true,()))):=by
 have g:=g.rd hb ha
 have e0:ByteArray.empty.size=0:=rfl
 refine ⟨fun h=>⟨fun h=>bad h,fun _=>?_,by show ByteArray.empty.size≤_;omega⟩,fun h=>?_⟩
 ·unfold decT;rw [(g.2 h).2];rfl
 obtain ⟨h1,h2,h3⟩:=g.1 h
 have hi:=h1.in_
 have hd:=h1.yes.2
 refine ⟨fun h4=>⟨fun h=>bad h,fun _=>?_,by show ByteArray.empty.size≤_;omega⟩,fun h4=>⟨hi.2.1,h2,h3,hi.2.2,fun _=>⟨?_,fun h=>bad h,fun _=>?_,fun _=>?_⟩,fun h=>bad' h,?_⟩⟩
 ·unfold decT
  rw [hd]
  simp only [Option.bind_some]
  rw [if_neg]
  rw [length_drop];omega
 ·show a≤v.2.1+v.1∧0≤v.2.1+v.1∧v.2.1+v.1≤_
  omega
 ·unfold decT
  rw [hd]
  simp only [Option.bind_some]
  rw [if_pos (by rw [length_drop];omega)]
  refine ⟨by trivial,?_,?_⟩
  ·show x_jo _=x_jo _
   congr 1
   rw [List.drop_take]
   congr 1
   omega
  ·show (b.drop v.2.1.toNat).drop v.1.toNat=b.drop (v.2.1+v.1).toNat
   rw [List.drop_drop]
   congr 1
   omega
 ·have:=h1.st rfl
  show a+((1:Nat):Int)≤v.2.1+v.1
  omega
 ·show (x_jo _).size≤_
  rw [←x_m8,x_kj,length_map,length_drop,length_take]
  omega
theorem x_zr {K:Nat} (hK:2097152≤K) (b:List Int) (hb:BSt b) (a:Int) (ha:0≤a∧a≤(b.length:Int)):Tot (x_m0 K b a) fun o=>GT b a o:=by
 have hl:=hb.2
 unfold x_m0
 refine tb (x_ru hK b hb a (by omega)) fun v g=>?_
 obtain ⟨g1,g2⟩:=gt_of hb ha g
 have g3:=g.rd hb ha
 refine tN (fun e=>tr (g1 e)) fun e=>?_
 have hi:=(g3.1 e).1.in_
 have hv:=(g3.1 e).2
 rw [w6 (n:=((b.length:Nat):Int)-v.2.1) (by omega) (by omega),w6 (n:=v.2.1+v.1) (by omega) (by omega)]
 refine ti (fun h=>tr ((g2 e).1 (by omega))) fun h=>?_
 obtain ⟨k1,k2,k3,k4,k5⟩:=(g2 e).2 (by omega)
 exact tc rfl (t2_ (by omega) ((tc (by omega) (tr k5))))
theorem x_0x {K:Nat} (hK:2097152≤K) (b:List Int) (hb:BSt b) (a:Int) (ha:0≤a∧a≤(b.length:Int)):Tot (x_jh K b a) fun o=>GT b a o:=by
 have hl:=hb.2
 unfold x_jh
 refine tb (x_wq hK b hb a (by omega)) fun v g=>?_
 obtain ⟨g1,g2⟩:=gt_of hb ha g
 have g3:=g.rd hb ha
 refine tN (fun e=>tr (g1 e)) fun e=>?_
 have hi:=(g3.1 e).1.in_
 have hv:=(g3.1 e).2
 rw [w6 (n:=((b.length:Nat):Int)-v.2.1) (by omega) (by omega),w6 (n:=v.2.1+v.1) (by omega) (by omega)]
 refine ti (fun h=>tr ((g2 e).1 (by omega))) fun h=>?_
 obtain ⟨k1,k2,k3,k4,k5⟩:=(g2 e).2 (by omega)
 exact tc rfl (t2_ (by omega) ((tc (by omega) (tr k5))))
theorem x_oh {K:Nat} (hK:2097152≤K) {b:List Int} (hb:BSt b) (r:x_h) (h:CB b r):Tot (x_dm K r) fun o=>RO 1 id decT b r o∧o.1.size≤b.length:=by
 obtain ⟨b',a,f⟩:=r
 obtain ⟨h1,h2⟩:=h
 simp only at h1 h2
 subst h1
 have e0:ByteArray.empty.size=0:=rfl
 unfold x_dm
 refine tb (x_zr hK b' hb a h2) fun v g=>?_
 refine tB (fun e=>tr ⟨⟨rfl,?_⟩,by show ByteArray.empty.size≤_;omega⟩) fun e=>tN (fun e2=>tr ⟨⟨rfl,?_⟩,by show ByteArray.empty.size≤_;omega⟩) fun e2=>tr ⟨⟨rfl,?_⟩,g.2.2⟩
 ·exact Rd.fail h2 fun h=>by have e:f=true:=e;have h:f=false:=h;rw [e] at h;exact bad' h
 ·exact Rd.fail h2 fun _=>g.2.1 e2
 ·have e:f=false:=e
  subst e
  exact g.1 e2
theorem x_wh {K:Nat} (hK:2097152≤K) {b:List Int} (hb:BSt b) (r:x_h) (h:CB b r):Tot (x_fr K r) fun o=>RO 1 Bool.not decT b r o∧o.1.size≤b.length:=by
 obtain ⟨b',a,f⟩:=r
 obtain ⟨h1,h2⟩:=h
 simp only at h1 h2
 subst h1
 have e0:ByteArray.empty.size=0:=rfl
 unfold x_fr
 refine tb (x_0x hK b' hb a h2) fun v g=>?_
 refine tN (fun e2=>tr ⟨⟨rfl,?_⟩,by show ByteArray.empty.size≤_;omega⟩) fun e2=>tN (fun e=>tr ⟨⟨rfl,?_⟩,by show ByteArray.empty.size≤_;omega⟩) fun e=>tr ⟨⟨rfl,?_⟩,g.2.2⟩
 ·exact Rd.fail h2 fun _=>g.2.1 e2
 ·exact Rd.fail h2 fun h=>by have e:f=false:=e;have h:(!f)=false:=h;rw [e] at h;exact bad' h
 ·have e:f=true:=e
  subst e
  exact g.1 e2
open Classical in
noncomputable def flt {α : Type} (d:List Int→Option (α×List Int)) (P : α→Prop) (l:List Int):Option (α×List Int):=(d l).bind fun q=>if P q.1 then some q else none
def prD {α β : Type} (c:List Int→Option (α×List Int)) (d:List Int→Option (β×List Int)) (l:List Int):Option ((α×β)×List Int):=(c l).bind fun r=>(d r.2).map fun s=>((r.1,s.1),s.2)
noncomputable def x_hn {α : Type} (d:List Int→Option (α×List Int)) (l:List Int):Option (List α×List Int):=(decN l).bind fun r=>decR d r.1.toNat r.2
open Classical in
theorem Rd.flt {α : Type} {s:Nat} {d:List Int→Option (α×List Int)} {b:List Int} {a0 a1:Int} {f0 f1:Bool} {v : α} (h:Rd s d b a0 f0 v a1 f1) (P : α→Prop) {f2:Bool} (h2:f1=true→f2=true) (h3:f1=false→(f2=false↔P v)):Rd s (flt d P) b a0 f0 v a1 f2:=by
 refine ⟨h.in_,fun h0=>h2 (h.bad h0),fun h0=>?_,fun k=>?_⟩
 ·have h1:=h.ok h0
  change match (d (b.drop a0.toNat)).bind (fun q=>if P q.1 then some q else none) with | some q=>f2=false∧v=q.1∧q.2=b.drop a1.toNat | none=>f2=true
  cases hd:d (b.drop a0.toNat) with
  | none=>rw [hd] at h1;exact h2 h1
  | some q=>
   rw [hd] at h1
   obtain ⟨e1,e2,e3⟩:=h1
   simp only [Option.bind_some]
   by_cases hp:P q.1
   ·rw [if_pos hp]
    exact ⟨(h3 e1).2 (by rw [e2];exact hp),e2,e3⟩
   ·rw [if_neg hp]
    cases hf:f2 with
    | true=>rfl
    | false=>exact absurd (by rw [←e2];exact (h3 e1).1 hf) hp
 ·have:f1=false:=by
   cases f1 with
   | false=>rfl
   | true=>rw [h2 rfl] at k;cases k
  exact h.st this
theorem Rd.list {α : Type} {s t:Nat} {d:List Int→Option (α×List Int)} {b:List Int} {a0 a1 a2:Int} {f0 f1 f2:Bool} {n:Int} {xs:List α} (h:Rd s decN b a0 f0 n a1 f1) (k:Rd t (decR d n.toNat) b a1 f1 xs a2 f2):Rd s (x_hn d) b a0 f0 xs a2 f2:=by
 refine ⟨⟨Int.le_trans h.in_.1 k.in_.1,k.in_.2⟩,fun h0=>k.bad (h.bad h0),fun h0=>?_,fun h2=>?_⟩
 ·have h1:=h.ok h0
  unfold x_hn
  cases hc:decN (b.drop a0.toNat) with
  | none=>rw [hc] at h1;exact k.bad h1
  | some q=>
   rw [hc] at h1
   obtain ⟨e1,e2,e3⟩:=h1
   have h2:=k.ok e1
   rw [←e3,e2] at h2
   simp only [Option.bind_some]
   exact h2
 ·have h1:f1=false:=by
   cases f1 with
   | false=>rfl
   | true=>rw [k.bad rfl] at h2;cases h2
  have:=h.st h1
  have:=k.in_.1
  omega
theorem ti_cmd {K:Nat} (hK:2097152≤K) {b:List Int} (hb:BSt b) (r:x_h) (h:CB b r):Tot (x_h8 K r) fun o=>RO 8 id (flt cC.dec COk) b r o∧CSz o.1:=by
 have hl:=hb.2
 unfold x_h8
 refine tb (x_ej hK hb r h) fun v1 g1=>tb (x_ej hK hb _ g1.1.cb) fun v2 g2=>tb (x_ej hK hb _ g2.1.cb) fun v3 g3=>tb (x_ej hK hb _ g3.1.cb) fun v4 g4=>tb (x_ej hK hb _ g4.1.cb) fun v5 g5=>tb (x_ej hK hb _ g5.1.cb) fun v6 g6=>tb (x_oh hK hb _ g6.1.cb) fun v7 g7=>tb (x_oh hK hb _ g7.1.cb) fun v8 g8=>?_
 rw [w6 (n:=v1.1-1) (by omega) (by omega)]
 have e:Rd 8 cC.dec b r.2.1 r.2.2 (v1.1-1,v2.1,v3.1,v4.1,v5.1,v6.1,v7.1,v8.1) v8.2.1.2.1 v8.2.1.2.2:=((g1.1.2.map (fun n=>n-1)).pr (g2.1.2.pr (g3.1.2.pr (g4.1.2.pr (g5.1.2.pr (g6.1.2.pr (g7.1.2.pr g8.1.2)))))))
 have hs:CSz (v1.1-1,v2.1,v3.1,v4.1,v5.1,v6.1,v7.1,v8.1):=⟨by show v7.1.size<_;have:=g7.2;omega,by show v8.1.size<_;have:=g8.2;omega⟩
 refine tB (fun e1=>tr ⟨⟨g8.1.1,?_⟩,hs⟩) fun e1=>tb (x_j0 hK _ hs) fun v9 g9=>tr ⟨⟨g8.1.1,?_⟩,hs⟩
 ·exact e.flt COk (fun _=>rfl) fun h=>by rw [e1] at h;cases h
 ·refine e.flt COk (fun h=>by rw [e1] at h;cases h) fun _=>?_
  show (!v9.1)=false↔_
  cases hv:v9.1 with
  | true=>exact ⟨fun _=>g9.1 hv,fun _=>rfl⟩
  | false=>exact ⟨fun h=>bad' h,fun h=>by rw [g9.2 h] at hv;cases hv⟩
noncomputable def dEp:List Int→Option (x_c6×List Int):=prD decN (flt cC.dec COk)
theorem ti_eachE {K:Nat} (hK:2097152≤K) {b:List Int} (hb:BSt b) (r:x_h) (h:CB b r) (k1 k2 k3 k4:Int) (s:ByteArray):Tot (x_s K r (k1,k2,k3,k4,[],s)) fun o=> ∃ xs:List x_c6,o.2.1=(k1,k2,k3,k4,xs,s)∧EsSz xs∧RO 1 id (x_hn dEp) b r (xs,o.1,()):=by
 have hl:=hb.2
 unfold x_s x_s.b
 refine tb (x_ej hK hb r h) fun v1 g1=>?_
 refine x_he (C:=x_h×Unit) (fun c=>c.1) id (fun (y:x_df) xs=>y=(k1,k2,k3,k4,xs,s)∧ ∀ x∈xs,CSz x.2) (dec:=dEp) hl (n:=v1.1) (L:=fun k x c y=>x_s.l0 K r (k1,k2,k3,k4,[],s) k v1 x c y)
  (B:=fun L' x c y=>x_s.l0b K r (k1,k2,k3,k4,[],s) (fun _ x c y=>L' x c y) v1 x c y) (fun _ _ _ _=>rfl) v1.2 g1.1.cb ⟨rfl,fun x h=>by simp at h⟩ (fun L' i c y xs hw hc hi hf hi2 hx kk=>?_) (fun L' i c y xs hw hxl hc hi hr=>?_) (by omega)
 ·obtain ⟨rfl,hw⟩:=hw
  unfold x_s.l0b x_nl
  refine ti (fun _=>tN (fun _=>?_) fun e=>by rw [show c.1.2.2=false from hf] at e;cases e) fun h=>absurd hi h
  refine tb (Q:=fun o=> ∃ x:x_c6,o.1=(k1,k2,k3,k4,xs++[x],s)∧CSz x.2∧RO 1 id dEp b c.1 (x,o.2)) (tb (x_ej hK hb _ hc) fun w1 e1=>tb (ti_cmd hK hb _ e1.1.cb) fun w2 e2=>tc (by show _≤70368744177664;(try dsimp only);(try simp only [ll_]);omega) (tr ⟨(w1.1,w2.1),rfl,e2.2,e2.1.1,?_⟩)) fun w e=>?_
  ·have:=(e1.1.2.pr e2.1.2).mono (t:=1) (by omega)
   exact this
  ·obtain ⟨x,e1,e2,e3⟩:=e
   rw [w6 (by omega) (by omega)]
   exact kk w.2 w.1 x ⟨e1,fun z hz=>(mem_append.1 hz).elim (hw z) fun hz=>by rw [mem_singleton.1 hz];exact e2⟩ e3.1 e3.2
 ·obtain ⟨rfl,hw⟩:=hw
  unfold x_s.l0b
  have fin:Tot (some (c.1,(k1,k2,k3,k4,xs,s),())) fun o=> ∃ xs:List x_c6,o.2.1=(k1,k2,k3,k4,xs,s)∧EsSz xs∧RO 1 id (x_hn dEp) b r (xs,o.1,()):=tr ⟨xs,rfl,⟨by omega,hw⟩,hc.1,g1.1.2.list hr⟩
  refine ti (fun h1=>tN (fun e=>by rw [show c.1.2.2=true from hi h1] at e;cases e) fun _=>fin) fun _=>fin
theorem flt_iff {α : Type} {d:List Int→Option (α×List Int)} {P : α→Prop} {l:List Int} {q : α×List Int}:flt d P l=some q↔d l=some q∧P q.1:=by
 unfold flt
 cases d l with
 | none=>simp
 | some x=>
  simp only [Option.bind_some]
  constructor
  ·intro h
   split at h
   ·rename_i hp
    simp only [sj_] at h
    subst h
    exact ⟨rfl,hp⟩
   ·cases h
  ·rintro ⟨h,hp⟩
   simp only [sj_] at h
   subst h
   rw [if_pos hp]
theorem prD_r {α β : Type} {c:List Int→Option (α×List Int)} {d e:List Int→Option (β×List Int)} {P : β→Prop} (h:∀ l q,d l=some q↔e l=some q∧P q.1) (l:List Int) (q:(α×β)×List Int):prD c d l=some q↔prD c e l=some q∧P q.1.2:=by
 unfold prD
 simp only [Option.bind_eq_some_iff,Option.map_eq_some_iff]
 constructor
 ·rintro ⟨r,h1,s,h2,rfl⟩
  exact ⟨⟨r,h1,s,((h _ _).1 h2).1,rfl⟩,((h _ _).1 h2).2⟩
 ·rintro ⟨⟨r,h1,s,h2,rfl⟩,hp⟩
  exact ⟨r,h1,s,(h _ _).2 ⟨h2,hp⟩,rfl⟩
theorem prD_l {α β : Type} {c:List Int→Option (α×List Int)} {d e:List Int→Option (β×List Int)} {P : β→Prop} (h:∀ l q,d l=some q↔e l=some q∧P q.1) (l:List Int) (q:(β×α)×List Int):prD d c l=some q↔prD e c l=some q∧P q.1.1:=by
 unfold prD
 simp only [Option.bind_eq_some_iff,Option.map_eq_some_iff]
 constructor
 ·rintro ⟨r,h1,s,h2,rfl⟩
  exact ⟨⟨r,((h _ _).1 h1).1,s,h2,rfl⟩,((h _ _).1 h1).2⟩
 ·rintro ⟨⟨r,h1,s,h2,rfl⟩,hp⟩
  exact ⟨r,(h _ _).2 ⟨h1,hp⟩,s,h2,rfl⟩
theorem decR_P {α : Type} {d e:List Int→Option (α×List Int)} {P : α→Prop} (h:∀ l q,d l=some q↔e l=some q∧P q.1):∀ (n:Nat) (l:List Int) (q:List α×List Int),decR d n l=some q↔decR e n l=some q∧ ∀ x∈q.1,P x
 | 0,l,q=>by
  simp only [decR,sj_]
  constructor
  ·rintro rfl;exact ⟨rfl,fun x hx=>by simp at hx⟩
  ·rintro ⟨rfl,_⟩;rfl
 | n+1,l,q=>by
  simp only [decR,Option.bind_eq_some_iff,Option.map_eq_some_iff]
  constructor
  ·rintro ⟨r,h1,s,h2,rfl⟩
   have h1:=(h _ _).1 h1
   have h2:=(decR_P h n _ _).1 h2
   exact ⟨⟨r,h1.1,s,h2.1,rfl⟩,fun x hx=>by
    rcases mem_cons.1 hx with rfl | hx
    ·exact h1.2
    ·exact h2.2 x hx⟩
  ·rintro ⟨⟨r,h1,s,h2,rfl⟩,hp⟩
   exact ⟨r,(h _ _).2 ⟨h1,hp _ (by simp)⟩,s,(decR_P h n _ _).2 ⟨h2,fun x hx=>hp x (by simp [hx])⟩,rfl⟩
theorem listD_P {α : Type} {d e:List Int→Option (α×List Int)} {P : α→Prop} (h:∀ l q,d l=some q↔e l=some q∧P q.1) (l:List Int) (q:List α×List Int):x_hn d l=some q↔x_hn e l=some q∧ ∀ x∈q.1,P x:=by
 unfold x_hn
 cases decN l with
 | none=>simp
 | some r=>exact decR_P h _ _ _
noncomputable def decM (l:List Int):Option (Int×List Int):=(decN l).map fun r=>(r.1-1,r.2)
noncomputable def dNp (dl:List Int→Option (List x_c6×List Int)):List Int→Option (x_df×List Int):=prD decN (prD decN (prD decM (prD decN (prD dl decT))))
theorem cNote_dec:x_tk.dec=dNp (x_hn cE.dec):=rfl
theorem dNp_iff (l:List Int) (q:x_df×List Int):dNp (x_hn dEp) l=some q↔x_tk.dec l=some q∧ ∀ e∈q.1.2.2.2.2.1,COk e.2:=by
 rw [cNote_dec]
 have h0:∀ l q,dEp l=some q↔cE.dec l=some q∧COk q.1.2:=fun l q=>prD_r (c:=decN) (fun l q=>flt_iff) l q
 have h1:=listD_P (d:=dEp) (e:=cE.dec) (P:=fun x:x_c6=>COk x.2) h0
 have h2:=prD_l (c:=decT) (d:=x_hn dEp) (e:=x_hn cE.dec) (P:=fun y:List x_c6=> ∀ x∈y,COk x.2) h1
 have h3:=prD_r (c:=decN) (d:=prD (x_hn dEp) decT) (e:=prD (x_hn cE.dec) decT) (P:=fun y:List x_c6×ByteArray=> ∀ x∈y.1,COk x.2) h2
 have h4:=prD_r (c:=decM) (d:=prD decN (prD (x_hn dEp) decT)) (e:=prD decN (prD (x_hn cE.dec) decT)) (P:=fun y:Int×List x_c6×ByteArray=> ∀ x∈y.2.1,COk x.2) h3
 have h5:=prD_r (c:=decN) (d:=prD decM (prD decN (prD (x_hn dEp) decT))) (e:=prD decM (prD decN (prD (x_hn cE.dec) decT))) (P:=fun y:Int×Int×List x_c6×ByteArray=> ∀ x∈y.2.2.1,COk x.2) h4
 exact prD_r (c:=decN) (d:=prD decN (prD decM (prD decN (prD (x_hn dEp) decT)))) (e:=prD decN (prD decM (prD decN (prD (x_hn cE.dec) decT)))) (P:=fun y:Int×Int×Int×List x_c6×ByteArray=> ∀ x∈y.2.2.2.1,COk x.2) h5 l q
theorem ti_noteIn {K:Nat} (hK:2097152≤K) {b:List Int} (hb:BSt b):Tot (x_qw K b) fun o=>(o.2.1=true→x_tk.dec b=some (o.1,[])∧NtOk o.1)∧(∀ x,x_tk.dec b=some (x,[])→NtOk x→o.2.1=true∧o.1=x)∧EsSz o.1.2.2.2.2.1:=by
 have hl:=hb.2
 unfold x_qw
 have h0:CB b ((b,0,false):x_h):=⟨rfl,Int.le_refl _,by show (0:Int)≤_;omega⟩
 refine tb (x_ej hK hb _ h0) fun v1 g1=>tb (x_ej hK hb _ g1.1.cb) fun v2 g2=>tb (x_ej hK hb _ g2.1.cb) fun v3 g3=>tb (x_ej hK hb _ g3.1.cb) fun v4 g4=>?_
 rw [w6 (n:=v3.1-1) (by omega) (by omega)]
 refine tb (ti_eachE hK hb _ g4.1.cb _ _ _ _ _) fun v5 g5=>?_
 obtain ⟨xs,hx,hz,g5⟩:=g5
 refine tb (x_oh hK hb _ g5.cb) fun v6 g6=>?_
 rw [hx]
 have e:Rd 0 (dNp (x_hn dEp)) b 0 false (v1.1,v2.1,v3.1-1,v4.1,xs,v6.1) v6.2.1.2.1 v6.2.1.2.2:=(g1.1.2.pr (g2.1.2.pr ((g3.1.2.map (fun n=>n-1)).pr (g4.1.2.pr (g5.2.pr g6.1.2))))).mono (Nat.zero_le _)
 have hin:=e.in_
 have no:∀ {f:Bool},f=false→(∀ x,x_tk.dec b=some (x,[])→NtOk x→False)→Tot (some ((v1.1,v2.1,v3.1-1,v4.1,xs,v6.1),f,())) fun o=>(o.2.1=true→x_tk.dec b=some (o.1,[])∧NtOk o.1)∧(∀ x,x_tk.dec b=some (x,[])→NtOk x→o.2.1=true∧o.1=x)∧EsSz o.1.2.2.2.2.1:=fun hf h=>tr ⟨fun k=>by rw [show _=false from hf] at k;exact bad k,fun x h1 h2=>(h x h1 h2).elim,hz⟩
 have back:∀ x,x_tk.dec b=some (x,[])→NtOk x→v6.2.1.2.2=false∧v6.2.1.2.1=(b.length:Int)∧(v1.1,v2.1,v3.1-1,v4.1,xs,v6.1)=x:=fun x h1 h2=>by
  obtain ⟨k1,k2,k3⟩:=e.of_some (q:=(x,[])) ((dNp_iff b (x,[])).2 ⟨h1,h2.2.2.1.cok⟩)
  refine ⟨k1,?_,k2⟩
  have:=congrArg List.length k3
  rw [length_drop] at this
  simp only [length_nil] at this
  omega
 refine tN (fun e1=>?_) fun e1=>no rfl fun x h1 h2=>by rw [(back x h1 h2).1] at e1;exact bad e1
 refine ti (fun e2=>tb (x_p4 hK _ hz) fun v7 g7=>?_) fun e2=>no rfl fun x h1 h2=>e2 (back x h1 h2).2.1
 rw [e1] at e
 have hd:=(dNp_iff _ _).1 e.yes.2
 refine tr ⟨fun k=>⟨?_,g7.1 k⟩,fun x h1 h2=>⟨g7.2 (by rw [(back x h1 h2).2.2];exact h2),(back x h1 h2).2.2⟩,hz⟩
 have:=hd.1
 rw [e2] at this
 rw [show b.drop (0:Int).toNat=b from rfl,show ((b.length:Nat):Int).toNat=b.length by omega,List.drop_length] at this
 exact this
theorem strOf_inj {a b:List Int} (ha:BOk a) (hb:BOk b) (h:(x_jo a).data.toList=(x_jo b).data.toList):a=b:=by
 have:=ba_ext h
 rw [←x_fh ha, ←x_fh hb,this]
def NOP (b:List Int) (a:Int) (o:x_df×Int×Bool×Unit):Prop:=match x_hm (b.drop a.toNat) with
 | some q=>o=(q.1,(b.length:Int)-(q.2.length:Int),true,())
 | none=>o=((0,0,0,0,[],ByteArray.empty),0,false,())
theorem num_split {b:List Int} (hb:BSt b) {a:Int} (ha:0≤a∧a≤(b.length:Int)) {v:Int×Int×Bool×Unit} (g:GN b a v):(v.2.2.1=false→x_hm (b.drop a.toNat)=none)∧(v.2.2.1=true→(0≤v.1∧v.1≤2147483647)∧(a≤v.2.1∧v.2.1≤(b.length:Int))∧b.drop a.toNat=encN v.1++b.drop v.2.1.toNat∧decN (b.drop a.toNat)=some (v.1,b.drop v.2.1.toNat)∧(a:Int)+(encN v.1).length=v.2.1):=by
 have g:=g.rd hb ha
 refine ⟨fun h=>by unfold x_hm;rw [(g.2 h).2];rfl,fun h=>?_⟩
 obtain ⟨h1,h2⟩:=g.1 h
 have hd:=h1.yes.2
 obtain ⟨h3,_⟩:=x_pz (n:=v.1) (r:=b.drop v.2.1.toNat) (hb.1.drop _) hd
 have hi:=h1.in_
 refine ⟨h2,⟨hi.1,hi.2.2⟩,h3,hd,?_⟩
 have:=congrArg List.length h3
 rw [length_append,length_drop,length_drop] at this
 omega
theorem bodyOf {b:List Int} {n s:Int} (h:0≤s∧0≤n):(b.take (s+n).toNat).drop s.toNat=(b.drop s.toNat).take n.toNat:=by
 rw [List.drop_take]
 congr 1
 omega
theorem BOk.take {b:List Int} (h:BOk b) (n:Nat):BOk (b.take n):=fun x hx=>h x (List.mem_of_mem_take hx)
theorem ti_NoteOf {K:Nat} (hK:2097152≤K) (b:List Int) (hb:BSt b) (a:Int) (ha:0≤a∧a≤(b.length:Int)):Tot (x_rh K b a) fun o=>NOP b a o:=by
 have hl:=hb.2
 have no:x_hm (b.drop a.toNat)=none→Tot (some (((0,0,0,0,[],ByteArray.empty):x_df),(0:Int),false,())) fun o=>NOP b a o:=fun h=>tr (by unfold NOP;rw [h])
 unfold x_rh
 refine tb (x_ru hK b hb a (by omega)) fun v g=>?_
 obtain ⟨g1,g2⟩:=num_split hb ha g
 refine tN (fun e=>no (g1 e)) fun e=>?_
 obtain ⟨hv,hf,hs,hd,hlen⟩:=g2 e
 rw [w6 (n:=((b.length:Nat):Int)-v.2.1) (by omega) (by omega),w6 (n:=((b.length:Nat):Int)-v.2.1-4) (by omega) (by omega),w6 (n:=v.2.1+v.1) (by omega) (by omega)]
 refine ti (fun h=>no ?_) fun h=>?_
 ·unfold x_hm
  rw [hd]
  simp only [Option.bind_some]
  cases x_tk.dec ((b.drop v.2.1.toNat).take v.1.toNat) with
  | none=>rfl
  | some x=>
   simp only [Option.bind_some]
   rw [if_neg]
   intro k
   have:=k.1
   rw [length_drop] at this
   omega
 rw [w6 (n:=v.2.1+v.1+4) (by omega) (by omega),bodyOf (by omega)]
 refine tc rfl (t2_ (by omega) ((tc (by omega) ?_)))
 have hbb:BSt ((b.drop v.2.1.toNat).take v.1.toNat):=⟨(hb.1.drop _).take _,by rw [length_take,length_drop];omega⟩
 have hbl:((b.drop v.2.1.toNat).take v.1.toNat).length=v.1.toNat:=by rw [length_take,length_drop];omega
 have hcond:v.1+4≤((b.drop v.2.1.toNat).length:Int):=by rw [length_drop];omega
 refine tb (ti_noteIn hK hbb) fun w gw=>?_
 refine tN (fun e2=>no ?_) fun e2=>?_
 ·unfold x_hm
  rw [hd]
  simp only [Option.bind_some]
  cases hc:x_tk.dec ((b.drop v.2.1.toNat).take v.1.toNat) with
  | none=>rfl
  | some x=>
   simp only [Option.bind_some]
   rw [if_neg]
   rintro ⟨_,k2,k3,_⟩
   obtain ⟨x1,x2⟩:=x
   simp only at k2
   subst k2
   rw [(gw.2.1 x1 hc k3).1] at e2
   exact bad' e2
 obtain ⟨hc,hn⟩:=gw.1 e2
 refine tb (x_oy hK _ gw.2.2) fun u gu=>?_
 have gu:=gu.1 hn
 refine tc rfl (t2_ (by omega) ((tc (by omega) ?_)))
 have he:=(x_tk.ed _ _ _ hbb.1 hc).1
 rw [x_qt,List.append_nil] at he
 have hall:(b.take (v.2.1+v.1+4).toNat).drop a.toNat=(encN v.1++(b.drop v.2.1.toNat).take v.1.toNat)++((b.drop v.2.1.toNat).drop v.1.toNat).take 4:=by
  rw [List.drop_take,hs,show (v.2.1+v.1+4).toNat-a.toNat=(encN v.1).length+(v.1.toNat+4) by omega,List.take_append,List.take_of_length_le (by omega),Nat.add_sub_cancel_left,List.append_assoc]
  congr 1
  rw [List.take_add]
 have hB:x_h3 w.1=(encN v.1++(b.drop v.2.1.toNat).take v.1.toNat)++sum4 ((b.drop v.2.1.toNat).take v.1.toNat):=by
  unfold x_h3
  rw [←he,hbl,show ((v.1.toNat:Nat):Int)=v.1 by omega]
 have hval:x_hm (b.drop a.toNat)=if ((b.drop v.2.1.toNat).drop v.1.toNat).take 4=sum4 ((b.drop v.2.1.toNat).take v.1.toNat) then some (w.1,(b.drop v.2.1.toNat).drop (v.1.toNat+4)) else none:=by
  unfold x_hm
  rw [hd]
  simp only [Option.bind_some,hc]
  by_cases hq:((b.drop v.2.1.toNat).drop v.1.toNat).take 4=sum4 ((b.drop v.2.1.toNat).take v.1.toNat)
  ·rw [if_pos ⟨hcond,rfl,hn,hq⟩,if_pos hq]
  ·rw [if_neg (fun k=>hq k.2.2.2),if_neg hq]
 rw [hall,gu,hB]
 have hbo:BOk ((encN v.1++(b.drop v.2.1.toNat).take v.1.toNat)++sum4 ((b.drop v.2.1.toNat).take v.1.toNat)):=((x_cd _).1.app hbb.1).app (sum4_ok _ hbb.1)
 have hbo2:BOk ((encN v.1++(b.drop v.2.1.toNat).take v.1.toNat)++((b.drop v.2.1.toNat).drop v.1.toNat).take 4):=((x_cd _).1.app hbb.1).app (((hb.1.drop _).drop _).take _)
 refine tn (fun h2=>no ?_) fun h2=>tr ?_
 ·rw [hval,if_neg]
  intro k
  exact h2 (by rw [k])
 ·have:=List.append_cancel_left (strOf_inj hbo hbo2 h2)
  unfold NOP
  rw [hval,if_pos this.symm]
  show (w.1,v.2.1+v.1+4,true,())=_
  congr 2
  rw [length_drop,length_drop]
  omega
theorem x_w1 {x:Bool} (h:(!x)=false):x=true:=by
 cases x with
 | true=>rfl
 | false=>exact h.symm
theorem t2_SumOf {K:Nat} (hK:2097152≤K) (l:List Int) (h:l.length<2000001) (hb:BOk l):Tot (x_ee K l) fun x=>x.1=(sumL l).2*65536+(sumL l).1:=by
 unfold x_ee x_ee.b
 refine l3_ (L:=x_ee.l0 K l) (fun _ _ _ _=>rfl) (fun m x y q=> ∃ i:Nat,q=i∧i+m=l.length∧x=(sumL (l.take i)).1∧y=(sumL (l.take i)).2) (fun m x y q L' hi kk=>?_) (m:=l.length) (by omega) ⟨0,rfl,by omega,rfl,rfl⟩
 obtain ⟨i,rfl,hm,rfl,rfl⟩:=hi
 unfold x_ee.l0b
 rw [tz]
 have hx:=x_s1 (l.take i) fun x hx=>hb x (List.mem_of_mem_take hx)
 refine ti (fun h1=>tc (by omega) (tc h1 ?_)) fun h1=>tr ?_
 ·have hi:i<l.length:=by omega
  have hd:=hb _ (x_ad (z:=(0:Int)) hi)
  have e:=x_wr (l.take i) (l.getD i 0)
  rw [x_d1 hi] at e
  rw [w6 (n:=l.getD i 0) (by omega) (by omega),w6 (n:=(sumL (l.take i)).1+l.getD i 0) (by omega) (by omega),Int.tmod_eq_emod_of_nonneg (by omega),w6 (n:=(sumL (l.take i)).2+((sumL (l.take i)).1+l.getD i 0) % 65521) (by omega) (by omega),Int.tmod_eq_emod_of_nonneg (by omega),wi (i:=i) (by omega)]
  exact kk (m-1) _ _ _ (by omega) ⟨i+1,by push_cast;rfl,by omega,by rw [e],by rw [e]⟩
 ·rw [List.take_of_length_le (show l.length≤i by omega)] at hx ⊢
  show i6 (i6 ((sumL l).2*65536)+(sumL l).1)=_
  rw [w6 (n:=(sumL l).2*65536) (by omega) (by omega),w6 (by omega) (by omega)]
theorem t2_l9Sum {K:Nat} (hK:2097152≤K) (l:List Int) (h:l.length<2000001) (hb:BOk l):Tot (x_os K l) fun x=>x.1=sum4 l:=by
 unfold x_os
 refine tb (t2_SumOf hK l h hb) fun v g=>tr ?_
 have hin:=x_s1 l hb
 rw [g]
 dsimp only
 rw [fsh (by omega),fsh (by omega),fsh (by omega)]
 have e:=x_vo hin.1 hin.2
 unfold sum4
 rw [←e]
 rfl
theorem x_pi:∀ (f g:Nat) (l:List Int),BOk l→l.length<f→l.length<g→x_k9 f l=x_k9 g l
 | f+1,g+1,l,hb,hf,hg=>by
  unfold x_k9
  cases h:x_hm l with
  | none=>rfl
  | some q=>
   obtain ⟨h1,_⟩:=x_wg (r:=q.1) (rest:=q.2) hb h
   have h2:=x_rs q.1
   have h3:=congrArg List.length h1
   rw [length_append] at h3
   simp only
   rw [x_pi f g q.2 (fun x hx=>hb x (by rw [h1];simp [hx])) (by omega) (by omega)]
noncomputable def x_x0 (b:List Int):List x_df×List Int:=x_k9 (b.length+1) b
def NTP (b:List Int) (o:List x_df×Int×Unit):Prop:=o.1=(x_x0 b).1∧o.2.1=(b.length:Int)-((x_x0 b).2.length:Int)∧(∀ r∈o.1,NtOk r)∧o.1.length≤b.length∧0≤o.2.1∧o.2.1≤(b.length:Int)
structure NTI (b:List Int) (m:Nat) (q:List x_df) (x:Int):Prop where
 xx:0≤x∧x≤(b.length:Int)
 mm:(m:Int)=b.length-x
 qq:(q.length:Int)≤x
 o:∀ r∈q,NtOk r
 e:x_x0 b=(q++(x_k9 (b.length+1) (b.drop x.toNat)).1,(x_k9 (b.length+1) (b.drop x.toNat)).2)
theorem NTI.fin {b:List Int} {m:Nat} {q:List x_df} {x:Int} (h:NTI b m q x) (hn:x_hm (b.drop x.toNat)=none):NTP b (q,x,()):=by
 have e:=h.e
 have hx:=h.xx
 unfold x_k9 at e
 rw [hn] at e
 simp only [List.append_nil] at e
 refine ⟨by rw [e],?_,h.o,by have:=h.qq;show q.length≤_;omega,h.xx⟩
 rw [e]
 show x=_
 rw [length_drop]
 omega
theorem NTI.go {b:List Int} (hb:BOk b) {m:Nat} {q:List x_df} {x:Int} (h:NTI b m q x) {r:x_df×List Int} (hn:x_hm (b.drop x.toNat)=some r):NTI b ((b.length:Int)-((b.length:Int)-r.2.length)).toNat (q++[r.1]) ((b.length:Int)-r.2.length)∧((b.length:Int)-((b.length:Int)-r.2.length)).toNat<m:=by
 obtain ⟨h1,h2⟩:=x_wg (r:=r.1) (rest:=r.2) (hb.drop _) hn
 have h3:=x_rs r.1
 have h4:=congrArg List.length h1
 have hx:=h.xx
 have hq:=h.qq
 have hm:=h.mm
 rw [length_append,length_drop] at h4
 have h5:b.drop ((b.length:Int)-r.2.length).toNat=r.2:=by
  have h6:=congrArg (List.drop (x_h3 r.1).length) h1
  rw [List.drop_left' rfl,List.drop_drop] at h6
  rw [show ((b.length:Int)-r.2.length).toNat=x.toNat+(x_h3 r.1).length by omega]
  exact h6
 refine ⟨⟨by omega,by omega,by rw [length_append,length_singleton];push_cast;omega,fun z hz=>?_,?_⟩,by omega⟩
 ·rw [mem_append,mem_singleton] at hz
  rcases hz with hz | rfl
  ·exact h.o z hz
  ·exact h2
 ·rw [h.e,h5]
  conv=>lhs;unfold x_k9
  rw [hn]
  simp only [List.append_assoc,List.singleton_append]
  rw [x_pi b.length (b.length+1) r.2 (fun x hx=>hb.drop _ x (by rw [h1];simp [hx])) (by omega) (by omega)]
theorem NTI.ini (b:List Int):NTI b b.length [] 0:=⟨by omega,by omega,by show ((0:Nat):Int)≤0;decide,fun r hr=>by simp at hr,rfl⟩
theorem ti_Notes {K:Nat} (hK:2097152≤K) (b:List Int) (hb:BSt b):Tot (x_fi K b) fun o=>NTP b o:=by
 have hl:=hb.2
 unfold x_fi x_fi.b
 refine l2_ (L:=x_fi.l0 K b) (fun _ _ _=>rfl) (NTI b) (fun m q x L' hi kk=>?_) (m:=b.length) (by omega) (NTI.ini b)
 unfold x_fi.l0b
 refine tb (ti_NoteOf hK b hb x hi.xx) fun v g=>?_
 have hx:=hi.xx
 have hq:=hi.qq
 unfold NOP at g
 cases hn:x_hm (b.drop x.toNat) with
 | none=>
  rw [hn] at g
  simp only at g
  subst g
  exact tr (hi.fin hn)
 | some r=>
  rw [hn] at g
  simp only at g
  subst g
  have:=hi.go hb.1 hn
  exact tc (by show _≤70368744177664;(try dsimp only);(try simp only [ll_]);omega) (kk _ _ _ this.2 this.1)
theorem x_qb {C X Y β : Type} (cur:C→List Int×Int×Bool) (fl:Bool→Bool) (W:Y→List X→Prop) {dec:List Int→Option (X×List Int)} {b:List Int} {n:Int} (hn:0≤n∧n≤1000) {L:Nat→Int→C→Y→Option β} {B:(Int→C→Y→Option β)→Int→C→Y→Option β}
  (hL:∀ k x c y,L (k+1) x c y=B (L k) x c y) {Q : β→Prop} (c0:C) (h0:CB b (cur c0)) {y0:Y} (hw0:W y0 [])
  (step:∀ (L':Int→C→Y→Option β) (i:Nat) (c:C) (y:Y) (xs:List X),W y xs→CB b (cur c)→(i:Int)<n→xs.length=i→i≤1000→
   (∀ (c':C) (y':Y) (x:X),W y' (xs++[x])→(cur c').1=b→Rd 0 dec b (cur c).2.1 (fl (cur c).2.2) x (cur c').2.1 (fl (cur c').2.2)→Tot (L' ((i:Int)+1) c' y') Q)→Tot (B L' (i:Int) c y) Q)
  (fin:∀ (L':Int→C→Y→Option β) (c:C) (y:Y) (xs:List X),W y xs→CB b (cur c)→xs.length=n.toNat→Rd 0 (decR dec n.toNat) b (cur c0).2.1 (fl (cur c0).2.2) xs (cur c).2.1 (fl (cur c).2.2)→Tot (B L' n c y) Q)
  {k:Nat} (hk:2000002≤k):Tot (L k 0 c0 y0) Q:=by
 refine l3_ (L:=L) (b:=B) hL (fun m x c y=> ∃ (i:Nat) (xs:List X),W y xs∧xs.length=i∧x=i∧i+m=n.toNat∧CB b (cur c)∧Rd 0 (decR dec i) b (cur c0).2.1 (fl (cur c0).2.2) xs (cur c).2.1 (fl (cur c).2.2)) (fun m x c y L' hi kk=>?_) (m:=n.toNat) (by omega) ⟨0,[],hw0,rfl,rfl,by omega,h0,Rd.nil h0.2⟩
 obtain ⟨i,xs,hw,hxl,rfl,hm,hc,hr⟩:=hi
 by_cases h:(i:Int)<n
 ·refine step L' i c y xs hw hc h hxl (by omega) fun c' y' x hw' hb' hx=>?_
  have hs:=hr.snoc hx
  exact kk (m-1) _ _ _ (by omega) ⟨i+1,_,hw',by simp [hxl],by push_cast;rfl,by omega,⟨hb',hs.in_.2⟩,hs.mono (Nat.zero_le _)⟩
 ·have e:n=(i:Int):=by omega
  subst e
  refine fin L' c y xs hw hc (by omega) ?_
  rw [tz]
  exact hr
theorem ti_eachI {K:Nat} (hK:2097152≤K) {b:List Int} (hb:BSt b) (r:x_h) (h:CB b r) (k1 k2:Int):Tot (x_g K r (k1,k2,[])) fun o=> ∃ xs:List x_l9,o.2.1=(k1,k2,xs)∧(xs.length<2097152∧ ∀ x∈xs,ISz x)∧RO 1 id (x_hn x_xz.dec) b r (xs,o.1,()):=by
 have hl:=hb.2
 unfold x_g x_g.b
 refine tb (x_ej hK hb r h) fun v1 g1=>?_
 refine x_he (C:=x_h×Unit) (fun c=>c.1) id (fun (y:TRow) xs=>y=(k1,k2,xs)∧ ∀ x∈xs,ISz x) (dec:=x_xz.dec) hl (n:=v1.1) (L:=fun k x c y=>x_g.l0 K r (k1,k2,[]) k v1 x c y)
  (B:=fun L' x c y=>x_g.l0b K r (k1,k2,[]) (fun _ x c y=>L' x c y) v1 x c y) (fun _ _ _ _=>rfl) v1.2 g1.1.cb ⟨rfl,fun x h=>by simp at h⟩ (fun L' i c y xs hw hc hi hf hi2 hx kk=>?_) (fun L' i c y xs hw hxl hc hi hr=>?_) (by omega)
 ·obtain ⟨rfl,hw⟩:=hw
  unfold x_g.l0b x_ib
  refine ti (fun _=>tN (fun _=>?_) fun e=>by rw [show c.1.2.2=false from hf] at e;cases e) fun h=>absurd hi h
  refine tb (Q:=fun o=> ∃ x:x_l9,o.1=(k1,k2,(xs++[x]))∧ISz x∧RO 1 id x_xz.dec b c.1 (x,o.2)) (tb (x_ej hK hb _ hc) fun w1 e1=>tb (x_oh hK hb _ e1.1.cb) fun w2 e2=>tb (x_oh hK hb _ e2.1.cb) fun w3 e3=>tb (x_ej hK hb _ e3.1.cb) fun w4 e4=>tb (x_ej hK hb _ e4.1.cb) fun w5 e5=>tc (by show _≤70368744177664;(try dsimp only);(try simp only [ll_]);omega) (tr ⟨(w1.1,w2.1,w3.1,w4.1,w5.1),rfl,⟨by show w2.1.size<_;have:=e2.2;omega,by show w3.1.size<_;have:=e3.2;omega⟩,e5.1.1,?_⟩)) fun w e=>?_
  ·exact (e1.1.2.pr (e2.1.2.pr (e3.1.2.pr (e4.1.2.pr e5.1.2)))).mono (t:=1) (by omega)
  obtain ⟨x,e1,e2,e3⟩:=e
  rw [w6 (by omega) (by omega)]
  exact kk w.2 w.1 x ⟨e1,fun z hz=>(mem_append.1 hz).elim (hw z) fun hz=>by first | (rw [mem_singleton.1 hz];exact e2) | trivial⟩ e3.1 e3.2
 ·obtain ⟨rfl,hw⟩:=hw
  unfold x_g.l0b
  have fin:Tot (some (c.1,((k1,k2,xs):TRow),())) fun o=> ∃ xs:List x_l9,o.2.1=(k1,k2,xs)∧(xs.length<2097152∧ ∀ x∈xs,ISz x)∧RO 1 id (x_hn x_xz.dec) b r (xs,o.1,()):=tr ⟨xs,rfl,⟨by omega,hw⟩,hc.1,g1.1.2.list hr⟩
  refine ti (fun h1=>tN (fun e=>by rw [show c.1.2.2=true from hi h1] at e;cases e) fun _=>fin) fun _=>fin
theorem ti_eachM {K:Nat} (hK:2097152≤K) {b:List Int} (hb:BSt b) (r:x_h) (h:CB b r) (k1 k2 k3 k4:Int):Tot (x_e K r (k1,k2,k3,k4,[])) fun o=> ∃ xs:List x_q3,o.2.1=(k1,k2,k3,k4,xs)∧(xs.length<2097152∧ ∀ x∈xs,0≤x.1)∧RO 1 id (x_hn x_1b.dec) b r (xs,o.1,()):=by
 have hl:=hb.2
 unfold x_e x_e.b
 refine tb (x_ej hK hb r h) fun v1 g1=>?_
 refine x_he (C:=x_h×Unit) (fun c=>c.1) id (fun (y:x_at) xs=>y=(k1,k2,k3,k4,xs)∧ ∀ x∈xs,0≤x.1) (dec:=x_1b.dec) hl (n:=v1.1) (L:=fun k x c y=>x_e.l0 K r (k1,k2,k3,k4,[]) k v1 x c y)
  (B:=fun L' x c y=>x_e.l0b K r (k1,k2,k3,k4,[]) (fun _ x c y=>L' x c y) v1 x c y) (fun _ _ _ _=>rfl) v1.2 g1.1.cb ⟨rfl,fun x h=>by simp at h⟩ (fun L' i c y xs hw hc hi hf hi2 hx kk=>?_) (fun L' i c y xs hw hxl hc hi hr=>?_) (by omega)
 ·obtain ⟨rfl,hw⟩:=hw
  unfold x_e.l0b x_gm
  refine ti (fun _=>tN (fun _=>?_) fun e=>by rw [show c.1.2.2=false from hf] at e;cases e) fun h=>absurd hi h
  refine tb (Q:=fun o=> ∃ x:x_q3,o.1=(k1,k2,k3,k4,(xs++[x]))∧0≤x.1∧RO 1 id x_1b.dec b c.1 (x,o.2)) (tb (x_ej hK hb _ hc) fun w1 e1=>tb (x_ej hK hb _ e1.1.cb) fun w2 e2=>tc (by show _≤70368744177664;(try dsimp only);(try simp only [ll_]);omega) (tr ⟨(w1.1,w2.1),rfl,by first | exact e1.2.1 | exact e2.2.1,e2.1.1,?_⟩)) fun w e=>?_
  ·exact (e1.1.2.pr e2.1.2).mono (t:=1) (by omega)
  obtain ⟨x,e1,e2,e3⟩:=e
  rw [w6 (by omega) (by omega)]
  exact kk w.2 w.1 x ⟨e1,fun z hz=>(mem_append.1 hz).elim (hw z) fun hz=>by first | (rw [mem_singleton.1 hz];exact e2) | trivial⟩ e3.1 e3.2
 ·obtain ⟨rfl,hw⟩:=hw
  unfold x_e.l0b
  have fin:Tot (some (c.1,((k1,k2,k3,k4,xs):x_at),())) fun o=> ∃ xs:List x_q3,o.2.1=(k1,k2,k3,k4,xs)∧(xs.length<2097152∧ ∀ x∈xs,0≤x.1)∧RO 1 id (x_hn x_1b.dec) b r (xs,o.1,()):=tr ⟨xs,rfl,⟨by omega,hw⟩,hc.1,g1.1.2.list hr⟩
  refine ti (fun h1=>tN (fun e=>by rw [show c.1.2.2=true from hi h1] at e;cases e) fun _=>fin) fun _=>fin
theorem ti_row {K:Nat} (hK:2097152≤K) {b:List Int} (hb:BSt b) (r:x_h) (h:CB b r):Tot (x_hw K r) fun o=>RO 1 id cRow.dec b r o∧RSz o.1:=by
 unfold x_hw
 refine tb (x_ej hK hb r h) fun v1 g1=>tb (x_ej hK hb _ g1.1.cb) fun v2 g2=>tb (ti_eachI hK hb _ g2.1.cb _ _) fun v3 g3=>tr ?_
 obtain ⟨xs,hx,hz,g3⟩:=g3
 rw [hx]
 exact ⟨⟨g3.1,(g1.1.2.pr (g2.1.2.pr g3.2)).mono (t:=1) (by omega)⟩,hz⟩
theorem ti_maker {K:Nat} (hK:2097152≤K) {b:List Int} (hb:BSt b) (r:x_h) (h:CB b r):Tot (x_gf K r) fun o=>RO 1 id x_ko.dec b r o∧MkS o.1:=by
 unfold x_gf
 refine tb (x_ej hK hb r h) fun v1 g1=>tb (x_ej hK hb _ g1.1.cb) fun v2 g2=>tb (x_ej hK hb _ g2.1.cb) fun v3 g3=>tb (x_ej hK hb _ g3.1.cb) fun v4 g4=>?_
 rw [w6 (n:=v4.1-1) (by omega) (by omega)]
 refine tb (ti_eachM hK hb _ g4.1.cb _ _ _ _) fun v5 g5=>tr ?_
 obtain ⟨xs,hx,hz,g5⟩:=g5
 rw [hx]
 exact ⟨⟨g5.1,(g1.1.2.pr (g2.1.2.pr (g3.1.2.pr ((g4.1.2.map (fun n=>n-1)).pr g5.2)))).mono (t:=1) (by omega)⟩,hz⟩
theorem t2_row {K:Nat} (hK:2097152≤K) {b:List Int} (hb:BSt b) (r:x_h) (h:CB b r):Tot (x_d0 K r) fun o=>RO 1 Bool.not cRow.dec b r o∧RSz o.1:=by
 have hl:=hb.2
 unfold x_d0 x_d0.b
 refine tb (x_gd hK hb r h) fun v1 g1=>tb (x_gd hK hb _ g1.1.cb) fun v2 g2=>tb (x_gd hK hb _ g2.1.cb) fun v3 g3=>?_
 have fin:∀ (c:Int×x_h×Unit) (xs:List x_l9),CB b c.2.1→Rd 1 (x_hn x_xz.dec) b v2.2.1.2.1 (!v2.2.1.2.2) xs c.2.1.2.1 (!c.2.1.2.2)→(xs.length<2097152∧ ∀ x∈xs,ISz x)→Tot (some (((v1.1,v2.1,xs):TRow),c.2.1,())) fun o=>RO 1 Bool.not cRow.dec b r o∧RSz o.1:=fun c xs hc hr hs=>tr (by
  exact ⟨⟨hc.1,(g1.1.2.pr (g2.1.2.pr hr)).mono (t:=1) (by omega)⟩,hs⟩)
 refine x_he (C:=Int×x_h×Unit) (fun c=>c.2.1) Bool.not (fun (y:List x_l9) xs=>y=xs∧ ∀ x∈xs,ISz x) (dec:=x_xz.dec) hl (n:=v3.1) (L:=fun k x c y=>x_d0.l0 K r k v3 x c v1 v2 y)
  (B:=fun L' x c y=>x_d0.l0b K r (fun _ x c _ _ y=>L' x c y) v3 x c v1 v2 y) (fun _ _ _ _=>rfl) v3 g3.1.cb ⟨rfl,fun x h=>by simp at h⟩ (fun L' i c y xs hw hc hi hf hi2 hx kk=>?_) (fun L' i c y xs hw hxl hc hi hr=>?_) (by omega)
 ·obtain ⟨rfl,hw⟩:=hw
  unfold x_d0.l0b
  refine ti (fun _=>tB (fun _=>?_) fun e=>by rw [x_w1 hf] at e;cases e) fun h=>absurd hi h
  refine tb (x_gd hK hb _ hc) fun w1 e1=>tb (x_wh hK hb _ e1.1.cb) fun w2 e2=>tb (x_wh hK hb _ e2.1.cb) fun w3 e3=>tb (x_gd hK hb _ e3.1.cb) fun w4 e4=>tb (x_gd hK hb _ e4.1.cb) fun w5 e5=>tc (by show _≤70368744177664;(try dsimp only);(try simp only [ll_]);omega) ?_
  rw [w6 (by omega) (by omega)]
  exact kk w5 _ (w1.1,w2.1,w3.1,w4.1,w5.1) ⟨rfl,fun z hz=>(mem_append.1 hz).elim (hw z) fun hz=>by rw [mem_singleton.1 hz];exact ⟨by show w2.1.size<_;have:=e2.2;omega,by show w3.1.size<_;have:=e3.2;omega⟩⟩ e5.1.1 ((e1.1.2.pr (e2.1.2.pr (e3.1.2.pr (e4.1.2.pr e5.1.2)))).mono (t:=1) (by omega))
 ·obtain ⟨rfl,hw⟩:=hw
  unfold x_d0.l0b
  refine ti (fun h1=>tB (fun e=>by have:=hi h1;rw [show c.2.1.2.2=true from e] at this;cases this) fun _=>fin c _ hc (g3.1.2.list hr) ⟨by omega,hw⟩) fun _=>fin c _ hc (g3.1.2.list hr) ⟨by omega,hw⟩
theorem t2_maker {K:Nat} (hK:2097152≤K) {b:List Int} (hb:BSt b) (r:x_h) (h:CB b r):Tot (x_bu K r) fun o=>RO 1 Bool.not x_ko.dec b r o∧MkS o.1:=by
 have hl:=hb.2
 unfold x_bu x_bu.b
 refine tb (x_gd hK hb r h) fun v1 g1=>tb (x_gd hK hb _ g1.1.cb) fun v2 g2=>tb (x_gd hK hb _ g2.1.cb) fun v3 g3=>tb (x_gd hK hb _ g3.1.cb) fun v4 g4=>tb (x_gd hK hb _ g4.1.cb) fun v5 g5=>?_
 have fin:∀ (c:Int×x_h×Unit) (xs:List x_q3),CB b c.2.1→Rd 1 (x_hn x_1b.dec) b v4.2.1.2.1 (!v4.2.1.2.2) xs c.2.1.2.1 (!c.2.1.2.2)→(xs.length<2097152∧ ∀ x∈xs,0≤x.1)→Tot (some (((v1.1,v2.1,v3.1,i6 (v4.1-1),xs):x_at),c.2.1,())) fun o=>RO 1 Bool.not x_ko.dec b r o∧MkS o.1:=fun c xs hc hr hs=>tr (by
  rw [w6 (n:=v4.1-1) (by omega) (by omega)]
  exact ⟨⟨hc.1,(g1.1.2.pr (g2.1.2.pr (g3.1.2.pr ((g4.1.2.map (fun n=>n-1)).pr hr)))).mono (t:=1) (by omega)⟩,hs⟩)
 refine x_he (C:=Int×x_h×Unit) (fun c=>c.2.1) Bool.not (fun (y:List x_q3) xs=>y=xs∧ ∀ x∈xs,0≤x.1) (dec:=x_1b.dec) hl (n:=v5.1) (L:=fun k x c y=>x_bu.l0 K r k v5 x c v1 v2 v3 v4 y)
  (B:=fun L' x c y=>x_bu.l0b K r (fun _ x c _ _ _ _ y=>L' x c y) v5 x c v1 v2 v3 v4 y) (fun _ _ _ _=>rfl) v5 g5.1.cb ⟨rfl,fun x h=>by simp at h⟩ (fun L' i c y xs hw hc hi hf hi2 hx kk=>?_) (fun L' i c y xs hw hxl hc hi hr=>?_) (by omega)
 ·obtain ⟨rfl,hw⟩:=hw
  unfold x_bu.l0b
  refine ti (fun _=>tB (fun _=>?_) fun e=>by rw [x_w1 hf] at e;cases e) fun h=>absurd hi h
  refine tb (x_gd hK hb _ hc) fun w1 e1=>tb (x_gd hK hb _ e1.1.cb) fun w2 e2=>tc (by show _≤70368744177664;(try dsimp only);(try simp only [ll_]);omega) ?_
  rw [w6 (by omega) (by omega)]
  exact kk w2 _ (w1.1,w2.1) ⟨rfl,fun z hz=>(mem_append.1 hz).elim (hw z) fun hz=>by rw [mem_singleton.1 hz];exact (by first | exact e1.2.1 | exact e2.2.1)⟩ e2.1.1 ((e1.1.2.pr e2.1.2).mono (t:=1) (by omega))
 ·obtain ⟨rfl,hw⟩:=hw
  unfold x_bu.l0b
  refine ti (fun h1=>tB (fun e=>by have:=hi h1;rw [show c.2.1.2.2=true from e] at this;cases this) fun _=>fin c _ hc (g5.1.2.list hr) ⟨by omega,hw⟩) fun _=>fin c _ hc (g5.1.2.list hr) ⟨by omega,hw⟩
theorem ti_eachG {K:Nat} (hK:2097152≤K) {b:List Int} (hb:BSt b) (r:x_h) (h:CB b r) (k1:Int):Tot (x_f K r (k1,[],[],[])) fun o=> ∃ xs:List (Int×Int),o.2.1=(k1,xs.map Prod.fst,xs.map Prod.snd,[])∧(xs.length<2097152∧ ∀ x∈xs,True)∧RO 1 id (x_hn (cN.pr cN).dec) b r (xs,o.1,()):=by
 have hl:=hb.2
 unfold x_f x_f.b
 refine tb (x_ej hK hb r h) fun v1 g1=>?_
 refine x_he (C:=x_h×Unit) (fun c=>c.1) id (fun (y:x_ar) xs=>y=(k1,xs.map Prod.fst,xs.map Prod.snd,[])∧ ∀ x∈xs,True) (dec:=(cN.pr cN).dec) hl (n:=v1.1) (L:=fun k x c y=>x_f.l0 K r (k1,[],[],[]) k v1 x c y)
  (B:=fun L' x c y=>x_f.l0b K r (k1,[],[],[]) (fun _ x c y=>L' x c y) v1 x c y) (fun _ _ _ _=>rfl) v1.2 g1.1.cb ⟨rfl,fun x h=>by simp at h⟩ (fun L' i c y xs hw hc hi hf hi2 hx kk=>?_) (fun L' i c y xs hw hxl hc hi hr=>?_) (by omega)
 ·obtain ⟨rfl,hw⟩:=hw
  unfold x_f.l0b x_go
  refine ti (fun _=>tN (fun _=>?_) fun e=>by rw [show c.1.2.2=false from hf] at e;cases e) fun h=>absurd hi h
  refine tb (Q:=fun o=> ∃ x:(Int×Int),o.1=(k1,(xs++[x]).map Prod.fst,(xs++[x]).map Prod.snd,[])∧True∧RO 1 id (cN.pr cN).dec b c.1 (x,o.2)) (tb (x_ej hK hb _ hc) fun w1 e1=>tc (by show _≤70368744177664;dsimp only;simp only [length_append,length_cons,length_nil,length_map];omega) (tb (x_ej hK hb _ e1.1.cb) fun w2 e2=>tc (by show _≤70368744177664;dsimp only;simp only [length_append,length_cons,length_nil,length_map];omega) (tr ⟨(w1.1,w2.1),by rw [List.map_append,List.map_append];rfl,trivial,e2.1.1,?_⟩))) fun w e=>?_
  ·exact (e1.1.2.pr e2.1.2).mono (t:=1) (by omega)
  obtain ⟨x,e1,e2,e3⟩:=e
  rw [w6 (by omega) (by omega)]
  exact kk w.2 w.1 x ⟨e1,fun z hz=>(mem_append.1 hz).elim (hw z) fun hz=>by first | (rw [mem_singleton.1 hz];exact e2) | trivial⟩ e3.1 e3.2
 ·obtain ⟨rfl,hw⟩:=hw
  unfold x_f.l0b
  have fin:Tot (some (c.1,((k1,xs.map Prod.fst,xs.map Prod.snd,[]):x_ar),())) fun o=> ∃ xs:List (Int×Int),o.2.1=(k1,xs.map Prod.fst,xs.map Prod.snd,[])∧(xs.length<2097152∧ ∀ x∈xs,True)∧RO 1 id (x_hn (cN.pr cN).dec) b r (xs,o.1,()):=tr ⟨xs,rfl,⟨by omega,hw⟩,hc.1,g1.1.2.list hr⟩
  refine ti (fun h1=>tN (fun e=>by rw [show c.1.2.2=true from hi h1] at e;cases e) fun _=>fin) fun _=>fin
theorem ti_group {K:Nat} (hK:2097152≤K) {b:List Int} (hb:BSt b) (r:x_h) (h:CB b r) (rows:Int) (hr:0≤rows∧rows≤4):Tot (x_aq K r rows) fun o=>RO 1 id (x_k6 rows.toNat).dec b r o∧GSz o.1:=by
 have hl:=hb.2
 unfold x_aq x_aq.b
 refine tb (x_ej hK hb r h) fun v1 g1=>tb (ti_eachG hK hb _ g1.1.cb _) fun v2 g2=>?_
 obtain ⟨ps,hx,hz,g2⟩:=g2
 obtain ⟨c2,t2,u2⟩:=v2
 simp only at hx
 subst hx
 refine x_qb (C:=x_h) (fun c=>c) id (fun (y:List Int) xs=>y=xs) (dec:=decN) (n:=rows) (by omega) (L:=fun k x c y=>x_aq.l0 K r rows k x c (c2,(v1.1,ps.map Prod.fst,ps.map Prod.snd,[]),u2) y)
  (B:=fun L' x c y=>x_aq.l0b K r rows (fun x c _ y=>L' x c y) x c (c2,(v1.1,ps.map Prod.fst,ps.map Prod.snd,[]),u2) y) (fun _ _ _ _=>rfl) c2 ⟨g2.1,g2.2.in_.2⟩ rfl (fun L' i c y xs hw hc hi hxl hi2 kk=>?_) (fun L' c y xs hw hc hxl hr=>?_) (by omega)
 ·subst hw
  unfold x_aq.l0b
  refine ti (fun _=>tb (x_ej hK hb _ hc) fun w1 e1=>tc (by show _≤70368744177664;(try dsimp only);(try simp only [ll_]);omega) ?_) fun h=>absurd hi h
  rw [w6 (by omega) (by omega)]
  exact kk _ _ _ rfl e1.1.1 (e1.1.2.mono (Nat.zero_le _))
 ·subst hw
  unfold x_aq.l0b
  refine ti (fun h=>absurd h (Int.lt_irrefl _)) fun _=>tr ⟨⟨hc.1,?_⟩,?_⟩
  ·exact ((g1.1.2.pr (g2.2.pr hr)).map (fun a:Int×List (Int×Int)×List Int=>(a.1,a.2.1.map Prod.fst,a.2.1.map Prod.snd,a.2.2))).mono (t:=1) (by omega)
  ·exact ⟨by show (ps.map Prod.fst).length<_;rw [length_map];exact hz.1,by show (ps.map Prod.snd).length<_;rw [length_map];exact hz.1,by show y.length<_;omega⟩
theorem t2_group {K:Nat} (hK:2097152≤K) {b:List Int} (hb:BSt b) (r:x_h) (h:CB b r) (rows:Int) (hr:0≤rows∧rows≤4):Tot (x_ab K r rows) fun o=>RO 1 Bool.not (x_k6 rows.toNat).dec b r o∧GSz o.1:=by
 have hl:=hb.2
 unfold x_ab x_ab.b
 refine tb (x_gd hK hb r h) fun v1 g1=>tb (x_gd hK hb _ g1.1.cb) fun v2 g2=>?_
 have fin:∀ (c0:Int×x_h×Unit) (ps:List (Int×Int)),CB b c0.2.1→ps.length<2097152→Rd 1 (x_hn (cN.pr cN).dec) b v1.2.1.2.1 (!v1.2.1.2.2) ps c0.2.1.2.1 (!c0.2.1.2.2)→Tot (x_ab.j0 K (x_ab.l1 K r rows K) c0 v1 (ps.map Prod.fst) (ps.map Prod.snd)) fun o=>RO 1 Bool.not (x_k6 rows.toNat).dec b r o∧GSz o.1:=by
  intro c0 ps h0 hps g
  unfold x_ab.j0
  refine x_qb (C:=Int×x_h×Unit) (fun c=>c.2.1) Bool.not (fun (y:List Int) xs=>y=xs) (dec:=decN) (n:=rows) (by omega) (L:=fun k x c y=>x_ab.l1 K r rows k x c v1 (ps.map Prod.fst) (ps.map Prod.snd) y)
   (B:=fun L' x c y=>x_ab.l1b K r rows (fun x c _ _ _ y=>L' x c y) x c v1 (ps.map Prod.fst) (ps.map Prod.snd) y) (fun _ _ _ _=>rfl) c0 h0 rfl (fun L' i c y xs hw hc hi hxl hi2 kk=>?_) (fun L' c y xs hw hc hxl hr=>?_) (by omega)
  ·subst hw
   unfold x_ab.l1b
   refine ti (fun _=>tb (x_gd hK hb _ hc) fun w1 e1=>tc (by show _≤70368744177664;(try dsimp only);(try simp only [ll_]);omega) ?_) fun h=>absurd hi h
   rw [w6 (by omega) (by omega)]
   exact kk _ _ _ rfl e1.1.1 (e1.1.2.mono (Nat.zero_le _))
  ·subst hw
   unfold x_ab.l1b
   refine ti (fun h=>absurd h (Int.lt_irrefl _)) fun _=>tr ⟨⟨hc.1,?_⟩,?_⟩
   ·exact ((g1.1.2.pr (g.pr hr)).map (fun a:Int×List (Int×Int)×List Int=>(a.1,a.2.1.map Prod.fst,a.2.1.map Prod.snd,a.2.2))).mono (t:=1) (by omega)
   ·exact ⟨by show (ps.map Prod.fst).length<_;rw [length_map];exact hps,by show (ps.map Prod.snd).length<_;rw [length_map];exact hps,by show y.length<_;omega⟩
 refine x_he (C:=Int×x_h×Unit) (fun c=>c.2.1) Bool.not (fun (y:List Int×List Int) xs=>y=(xs.map Prod.fst,xs.map Prod.snd)) (dec:=(cN.pr cN).dec) hl (n:=v2.1) (L:=fun k x c y=>x_ab.l0 K r rows k v2 x c v1 y.1 y.2)
  (B:=fun L' x c y=>x_ab.l0b K r rows (fun _ x c _ y z=>L' x c (y,z)) (x_ab.l1 K r rows K) v2 x c v1 y.1 y.2) (fun _ _ _ _=>rfl) v2 g2.1.cb (y0:=([],[])) rfl (fun L' i c y xs hw hc hi hf hi2 hx kk=>?_) (fun L' i c y xs hw hxl hc hi hr=>?_) (by omega)
 ·subst hw
  unfold x_ab.l0b
  refine ti (fun _=>tB (fun _=>?_) fun e=>by rw [x_w1 hf] at e;cases e) fun h=>absurd hi h
  refine tb (x_gd hK hb _ hc) fun w1 e1=>tb (x_gd hK hb _ e1.1.cb) fun w2 e2=>tc (by show _≤70368744177664;dsimp only;simp only [length_append,length_cons,length_nil,length_map];omega) (tc (by show _≤70368744177664;dsimp only;simp only [length_append,length_cons,length_nil,length_map];omega) ?_)
  rw [w6 (by omega) (by omega)]
  exact kk w2 _ (w1.1,w2.1) (by rw [List.map_append,List.map_append];rfl) e2.1.1 ((e1.1.2.pr e2.1.2).mono (t:=1) (by omega))
 ·subst hw
  unfold x_ab.l0b
  refine ti (fun h1=>tB (fun e=>by have:=hi h1;rw [show c.2.1.2.2=true from e] at this;cases this) fun _=>fin c _ hc (by omega) (g2.1.2.list hr)) fun _=>fin c _ hc (by omega) (g2.1.2.list hr)
theorem ti_each1 {K:Nat} (hK:2097152≤K) {b:List Int} (hb:BSt b) (r:x_h) (h:CB b r)  : Tot (x_r K r ([],[],[],0,[],[])) fun o=> ∃ xs:List TRow,o.2.1=(xs,[],[],0,[],[])∧(xs.length<2097152∧ ∀ x∈xs,RSz x)∧RO 1 id (x_hn cRow.dec) b r (xs,o.1,()):=by
 have hl:=hb.2
 unfold x_r x_r.b
 refine tb (x_ej hK hb r h) fun v1 g1=>?_
 refine x_he (C:=x_h×Unit) (fun c=>c.1) id (fun (y:x_ai) xs=>y=(xs,[],[],0,[],[])∧ ∀ x∈xs,RSz x) (dec:=cRow.dec) hl (n:=v1.1) (L:=fun k x c y=>x_r.l0 K r ([],[],[],0,[],[]) k v1 x c y)
  (B:=fun L' x c y=>x_r.l0b K r ([],[],[],0,[],[]) (fun _ x c y=>L' x c y) v1 x c y) (fun _ _ _ _=>rfl) v1.2 g1.1.cb ⟨rfl,fun x h=>by simp at h⟩ (fun L' i c y xs hw hc hi hf hi2 hx kk=>?_) (fun L' i c y xs hw hxl hc hi hr=>?_) (by omega)
 ·obtain ⟨rfl,hw⟩:=hw
  unfold x_r.l0b x_op
  refine ti (fun _=>tN (fun _=>?_) fun e=>by rw [show c.1.2.2=false from hf] at e;cases e) fun h=>absurd hi h
  refine tb (Q:=fun o=> ∃ x:TRow,o.1=((xs++[x]),[],[],0,[],[])∧RSz x∧RO 1 id cRow.dec b c.1 (x,o.2)) (tb (ti_row hK hb _ hc) fun w1 e1=>tc (by show _≤70368744177664;(try dsimp only);(try simp only [ll_]);omega) (tr ⟨w1.1,rfl,e1.2,e1.1.1,?_⟩)) fun w e=>?_
  ·exact e1.1.2
  obtain ⟨x,e1,e2,e3⟩:=e
  rw [w6 (by omega) (by omega)]
  exact kk w.2 w.1 x ⟨e1,fun z hz=>(mem_append.1 hz).elim (hw z) fun hz=>by first | (rw [mem_singleton.1 hz];exact e2) | trivial⟩ e3.1 e3.2
 ·obtain ⟨rfl,hw⟩:=hw
  unfold x_r.l0b
  have fin:Tot (some (c.1,((xs,[],[],0,[],[]):x_ai),())) fun o=> ∃ xs:List TRow,o.2.1=(xs,[],[],0,[],[])∧(xs.length<2097152∧ ∀ x∈xs,RSz x)∧RO 1 id (x_hn cRow.dec) b r (xs,o.1,()):=tr ⟨xs,rfl,⟨by omega,hw⟩,hc.1,g1.1.2.list hr⟩
  refine ti (fun h1=>tN (fun e=>by rw [show c.1.2.2=true from hi h1] at e;cases e) fun _=>fin) fun _=>fin
theorem ti_each2 {K:Nat} (hK:2097152≤K) {b:List Int} (hb:BSt b) (r:x_h) (h:CB b r) (rs:List TRow):Tot (x_q K r (rs,[],[],0,[],[])) fun o=> ∃ xs:List x_at,o.2.1=(rs,xs,[],0,[],[])∧(xs.length<2097152∧ ∀ x∈xs,MkS x)∧RO 1 id (x_hn x_ko.dec) b r (xs,o.1,()):=by
 have hl:=hb.2
 unfold x_q x_q.b
 refine tb (x_ej hK hb r h) fun v1 g1=>?_
 refine x_he (C:=x_h×Unit) (fun c=>c.1) id (fun (y:x_ai) xs=>y=(rs,xs,[],0,[],[])∧ ∀ x∈xs,MkS x) (dec:=x_ko.dec) hl (n:=v1.1) (L:=fun k x c y=>x_q.l0 K r (rs,[],[],0,[],[]) k v1 x c y)
  (B:=fun L' x c y=>x_q.l0b K r (rs,[],[],0,[],[]) (fun _ x c y=>L' x c y) v1 x c y) (fun _ _ _ _=>rfl) v1.2 g1.1.cb ⟨rfl,fun x h=>by simp at h⟩ (fun L' i c y xs hw hc hi hf hi2 hx kk=>?_) (fun L' i c y xs hw hxl hc hi hr=>?_) (by omega)
 ·obtain ⟨rfl,hw⟩:=hw
  unfold x_q.l0b x_oi
  refine ti (fun _=>tN (fun _=>?_) fun e=>by rw [show c.1.2.2=false from hf] at e;cases e) fun h=>absurd hi h
  refine tb (Q:=fun o=> ∃ x:x_at,o.1=(rs,(xs++[x]),[],0,[],[])∧MkS x∧RO 1 id x_ko.dec b c.1 (x,o.2)) (tb (ti_maker hK hb _ hc) fun w1 e1=>tc (by show _≤70368744177664;(try dsimp only);(try simp only [ll_]);omega) (tr ⟨w1.1,rfl,e1.2,e1.1.1,?_⟩)) fun w e=>?_
  ·exact e1.1.2
  obtain ⟨x,e1,e2,e3⟩:=e
  rw [w6 (by omega) (by omega)]
  exact kk w.2 w.1 x ⟨e1,fun z hz=>(mem_append.1 hz).elim (hw z) fun hz=>by first | (rw [mem_singleton.1 hz];exact e2) | trivial⟩ e3.1 e3.2
 ·obtain ⟨rfl,hw⟩:=hw
  unfold x_q.l0b
  have fin:Tot (some (c.1,((rs,xs,[],0,[],[]):x_ai),())) fun o=> ∃ xs:List x_at,o.2.1=(rs,xs,[],0,[],[])∧(xs.length<2097152∧ ∀ x∈xs,MkS x)∧RO 1 id (x_hn x_ko.dec) b r (xs,o.1,()):=tr ⟨xs,rfl,⟨by omega,hw⟩,hc.1,g1.1.2.list hr⟩
  refine ti (fun h1=>tN (fun e=>by rw [show c.1.2.2=true from hi h1] at e;cases e) fun _=>fin) fun _=>fin
theorem ti_each3 {K:Nat} (hK:2097152≤K) {b:List Int} (hb:BSt b) (r:x_h) (h:CB b r) (rs:List TRow) (ms:List x_at) (p:x_d) (hp:SOk p):Tot (x_p K r (rs,ms,[],0,[],[]) p) fun o=> ∃ xs:List x_ar,o.2.1=(rs,ms,xs,0,[],[])∧o.2.2.1=p∧(xs.length<2097152∧ ∀ x∈xs,GSz x)∧RO 1 id (x_hn (x_k6 p.1.toNat).dec) b r (xs,o.1,()):=by
 have hl:=hb.2
 have hp1:=hp.1
 unfold x_p x_p.b
 refine tb (x_ej hK hb r h) fun v1 g1=>?_
 refine x_he (C:=x_h×Unit) (fun c=>c.1) id (fun (y:x_ai×x_d) xs=>y=((rs,ms,xs,0,[],[]),p)∧ ∀ x∈xs,GSz x) (dec:=(x_k6 p.1.toNat).dec) hl (n:=v1.1) (L:=fun k x c y=>x_p.l0 K r (rs,ms,[],0,[],[]) p k v1 x c y.1 y.2)
  (B:=fun L' x c y=>x_p.l0b K r (rs,ms,[],0,[],[]) p (fun _ x c y z=>L' x c (y,z)) v1 x c y.1 y.2) (fun _ _ _ _=>rfl) v1.2 g1.1.cb (y0:=((rs,ms,[],0,[],[]),p)) ⟨rfl,fun x h=>by simp at h⟩ (fun L' i c y xs hw hc hi hf hi2 hx kk=>?_) (fun L' i c y xs hw hxl hc hi hr=>?_) (by omega)
 ·obtain ⟨rfl,hw⟩:=hw
  unfold x_p.l0b x_oz
  refine ti (fun _=>tN (fun _=>?_) fun e=>by rw [show c.1.2.2=false from hf] at e;cases e) fun h=>absurd hi h
  refine tb (Q:=fun o=> ∃ x:x_ar,o.1=(rs,ms,xs++[x],0,[],[])∧o.2.1=p∧GSz x∧RO 1 id (x_k6 p.1.toNat).dec b c.1 (x,o.2.2)) (tb (ti_group hK hb _ hc _ (by show 0≤p.1∧p.1≤4;omega)) fun w1 e1=>tc (by show _≤70368744177664;(try dsimp only);(try simp only [ll_]);omega) (tr ⟨w1.1,rfl,rfl,e1.2,e1.1.1,?_⟩)) fun w e=>?_
  ·exact e1.1.2
  obtain ⟨x,e1,e4,e2,e3⟩:=e
  rw [w6 (by omega) (by omega)]
  exact kk w.2.2 (w.1,w.2.1) x ⟨by rw [e1,e4],fun z hz=>(mem_append.1 hz).elim (hw z) fun hz=>by rw [mem_singleton.1 hz];exact e2⟩ e3.1 e3.2
 ·obtain ⟨rfl,hw⟩:=hw
  unfold x_p.l0b
  have fin:Tot (some (c.1,((rs,ms,xs,0,[],[]):x_ai),p,())) fun o=> ∃ xs:List x_ar,o.2.1=(rs,ms,xs,0,[],[])∧o.2.2.1=p∧(xs.length<2097152∧ ∀ x∈xs,GSz x)∧RO 1 id (x_hn (x_k6 p.1.toNat).dec) b r (xs,o.1,()):=tr ⟨xs,rfl,rfl,⟨by omega,hw⟩,hc.1,g1.1.2.list hr⟩
  refine ti (fun h1=>tN (fun e=>by rw [show c.1.2.2=true from hi h1] at e;cases e) fun _=>fin) fun _=>fin
def KOP (p:x_d) (b:List Int) (o:x_ai×Bool×Unit):Prop:=match x_hp p b with
 | some k=>o=(k,true,())
 | none=>o=(([],[],[],0,[],[]),false,())
theorem x_yd {p:x_d} {b:List Int} {k:x_ai} {a:Int} {f:Bool} (e:Rd 0 (x_0h p.1.toNat).dec b 0 false k a f):(f=true→x_hp p b=none)∧(a≠(b.length:Int)→x_hp p b=none)∧(¬ KOk p k→x_hp p b=none)∧(f=false→a=(b.length:Int)→KOk p k→x_hp p b=some k):=by
 have hi:=e.in_
 have e0:b.drop (0:Int).toNat=b:=rfl
 cases hf:f with
 | true=>
  have h1:=e.ok rfl
  have:x_hp p b=none:=by
   unfold x_hp
   split at h1
   ·rw [hf] at h1;exact bad h1.1.symm
   ·rename_i hq
    rw [e0] at hq
    rw [hq]
  exact ⟨fun _=>this,fun _=>this,fun _=>this,fun h=>bad h.symm⟩
 | false=>
  rw [hf] at e
  have h1:=e.yes.2
  rw [e0] at h1
  refine ⟨fun h=>bad h,fun h=>?_,fun h=>?_,fun _ h h2=>?_⟩
  ·unfold x_hp
   rw [h1]
   split
   ·rename_i hq
    simp only [sj_,Prod.mk.injEq] at hq
    have:=congrArg List.length hq.2
    rw [length_drop] at this
    simp only [length_nil] at this
    omega
   ·rfl
  ·unfold x_hp
   rw [h1]
   split
   ·rename_i hq
    simp only [sj_,Prod.mk.injEq] at hq
    rw [if_neg]
    rw [←hq.1];exact h
   ·rfl
  ·unfold x_hp
   rw [h1,h,tz,List.drop_length]
   simp only
   rw [if_pos h2]
theorem x_ry {p:x_d} {b:List Int} (h:¬ SOk p):x_hp p b=none:=by
 unfold x_hp
 split
 ·exact if_neg fun k=>h k.1
 ·rfl
theorem ti_KeepOf {K:Nat} (hK:2097152≤K) (p:x_d) (b:List Int) (hb:BSt b):Tot (x_dr K p b) fun o=>KOP p b o:=by
 have hl:=hb.2
 have no:x_hp p b=none→Tot (some ((([],[],[],0,[],[]):x_ai),false,())) fun o=>KOP p b o:=fun h=>tr (by unfold KOP;rw [h])
 unfold x_dr x_dr.b
 refine tb (x_is p) fun v1 g1=>tg g1 (fun a=>no (x_ry a)) fun hp=>?_
 have h0:CB b ((b,0,false):x_h):=⟨rfl,Int.le_refl _,by show (0:Int)≤_;omega⟩
 refine tb (ti_each1 hK hb _ h0) fun v2 g2=>?_
 obtain ⟨rs,e2,z2,g2⟩:=g2
 rw [e2]
 refine tb (ti_each2 hK hb _ ⟨g2.1,g2.2.in_.2⟩ _) fun v3 g3=>?_
 obtain ⟨ms,e3,z3,g3⟩:=g3
 rw [e3]
 refine tb (ti_each3 hK hb _ ⟨g3.1,g3.2.in_.2⟩ _ _ _ hp) fun v4 g4=>?_
 obtain ⟨gs,e4,e5,z4,g4⟩:=g4
 obtain ⟨c4,t4,p4,u4⟩:=v4
 simp only at e4 e5
 subst e4 e5
 refine tb (x_ej hK hb _ ⟨g4.1,g4.2.in_.2⟩) fun v5 g5=>?_
 refine x_qb (C:=x_h×Unit) (fun c=>c.1) id (fun (y:List Int×List x_dl) xs=>y=(xs.map Prod.fst,xs.map Prod.snd)∧ ∀ x∈xs,ASz x.2) (dec:=(cN.pr cAns).dec) (n:=4) (by omega) (L:=fun k x c y=>x_dr.l0 K p4 b k x (c4,(rs,ms,gs,0,[],[]),p4,u4) v5 y.1 y.2 c)
  (B:=fun L' x c y=>x_dr.l0b K p4 b (fun x _ _ y z c=>L' x c (y,z)) x (c4,(rs,ms,gs,0,[],[]),p4,u4) v5 y.1 y.2 c) (fun _ _ _ _=>rfl) v5.2 g5.1.cb (y0:=([],[])) ⟨rfl,fun x h=>by simp at h⟩ (fun L' i c y xs hw hc hi hxl hi2 kk=>?_) (fun L' c y xs hw hc hxl hr=>?_) (by omega)
 ·obtain ⟨rfl,hw⟩:=hw
  unfold x_dr.l0b
  refine ti (fun _=>tb (x_ej hK hb _ hc) fun w1 f1=>tc (by show _≤70368744177664;dsimp only;simp only [length_append,length_cons,length_nil,length_map];omega) (tb (x_ej hK hb _ f1.1.cb) fun w2 f2=>tb (x_ej hK hb _ f2.1.cb) fun w3 f3=>tb (x_oh hK hb _ f3.1.cb) fun w4 f4=>tb (x_oh hK hb _ f4.1.cb) fun w5 f5=>tc (by show _≤70368744177664;dsimp only;simp only [length_append,length_cons,length_nil,length_map];omega) ?_)) fun h=>absurd hi h
  rw [wi (i:=i) (by omega),w6 (n:=w3.1-1) (by omega) (by omega)]
  refine kk w5.2 _ (w1.1,w2.1,w3.1-1,w4.1,w5.1) ⟨by rw [List.map_append,List.map_append];rfl,fun z hz=>(mem_append.1 hz).elim (hw z) fun hz=>by rw [mem_singleton.1 hz];exact ⟨by show w4.1.size<_;have:=f4.2;omega,by show w5.1.size<_;have:=f5.2;omega⟩⟩ f5.1.1 ?_
  exact (f1.1.2.pr (f2.1.2.pr ((f3.1.2.map (fun n=>n-1)).pr (f4.1.2.pr f5.1.2)))).mono (t:=0) (by omega)
 ·obtain ⟨rfl,hw⟩:=hw
  unfold x_dr.l0b
  have e:Rd 0 (x_0h p4.1.toNat).dec b 0 false (rs,ms,gs,v5.1,xs.map Prod.fst,xs.map Prod.snd) c.1.2.1 c.1.2.2:=((g2.2.pr (g3.2.pr (g4.2.pr (g5.1.2.pr hr)))).map (fun a:List TRow×List x_at×List x_ar×Int×List (Int×x_dl)=>(a.1,a.2.1,a.2.2.1,a.2.2.2.1,a.2.2.2.2.map Prod.fst,a.2.2.2.2.map Prod.snd))).mono (t:=0) (by omega)
  obtain ⟨k1,k2,k3,k4⟩:=x_yd e
  refine ti (fun h=>absurd h (by omega)) fun _=>tB (fun h=>no (k1 h)) fun q1=>tn (fun h=>no (k2 h)) fun q2=>?_
  refine tb (x_m1 hK _ _ ⟨z2.1,z2.2,z3,z4.1,z4.2,by show (xs.map Prod.fst).length<_;rw [length_map];omega,by show (xs.map Prod.snd).length<_;rw [length_map];omega,fun a ha=>?_⟩) fun w gw=>tg gw (fun h=>no (k3 h)) fun h=>tr ?_
  ·obtain ⟨x,hx,rfl⟩:=List.mem_map.1 ha
   exact hw x hx
  ·unfold KOP
   rw [k4 q1 q2 h]
theorem t2_l7Keep {K:Nat} (hK:2097152≤K) {b:List Int} (hb:BSt b) (r:x_h) (h:CB b r) (rows:Int) (hr:0≤rows∧rows≤4):Tot (x_j K r rows) fun o=>RO 0 Bool.not (x_0h rows.toNat).dec b r o∧KSz o.1:=by
 have hl:=hb.2
 unfold x_j x_j.b
 have L3:∀ (u:x_h×Unit) (rs:List TRow) (ms:List x_at) (gs:List x_ar) (a1 a2:Int) (f1 f2:Bool),CB b u.1→Rd 1 (x_hn cRow.dec) b r.2.1 (!r.2.2) rs a1 f1→Rd 1 (x_hn x_ko.dec) b a1 f1 ms a2 f2→Rd 1 (x_hn (x_k6 rows.toNat).dec) b a2 f2 gs u.1.2.1 (!u.1.2.2)→(rs.length<2097152∧ ∀ x∈rs,RSz x)→MsSz ms→(gs.length<2097152∧ ∀ x∈gs,GSz x)→Tot (x_j.j0 K (x_j.l3 K r rows K) u rs ms gs) fun o=>RO 0 Bool.not (x_0h rows.toNat).dec b r o∧KSz o.1:=by
  intro u rs ms gs a1 a2 f1 f2 hu d1 d2 d3 z1 z2 z3
  unfold x_j.j0
  refine tb (x_gd hK hb _ hu) fun v7 g7=>?_
  refine x_qb (C:=x_h×Unit) (fun c=>c.1) Bool.not (fun (y:List Int×List x_dl) xs=>y=(xs.map Prod.fst,xs.map Prod.snd)∧ ∀ x∈xs,ASz x.2) (dec:=(cN.pr cAns).dec) (n:=4) (by omega) (L:=fun k x c y=>x_j.l3 K r rows k x c rs ms gs v7 y.1 y.2)
   (B:=fun L' x c y=>x_j.l3b K r rows (fun x c _ _ _ _ y z=>L' x c (y,z)) x c rs ms gs v7 y.1 y.2) (fun _ _ _ _=>rfl) v7.2 g7.1.cb (y0:=([],[])) ⟨rfl,fun x h=>by simp at h⟩ (fun L' i c y xs hw hc hi hxl hi2 kk=>?_) (fun L' c y xs hw hc hxl hr=>?_) (by omega)
  ·obtain ⟨rfl,hw⟩:=hw
   unfold x_j.l3b
   refine ti (fun _=>tb (x_gd hK hb _ hc) fun w1 f1=>tb (x_gd hK hb _ f1.1.cb) fun w2 f2=>tb (x_gd hK hb _ f2.1.cb) fun w3 f3=>tb (x_wh hK hb _ f3.1.cb) fun w4 f4=>tb (x_wh hK hb _ f4.1.cb) fun w5 f5=>tc (by show _≤70368744177664;dsimp only;simp only [length_append,length_cons,length_nil,length_map];omega) (tc (by show _≤70368744177664;dsimp only;simp only [length_append,length_cons,length_nil,length_map];omega) ?_)) fun h=>absurd hi h
   rw [wi (i:=i) (by omega),w6 (n:=w3.1-1) (by omega) (by omega)]
   refine kk w5.2 _ (w1.1,w2.1,w3.1-1,w4.1,w5.1) ⟨by rw [List.map_append,List.map_append];rfl,fun z hz=>(mem_append.1 hz).elim (hw z) fun hz=>by rw [mem_singleton.1 hz];exact ⟨by show w4.1.size<_;have:=f4.2;omega,by show w5.1.size<_;have:=f5.2;omega⟩⟩ f5.1.1 ?_
   exact (f1.1.2.pr (f2.1.2.pr ((f3.1.2.map (fun n=>n-1)).pr (f4.1.2.pr f5.1.2)))).mono (t:=0) (by omega)
  ·obtain ⟨rfl,hw⟩:=hw
   unfold x_j.l3b
   have e:Rd 0 (x_0h rows.toNat).dec b r.2.1 (!r.2.2) (rs,ms,gs,v7.1,xs.map Prod.fst,xs.map Prod.snd) c.1.2.1 (!c.1.2.2):=((d1.pr (d2.pr (d3.pr (g7.1.2.pr hr)))).map (fun a:List TRow×List x_at×List x_ar×Int×List (Int×x_dl)=>(a.1,a.2.1,a.2.2.1,a.2.2.2.1,a.2.2.2.2.map Prod.fst,a.2.2.2.2.map Prod.snd))).mono (t:=0) (by omega)
   refine ti (fun h=>absurd h (by omega)) fun _=>tr ⟨⟨hc.1,e⟩,z1.1,z1.2,z2,z3.1,z3.2,by show (xs.map Prod.fst).length<_;rw [length_map];omega,by show (xs.map Prod.snd).length<_;rw [length_map];omega,fun a ha=>?_⟩
   obtain ⟨x,hx,rfl⟩:=List.mem_map.1 ha
   exact hw x hx
 have L2:∀ (u:x_h×Unit) (rs:List TRow) (ms:List x_at) (a1:Int) (f1:Bool),CB b u.1→Rd 1 (x_hn cRow.dec) b r.2.1 (!r.2.2) rs a1 f1→Rd 1 (x_hn x_ko.dec) b a1 f1 ms u.1.2.1 (!u.1.2.2)→(rs.length<2097152∧ ∀ x∈rs,RSz x)→MsSz ms→Tot (x_j.j1 K (x_j.l2 K r rows K) u rs ms) fun o=>RO 0 Bool.not (x_0h rows.toNat).dec b r o∧KSz o.1:=by
  intro u rs ms a1 f1 hu d1 d2 z1 z2
  unfold x_j.j1
  refine tb (x_gd hK hb _ hu) fun v5 g5=>?_
  have fin:=fun (c:x_h×Unit) (gs:List x_ar) (hc:CB b c.1) (hr:Rd 0 (decR (x_k6 rows.toNat).dec v5.1.toNat) b v5.2.1.2.1 (!v5.2.1.2.2) gs c.1.2.1 (!c.1.2.2)) (hs:gs.length<2097152∧ ∀ x∈gs,GSz x)=>L3 c rs ms gs _ _ _ _ hc d1 d2 (g5.1.2.list hr) z1 z2 hs
  refine x_he (C:=x_h×Unit) (fun c=>c.1) Bool.not (fun (y:List x_ar) xs=>y=xs∧ ∀ x∈xs,GSz x) (dec:=(x_k6 rows.toNat).dec) hl (n:=v5.1) (L:=fun k x c y=>x_j.l2 K r rows k v5 x c rs ms y)
   (B:=fun L' x c y=>x_j.l2b K r rows (fun _ x c _ _ y=>L' x c y) (x_j.l3 K r rows K) v5 x c rs ms y) (fun _ _ _ _=>rfl) v5.2 g5.1.cb ⟨rfl,fun x h=>by simp at h⟩ (fun L' i c y xs hw hc hi hf hi2 hx kk=>?_) (fun L' i c y xs hw hxl hc hi hr=>?_) (by omega)
  ·obtain ⟨rfl,hw⟩:=hw
   unfold x_j.l2b
   refine ti (fun _=>tB (fun _=>?_) fun e=>by rw [x_w1 hf] at e;cases e) fun h=>absurd hi h
   refine tb (t2_group hK hb _ hc _ hr) fun w1 e1=>tc (by show _≤70368744177664;(try dsimp only);(try simp only [ll_]);omega) ?_
   rw [w6 (by omega) (by omega)]
   exact kk w1.2 _ w1.1 ⟨rfl,fun z hz=>(mem_append.1 hz).elim (hw z) fun hz=>by rw [mem_singleton.1 hz];exact e1.2⟩ e1.1.1 e1.1.2
  ·obtain ⟨rfl,hw⟩:=hw
   unfold x_j.l2b
   refine ti (fun h1=>tB (fun e=>by have:=hi h1;rw [show c.1.2.2=true from e] at this;cases this) fun _=>fin c _ hc hr ⟨by omega,hw⟩) fun _=>fin c _ hc hr ⟨by omega,hw⟩
 have L1:∀ (u:x_h×Unit) (rs:List TRow),CB b u.1→Rd 1 (x_hn cRow.dec) b r.2.1 (!r.2.2) rs u.1.2.1 (!u.1.2.2)→(rs.length<2097152∧ ∀ x∈rs,RSz x)→Tot (x_j.j2 K (x_j.l1 K r rows K) u rs) fun o=>RO 0 Bool.not (x_0h rows.toNat).dec b r o∧KSz o.1:=by
  intro u rs hu g z1
  unfold x_j.j2
  refine tb (x_gd hK hb _ hu) fun v3 g3=>?_
  refine x_he (C:=x_h×Unit) (fun c=>c.1) Bool.not (fun (y:List x_at) xs=>y=xs∧ ∀ x∈xs,MkS x) (dec:=x_ko.dec) hl (n:=v3.1) (L:=fun k x c y=>x_j.l1 K r rows k v3 x c rs y)
   (B:=fun L' x c y=>x_j.l1b K r rows (fun _ x c _ y=>L' x c y) (x_j.l2 K r rows K) v3 x c rs y) (fun _ _ _ _=>rfl) v3.2 g3.1.cb ⟨rfl,fun x h=>by simp at h⟩ (fun L' i c y xs hw hc hi hf hi2 hx kk=>?_) (fun L' i c y xs hw hxl hc hi hr=>?_) (by omega)
  ·obtain ⟨rfl,hw⟩:=hw
   unfold x_j.l1b
   refine ti (fun _=>tB (fun _=>?_) fun e=>by rw [x_w1 hf] at e;cases e) fun h=>absurd hi h
   refine tb (t2_maker hK hb _ hc) fun w1 e1=>tc (by show _≤70368744177664;(try dsimp only);(try simp only [ll_]);omega) ?_
   rw [w6 (by omega) (by omega)]
   exact kk w1.2 _ w1.1 ⟨rfl,fun z hz=>(mem_append.1 hz).elim (hw z) fun hz=>by rw [mem_singleton.1 hz];exact e1.2⟩ e1.1.1 e1.1.2
  ·obtain ⟨rfl,hw⟩:=hw
   unfold x_j.l1b
   have fin:=L2 c rs _ _ _ hc g (g3.1.2.list hr) z1 ⟨by omega,hw⟩
   refine ti (fun h1=>tB (fun e=>by have:=hi h1;rw [show c.1.2.2=true from e] at this;cases this) fun _=>fin) fun _=>fin
 refine tb (x_gd hK hb _ h) fun v1 g1=>?_
 refine x_he (C:=x_h×Unit) (fun c=>c.1) Bool.not (fun (y:List TRow) xs=>y=xs∧ ∀ x∈xs,RSz x) (dec:=cRow.dec) hl (n:=v1.1) (L:=fun k x c y=>x_j.l0 K r rows k v1 x c y)
  (B:=fun L' x c y=>x_j.l0b K r rows (fun _ x c y=>L' x c y) (x_j.l1 K r rows K) v1 x c y) (fun _ _ _ _=>rfl) v1.2 g1.1.cb ⟨rfl,fun x h=>by simp at h⟩ (fun L' i c y xs hw hc hi hf hi2 hx kk=>?_) (fun L' i c y xs hw hxl hc hi hr=>?_) (by omega)
 ·obtain ⟨rfl,hw⟩:=hw
  unfold x_j.l0b
  refine ti (fun _=>tB (fun _=>?_) fun e=>by rw [x_w1 hf] at e;cases e) fun h=>absurd hi h
  refine tb (t2_row hK hb _ hc) fun w1 e1=>tc (by show _≤70368744177664;(try dsimp only);(try simp only [ll_]);omega) ?_
  rw [w6 (by omega) (by omega)]
  exact kk w1.2 _ w1.1 ⟨rfl,fun z hz=>(mem_append.1 hz).elim (hw z) fun hz=>by rw [mem_singleton.1 hz];exact e1.2⟩ e1.1.1 e1.1.2
 ·obtain ⟨rfl,hw⟩:=hw
  unfold x_j.l0b
  have fin:=L1 c _ hc (g1.1.2.list hr) ⟨by omega,hw⟩
  refine ti (fun h1=>tB (fun e=>by have:=hi h1;rw [show c.1.2.2=true from e] at this;cases this) fun _=>fin) fun _=>fin
theorem t2_KeepOf {K:Nat} (hK:2097152≤K) (p:x_d) (b:List Int) (hb:BSt b):Tot (x_kd K p b) fun o=>KOP p b o:=by
 have hl:=hb.2
 have no:x_hp p b=none→Tot (some ((([],[],[],0,[],[]):x_ai),false,())) fun o=>KOP p b o:=fun h=>tr (by unfold KOP;rw [h])
 unfold x_kd
 refine tb (x_f5 p) fun v1 g1=>tg g1 (fun a=>no (x_ry a)) fun hp=>?_
 have hp1:=hp.1
 refine tb (t2_l7Keep hK hb ((b,0,true):x_h) ⟨rfl,Int.le_refl _,by show (0:Int)≤_;omega⟩ _ (by omega)) fun v2 g2=>?_
 obtain ⟨k1,k2,k3,k4⟩:=x_yd (p:=p) g2.1.2
 refine tN (fun h=>no (k1 (by rw [h];rfl))) fun q1=>tn (fun h=>no (k2 h)) fun q2=>?_
 refine tb (x_q2 hK p _ g2.2) fun v3 g3=>tg g3 (fun h=>no (k3 h)) fun h=>tr ?_
 unfold KOP
 rw [k4 (by rw [q1];rfl) q2 h]
theorem x_lf (l:TLog) (h:l.2.2.length<2097152):Tot (x_fs l) fun x=>x.1=l:=by
 unfold x_fs
 exact tc (by show _≤70368744177664;(try dsimp only);(try simp only [ll_]);omega) (tr rfl)
theorem x_zf (r:TRow) (h:r.2.2.length<2097152):Tot (x_mv r) fun x=>x.1=r:=by
 unfold x_mv
 exact tc (by show _≤70368744177664;(try dsimp only);(try simp only [ll_]);omega) (tr rfl)
theorem x_f4 (l:List Int) (h:l.length<2097152):Tot (x_e2 l) fun x=>x.1=l:=by
 unfold x_e2
 exact tc (by show _≤70368744177664;(try dsimp only);(try simp only [ll_]);omega) (tr rfl)
theorem x_up (g:x_ar) (h:GSz g):Tot (x_i5 g) fun x=>x.1=g:=by
 unfold x_i5
 exact tv (x_f4 _ h.1) (tv (x_f4 _ h.2.1) (tv (x_f4 _ h.2.2) (tr rfl)))
theorem x_tm (m:x_at) (h:m.2.2.2.2.length<2097152):Tot (x_jj m) fun x=>x.1=m:=by
 unfold x_jj
 exact tc (by show _≤70368744177664;(try dsimp only);(try simp only [ll_]);omega) (tr rfl)
theorem x_sh {K:Nat} (hK:2097152≤K) (l:List x_at) (h:MsSz l):Tot (x_bg K l) fun x=>x.1=l:=by
 have h1:=h.1
 unfold x_bg x_bg.b
 refine l2_ (L:=x_bg.l0 K l) (fun _ _ _=>rfl) (fun m q x=> ∃ i:Nat,x=i∧i+m=l.length∧q=l.take i) (fun m q x L' hi kk=>?_) (m:=l.length) (by omega) ⟨0,rfl,by omega,rfl⟩
 obtain ⟨i,rfl,hm,rfl⟩:=hi
 unfold x_bg.l0b
 rw [tz]
 refine ti (fun h1=>tc (by omega) (tc h1 ?_)) fun h1=>tr (List.take_of_length_le (by omega))
 have hi:i<l.length:=by omega
 refine tv (x_tm _ (h.2 _ (x_ad hi)).1) (tc (by show _≤70368744177664;(try dsimp only);(try simp only [ll_]);omega) ?_)
 rw [w6 (by omega) (by omega)]
 exact kk (m-1) _ _ (by omega) ⟨i+1,by push_cast;rfl,by omega,x_d1 hi⟩
theorem x_l5 {K:Nat} (hK:2097152≤K) (k:x_ai) (h:KSz k):Tot (x_an K k) fun x=>x.1=k:=by
 obtain ⟨z1,z2,z3,z4,z5,z6,z7,z8⟩:=h
 unfold x_an x_an.b
 refine l2_ (L:=x_an.l0 K k) (b:=fun L'=>x_an.l0b K k L' (x_an.l1 K k K)) (fun _ _ _=>rfl) (fun m x q=> ∃ i:Nat,x=i∧i+m=k.1.length∧q=k.1.take i) (fun m x q L' hi kk=>?_) (m:=k.1.length) (by omega) ⟨0,rfl,by omega,rfl⟩
 obtain ⟨i,rfl,hm,rfl⟩:=hi
 unfold x_an.l0b
 rw [tz]
 refine ti (fun h1=>tc (by omega) (tc h1 ?_)) fun h1=>?_
 ·have hi:i<k.1.length:=by omega
  refine tv (x_zf _ (z2 _ (x_ad hi)).1) (tc (by show _≤70368744177664;(try dsimp only);(try simp only [ll_]);omega) ?_)
  rw [w6 (by omega) (by omega)]
  exact kk (m-1) _ _ (by omega) ⟨i+1,by push_cast;rfl,by omega,x_d1 hi⟩
 rw [List.take_of_length_le (show k.1.length≤i by omega)]
 refine l3_ (L:=x_an.l1 K k) (fun _ _ _ _=>rfl) (fun m x r q=>r=k.1∧ ∃ i:Nat,x=i∧i+m=k.2.2.1.length∧q=k.2.2.1.take i) (fun m x r q L' hi kk=>?_) (m:=k.2.2.1.length) (by omega) ⟨rfl,0,rfl,by omega,rfl⟩
 obtain ⟨rfl,i,rfl,hm,rfl⟩:=hi
 unfold x_an.l1b
 rw [tz]
 refine ti (fun h1=>tc (by omega) (tc h1 ?_)) fun h1=>?_
 ·have hi:i<k.2.2.1.length:=by omega
  refine tv (x_up _ (z5 _ (x_ad hi))) (tc (by show _≤70368744177664;(try dsimp only);(try simp only [ll_]);omega) ?_)
  rw [w6 (by omega) (by omega)]
  exact kk (m-1) _ _ _ (by omega) ⟨rfl,i+1,by push_cast;rfl,by omega,x_d1 hi⟩
 ·rw [List.take_of_length_le (show k.2.2.1.length≤i by omega)]
  exact tv (x_sh hK _ z3) (tv (x_f4 _ z6) (tc (by show _≤70368744177664;(try dsimp only);(try simp only [ll_]);omega) (tr rfl)))
theorem x_pk {K:Nat} (hK:2097152≤K) (h:x_dh) (hl:h.2.2.1.2.2.length<2097152) (hk:KSz h.2.2.2):Tot (x_fw K h) fun x=>x.1=h:=by
 unfold x_fw
 exact tv (x_lf _ hl) (tv (x_l5 hK _ hk) (tr rfl))
theorem x_xd (rows:Int) (h:1≤rows∧rows≤4):Tot (x_k3 rows) fun x=>x.1=(0,[],[],List.replicate rows.toNat 0):=by
 unfold x_k3
 exact tb (x_9 _ _ _) fun v hv=>tg hv (fun a=>absurd h a) fun a=>tc rfl (tc (by omega) (tc (by show _≤70368744177664;(try dsimp only);(try simp only [ll_]);omega) (tr rfl)))
theorem x_z7 {K:Nat} (hK:2097152≤K) (s:x_d) (hs:SOk s):Tot (x_dc K s) fun x=>x.1=newK s:=by
 have hr:=hs.1
 unfold x_dc x_dc.b
 refine tb (x_is s) fun v1 g1=>tg g1 (fun a=>absurd hs a) fun _=>tc rfl (tc (by omega) (tc (by show _≤70368744177664;(try dsimp only);(try simp only [ll_]);omega) ?_))
 refine l2_ (L:=x_dc.l0 K s) (fun _ _ _=>rfl) (fun m x q=> ∃ i:Nat,x=i∧i+m=2∧q=List.replicate i (0,[],[],List.replicate s.1.toNat 0)) (fun m x q L' hi kk=>?_) (m:=2) (by omega) ⟨0,rfl,by omega,rfl⟩
 obtain ⟨i,rfl,hm,rfl⟩:=hi
 unfold x_dc.l0b
 refine ti (fun h1=>?_) fun h1=>tr ?_
 ·refine tv (x_xd _ hr) (tc (by show _≤70368744177664;rw [length_replicate];simp;omega) ?_)
  rw [w6 (by omega) (by omega)]
  exact kk (m-1) _ _ (by omega) ⟨i+1,by push_cast;rfl,by omega,by rw [List.replicate_succ']⟩
 ·obtain rfl:i=2:=by omega
  rfl
theorem x_yu {K:Nat} (hK:2097152≤K) (s:x_d) (hs:SOk s):Tot (x_m5 K s) fun x=>x.1=newH s:=by
 unfold x_m5
 exact tb (x_is s) fun v1 g1=>tg g1 (fun a=>absurd hs a) fun _=>tv (x_z7 hK s hs) (tr rfl)
theorem x_0d {K:Nat} (hK:2097152≤K) (s:x_d) (hs:SOk s):Tot (x_g6 K s) fun x=>x.1=newH s:=by
 unfold x_g6
 exact tb (x_f5 s) fun v1 g1=>tg g1 (fun a=>absurd hs a) fun _=>tb (x_mq hK s hs) fun v2 g2=>tr (by rw [g2.2];rfl)
theorem x_z0 {s:x_d} (hs:SOk s):HOk s (newH s):=by
 obtain ⟨v,h,h1,h2⟩:=Tot.and (x_mw (Nat.le_refl _) s hs) (x_0d (Nat.le_refl _) s hs)
 rw [h2] at h1
 exact h1.1
theorem x_qg (l:TLog) (h:LBd l) (i:Int):Tot (x_kg l i) fun x=>x.1=x_k8 l i:=by
 obtain ⟨h1,h2⟩:=h
 have hl:x_fb l=l.1+(l.2.2.length:Int):=rfl
 unfold x_kg x_k8
 refine ti (fun a=>tr (by rw [if_pos a])) fun a=>?_
 rw [if_neg a]
 refine tb (x_9 _ _ _) fun v1 g1=>tg g1 (fun b=>tr (by rw [if_neg (by omega)])) fun b1=>?_
 refine tb (x_9 _ _ _) fun v2 g2=>tg g2 (fun b=>tr (by rw [if_neg (by omega)])) fun b2=>?_
 rw [w6 (n:=i-l.1) (by omega) (by omega),w6 (n:=i-l.1-1) (by omega) (by omega)]
 refine tb (x_9 _ _ _) fun v3 g3=>tg g3 (fun b=>tr (by rw [if_neg (by omega)])) fun b3=>?_
 exact t2_ (by omega) ((tr (by rw [if_pos (by omega)])))
theorem putN_ge {d:Nat} {l es:List x_c6} (h:d≤l.length):∀ j,d+j≤(putN d l es j).length
 | 0=>h
 | j+1=>by
  have:=putN_ge (d:=d) (l:=l) (es:=es) h j
  unfold putN x_jr
  split
  ·omega
  ·simp only [length_append,length_take,length_singleton];omega
theorem ti_LogPut {K:Nat} (hK:2097152≤K) (l:TLog) (hz:LSz l) (a:LOk l) (prev term:Int) (es:List x_c6) (he:EsSz es) (h40:es.length≤40) :
  Tot (x_ea K l prev term es) fun x=>(x_pf l prev term es→x=(x_li l prev es,true,()))∧(¬ x_pf l prev term es→x.2.1=false):=by
 unfold x_ea x_ea.b
 refine tb (x_ud hK l hz) fun v1 g1=>tg g1 (fun b=>absurd a b) fun _=>?_
 refine tb (x_lf l hz.1) fun v2 h2=>?_
 have no:¬ x_pf l prev term es→Tot (some (v2.1,false,())) fun x=>(x_pf l prev term es→x=(x_li l prev es,true,()))∧(¬ x_pf l prev term es→x.2.1=false):=
  fun k=>tr ⟨fun k'=>absurd k' k,fun _=>rfl⟩
 refine ti (fun b=>no fun k=>by have:=k.1;omega) fun b=>?_
 refine tb (x_qg l a.bd prev) fun v3 h3=>tn (fun c=>no fun k=>c (by rw [h3];exact k.2.1)) fun c=>?_
 rw [h3] at c
 have hin:=x_wm (l:=l) (i:=prev) (by omega) a.last.1
 have hlast:=a.last
 have hl0:=a.2.2.1
 have hb0:=a.1
 have hN:x_fb l=l.1+(l.2.2.length:Int):=rfl
 have hd:i6 (prev-l.1)=prev-l.1:=w6 (by omega) (by omega)
 refine l3_ (L:=x_ea.l0 K l prev term es) (fun _ _ _ _=>rfl) (fun m x v q=>v.1=l∧ ∃ j:Nat,x=j∧j+m=es.length∧q=putN (prev-l.1).toNat l.2.2 es j) (fun m x v q L' hi kk=>?_) (m:=es.length) (by omega) ⟨h2,0,rfl,by omega,by rw [h2];rfl⟩
 obtain ⟨hv,j,rfl,hm,rfl⟩:=hi
 have hsz:=x_x3 (d:=(prev-l.1).toNat) hz.2 he.2 j (by omega)
 have hge:=putN_ge (d:=(prev-l.1).toNat) (l:=l.2.2) (es:=es) (by omega) j
 generalize hq:putN (prev-l.1).toNat l.2.2 es j=q at hsz hge
 unfold x_ea.l0b
 rw [hd,w6 (n:=prev-l.1+(j:Int)) (by omega) (by omega),wi (i:=j) (by omega),tz,show Int.toNat (prev-l.1+(j:Int))=(prev-l.1).toNat+j by omega]
 have hql:=hsz.2
 have next:∀ q',q'=putN (prev-l.1).toNat l.2.2 es (j+1)→j<es.length→Tot (L' ((j:Int)+1) v q') fun x=>(x_pf l prev term es→x=(x_li l prev es,true,()))∧(¬ x_pf l prev term es→x.2.1=false):=
  fun q' hq' hj=>kk (m-1) _ _ _ (by omega) ⟨hv,j+1,by push_cast;rfl,by omega,hq'⟩
 refine ti (fun h4=>tc (by omega) (tc h4 ?_)) fun h4=>?_
 ·have hj:j<es.length:=by omega
  refine ti (fun h5=>tc (by omega) (tc h5 (ti (fun h6=>next q ?_ hj) fun h6=>?_))) fun h5=>?_
  ·unfold putN x_jr
   rw [hq,if_pos ⟨by omega,h6⟩]
  ·refine tc rfl (t2_ (by omega) ((tc (by show _≤70368744177664;(try dsimp only);(try simp only [ll_]);omega) (next _ ?_ hj))))
   unfold putN x_jr
   rw [hq,if_neg (fun k=>h6 k.2)]
   simp
  ·refine tc rfl (t2_ (by omega) ((tc (by show _≤70368744177664;(try dsimp only);(try simp only [ll_]);omega) (next _ ?_ hj))))
   unfold putN x_jr
   rw [hq,if_neg (fun k=>by omega)]
   simp
 ·have hj:j=es.length:=by omega
  have hlp:(v.1.1,v.1.2.1,q)=x_li l prev es:=by rw [hv, ←hq,hj];rfl
  refine tb (x_ud hK (v.1.1,v.1.2.1,q) ⟨by show q.length<_;have:=hz.1;omega,hsz.1⟩) fun v4 g4=>tg g4 (fun k=>?_) fun k=>tr ⟨fun _=>by rw [←hlp],fun k'=>absurd ⟨by omega,c,by rw [←hlp];exact k⟩ k'⟩
  exact tv (x_lf l hz.1) (tr ⟨fun k'=>absurd (by rw [hlp];exact k'.2.2) k,fun _=>rfl⟩)
theorem x_wc (l:TLog) (h:LBd l) (i:Int):Tot (x_ow l i) fun x=>x.1=x_hd l i:=by
 obtain ⟨h1,h2⟩:=h
 have hl:x_fb l=l.1+(l.2.2.length:Int):=rfl
 have cp:¬ (l.1<i∧i≤x_fb l∧i≤300∧0≤l.1)→Tot ((x_fs l).bind fun v=>some (v.1,())) fun x=>x.1=x_hd l i:=fun k=>tv (x_lf l h2) (tr (by unfold x_hd;rw [if_neg k]))
 unfold x_ow
 refine tb (x_9 _ _ _) fun v1 g1=>tg g1 (fun b=>cp (by omega)) fun b1=>?_
 refine tb (x_9 _ _ _) fun v2 g2=>tg g2 (fun b=>cp (by omega)) fun b2=>?_
 rw [w6 (n:=i-l.1) (by omega) (by omega),w6 (n:=i-l.1-1) (by omega) (by omega)]
 refine ti (fun b=>cp (by omega)) fun b3=>ti (fun b=>cp (by omega)) fun b4=>?_
 refine t2_ (by omega) ((tc rfl (t2_ (by omega) ((tc (by omega) (tc (by show _≤70368744177664;(try dsimp only);(try simp only [ll_]);omega) (tr ?_)))))))
 unfold x_hd
 rw [if_pos (by omega),tz,List.take_length]
 rfl
theorem t2_l11Do {K:Nat} (hK:2097152≤K) (p:x_d) (h:x_dh) (hh:HOk p h) (r:x_df) (hr:NtOk r):Tot (x_pr K p h r) fun x=>x.1=hdo0 p h r:=by
 obtain ⟨h1,h2,h3,h4,h5⟩:=hh
 have hz:HSz h:=HOk.sz ⟨h1,h2,h3,h4,h5⟩
 have he:=hr.2.2.1
 unfold x_pr hdo0
 refine ti (fun e=>tr (by rw [if_pos e])) fun e1=>?_
 rw [if_neg e1]
 refine ti (fun e2=>?_) fun e2=>?_
 ·rw [if_pos e2]
  refine tb (x_t1 hK _ hz.1 _ _ _ he.sz he.2) fun v1 g1=>?_
  have g:=g1.1 h3
  by_cases k:x_pf h.2.2.1 r.2.2.2.1 r.2.1 r.2.2.2.2.1
  ·rw [g.1 k,if_pos k]
   exact tr rfl
  ·rw [g.2 k,if_neg k]
   exact tr rfl
 ·rw [if_neg e2]
  refine ti (fun _=>?_) fun e3=>absurd (show r.1=1∨r.1=2∨r.1=3 by rcases hr.2.2.2.2 with k | k | k<;>simp [k.1]) (by omega)
  refine tb (t2_KeepOf hK p _ (x_vj _ hr.2.2.2.1)) fun v2 g2=>?_
  unfold KOP at g2
  cases hk:x_hp p (x_co r.2.2.2.2.2) with
  | none=>
   rw [hk] at g2
   simp only at g2
   subst g2
   exact tr rfl
  | some k=>
   rw [hk] at g2
   simp only at g2
   subst g2
   simp only
   refine ti (fun e=>tr (by rw [if_pos e])) fun e=>?_
   rw [if_neg e]
   refine tb (x_hz _ hz.bd _) fun v3 g3=>?_
   rw [g3]
   refine ti (fun e=>?_) fun e=>tr (by rw [if_neg e])
   rw [if_pos e]
   exact tv (x_re _ hz.bd _) (tr rfl)
theorem hdo0_sz {p:x_d} {h:x_dh} (hh:HOk p h) {r:x_df} (hr:NtOk r):HSz (hdo0 p h r):=by
 obtain ⟨v,_,h1,h2⟩:=Tot.and (t_l11Do (Nat.le_refl _) p h hh r hr) (t2_l11Do (Nat.le_refl _) p h hh r hr)
 rwa [h2] at h1
theorem x_va {p:x_d} {h:x_dh} {r:x_df} (k:HOk p h∧NtOk r∧HOk p (hdo0 p h r)):hdo p h r=hdo0 p h r:=by unfold hdo;rw [if_pos k]
theorem hdo_neg {p:x_d} {h:x_dh} {r:x_df} (k:¬ (HOk p h∧NtOk r∧HOk p (hdo0 p h r))):hdo p h r=h:=by unfold hdo;rw [if_neg k]
theorem x_ue {p:x_d} {h:x_dh} {r:x_df} (k:hdo0 p h r=h):hdo p h r=h:=by unfold hdo;split<;>first | exact k | rfl
theorem hdo_ok {p:x_d} {h:x_dh} {r:x_df} (k:HOk p h):HOk p (hdo p h r):=by
 unfold hdo
 split
 ·rename_i e;exact e.2.2
 ·exact k
theorem ti_HardDo {K:Nat} (hK:2097152≤K) (p:x_d) (h:x_dh) (hh:HOk p h) (r:x_df) (hr:NtOk r):Tot (x_gt K p h r) fun x=>x.1=hdo p h r:=by
 have hz:=hh.sz
 have he:=hr.2.2.1
 have cp:=x_pk hK h hz.1.1 hz.2.2
 have j:∀ t:x_dh,hdo0 p h r=t→Tot (x_gt.j0 K p t.1 t.2.1 t.2.2.1.1 t.2.2.1.2.1 t.2.2.1.2.2 t.2.2.2 h) fun x=>x.1=hdo p h r:=fun t ht=>by
  subst ht
  unfold x_gt.j0
  exact tb (x_ky hK p (hdo0 p h r) (hdo0_sz hh hr).w) fun v7 g7=>tg g7 (fun a=>tv cp (tr (hdo_neg fun k=>a k.2.2).symm)) fun a3=>tr (x_va ⟨hh,hr,a3⟩).symm
 unfold x_gt
 refine tb (x_ky hK p h hz.w) fun v1 g1=>tg g1 (fun a=>absurd hh a) fun a1=>?_
 refine tb (x_p4 hK r hr.es) fun v2 g2=>tg g2 (fun a=>absurd hr a) fun a2=>tv cp ?_
 refine ti (fun e=>?_) fun e1=>?_
 ·exact j (r.2.1,r.2.2.1,h.2.2.1,h.2.2.2) (by unfold hdo0;rw [if_pos e])
 refine ti (fun e2=>?_) fun e2=>?_
 ·refine tb (ti_LogPut hK _ hz.1 hh.2.2.1 _ _ _ he.sz he.2) fun v6 g6=>?_
  by_cases k:x_pf h.2.2.1 r.2.2.2.1 r.2.1 r.2.2.2.2.1
  ·rw [g6.1 k]
   exact j (h.1,h.2.1,x_li h.2.2.1 r.2.2.2.1 r.2.2.2.2.1,h.2.2.2) (by unfold hdo0;rw [if_neg e1,if_pos e2,if_pos k])
  ·have same:hdo p h r=h:=x_ue (by unfold hdo0;rw [if_neg e1,if_pos e2,if_neg k])
   refine tB (fun e=>by rw [g6.2 k] at e;cases e) fun _=>?_
   exact tb (x_ky hK p h hz.w) fun v7 g7=>tg g7 (fun a=>tv cp (tr same.symm)) fun a3=>tr same.symm
 ·refine tb (ti_KeepOf hK p _ (x_vj _ hr.2.2.2.1)) fun v2 g2=>?_
  unfold KOP at g2
  cases hk:x_hp p (x_co r.2.2.2.2.2) with
  | none=>
   rw [hk] at g2
   simp only at g2
   subst g2
   exact tr (x_ue (by unfold hdo0;rw [if_neg e1,if_neg e2,hk])).symm
  | some k=>
   rw [hk] at g2
   simp only at g2
   subst g2
   refine tN (fun e=>bad' e) fun _=>ti (fun e=>tr (x_ue (by unfold hdo0;rw [if_neg e1,if_neg e2,hk];exact if_pos e)).symm) fun e=>?_
   refine tb (x_qg _ hz.bd _) fun v3 g3=>?_
   rw [g3]
   refine ti (fun e4=>tv (x_wc _ hz.bd _) ?_) fun e4=>?_
   ·exact j (h.1,h.2.1,x_hd h.2.2.1 r.2.2.2.1,k) (by unfold hdo0;rw [if_neg e1,if_neg e2,hk];simp only;rw [if_neg e,if_pos e4])
   ·exact j (h.1,h.2.1,(r.2.2.2.1,r.2.1,[]),k) (by unfold hdo0;rw [if_neg e1,if_neg e2,hk];simp only;rw [if_neg e,if_neg e4])
theorem hof_ok {p:x_d} (hp:SOk p) (ns:List x_df):HOk p (hof p ns):=by
 have:∀ (ns:List x_df) (h:x_dh),HOk p h→HOk p (ns.foldl (hdo p) h):=fun ns=>by
  induction ns with
  | nil=>exact fun h k=>k
  | cons r ns ih=>exact fun h k=>ih _ (hdo_ok k)
 exact this ns _ (x_z0 hp)
theorem hof_at {p:x_d} {ns:List x_df} {i:Nat} (h:i<ns.length):hof p (ns.take (i+1))=hdo p (hof p (ns.take i)) (ns.getD i zNote):=by
 rw [←x_wl,x_d1 h]
theorem ti_HardOf {K:Nat} (hK:2097152≤K) (p:x_d) (hp:SOk p) (b:List Int) (hb:BSt b):Tot (x_d4 K p b) fun x=>x.1=hof p (x_x0 b).1:=by
 have hl:=hb.2
 unfold x_d4 x_d4.b
 refine tb (x_yu hK p hp) fun v1 g1=>tb (ti_Notes hK b hb) fun v2 g2=>?_
 obtain ⟨e1,e2,e3,e4,e5⟩:=g2
 refine l3_ (L:=x_d4.l0 K p b) (fun _ _ _ _=>rfl) (fun m v x h=>v=v2∧ ∃ i:Nat,x=i∧i+m=v2.1.length∧h.1=hof p (v2.1.take i)) (fun m v x h L' hi kk=>?_) (m:=v2.1.length) (by omega) ⟨rfl,0,rfl,by omega,g1⟩
 obtain ⟨rfl,i,rfl,hm,hh⟩:=hi
 unfold x_d4.l0b
 refine ti (fun a=>?_) fun _=>tr (by rw [List.take_of_length_le (by omega),e1] at hh;exact hh)
 rw [wi (i:=i) (by omega),tz,hh]
 have hi:i<v.1.length:=by omega
 exact tc (by omega) (tc a (tb (ti_HardDo hK p _ (hof_ok hp _) _ (e3 _ (x_ad hi))) fun v3 g3=>kk (m-1) _ _ _ (by omega) ⟨rfl,i+1,by push_cast;rfl,by omega,by rw [g3,hof_at hi]⟩))
theorem x_l8 {α : Type} {a b:List α} {z : α} (h:a.length=b.length) (k:∀ i,i<a.length→a.getD i z=b.getD i z):a=b:=by
 refine List.ext_getElem h fun i h1 h2=>?_
 have:=k i h1
 rwa [x_az h1,x_az h2] at this
theorem same_es {K:Nat} (hK:2097152≤K) (a b:List x_c6) (h:a.length<2097152):Tot (x_dz K a b) fun r=>Is r.1 (a=b):=by
 unfold x_dz x_dz.b
 refine tn (fun e=>tr (x_a fun k=>e (by rw [k]))) fun e=>?_
 have e':a.length=b.length:=by omega
 refine tA (L:=x_dz.l0 K a b) (fun _ _=>rfl) a.length (fun i=>a.getD i x_ay=b.getD i x_ay) (fun i L' hi k ha=>?_) (fun L' ha=>?_) (by omega)
 ·unfold x_dz.l0b
  rw [tz,wi (i:=i) (by omega)]
  have no:a.getD i x_ay≠b.getD i x_ay→a≠b:=fun h k=>h (by rw [k])
  refine ti (fun h1=>tc (by omega) (tc h1 (t2_ (by omega) (?_)))) fun h1=>absurd (show (i:Int)<((a.length:Nat):Int) by omega) h1
  exact tN (fun h=>tr (x_a (no fun e=>by rw [show x_t7 _ _=true from (x_e1 x_dp _ _ rfl).2 e] at h;cases h))) fun h=>k ((x_e1 x_dp _ _ rfl).1 h)
 ·unfold x_dz.l0b
  exact ti (fun h1=>absurd h1 (by omega)) fun h1=>tr (x_eg (x_l8 e' ha))
theorem same_log {K:Nat} (hK:2097152≤K) (a b:TLog) (h:a.2.2.length<2097152):Tot (x_ne K a b) fun r=>Is r.1 (a=b):=by
 unfold x_ne
 refine ti (fun e1=>ti (fun e2=>tb (same_es hK _ _ h) fun v g=>tr ?_) fun e=>tr (x_a fun k=>e (by rw [k]))) fun e=>tr (x_a fun k=>e (by rw [k]))
 exact ⟨fun h=>Prod.ext e1 (Prod.ext e2 (g.1 h)),fun k=>g.2 (by rw [k])⟩
theorem x_yb {K:Nat} (hK:2097152≤K) (a b:List x_l9) (h:a.length<2097152):Tot (x_c4 K a b) fun r=>Is r.1 (a=b):=by
 unfold x_c4 x_c4.b
 refine tn (fun e=>tr (x_a fun k=>e (by rw [k]))) fun e=>?_
 have e':a.length=b.length:=by omega
 refine tA (L:=x_c4.l0 K a b) (fun _ _=>rfl) a.length (fun i=>a.getD i x_ce=b.getD i x_ce) (fun i L' hi k ha=>?_) (fun L' ha=>?_) (by omega)
 ·unfold x_c4.l0b
  rw [tz,wi (i:=i) (by omega)]
  have no:a.getD i x_ce≠b.getD i x_ce→a≠b:=fun h k=>h (by rw [k])
  refine ti (fun h1=>tc (by omega) (tc h1 (t2_ (by omega) (?_)))) fun h1=>absurd (show (i:Int)<((a.length:Nat):Int) by omega) h1
  exact tN (fun h=>tr (x_a (no fun e=>by rw [show qItem _ _=true from (x_e1 x_sl _ _ rfl).2 e] at h;cases h))) fun h=>k ((x_e1 x_sl _ _ rfl).1 h)
 ·unfold x_c4.l0b
  exact ti (fun h1=>absurd h1 (by omega)) fun h1=>tr (x_eg (x_l8 e' ha))
theorem same_row {K:Nat} (hK:2097152≤K) (a b:TRow) (h:RSz a):Tot (x_h0 K a b) fun r=>Is r.1 (a=b):=by
 unfold x_h0
 refine ti (fun e1=>ti (fun e2=>tb (x_yb hK _ _ h.1) fun v g=>tr ?_) fun e=>tr (x_a fun k=>e (by rw [k]))) fun e=>tr (x_a fun k=>e (by rw [k]))
 exact ⟨fun h=>Prod.ext e1 (Prod.ext e2 (g.1 h)),fun k=>g.2 (by rw [k])⟩
theorem same_rows {K:Nat} (hK:2097152≤K) (a b:List TRow) (h:a.length<2097152) (hz:∀ x∈a,RSz x):Tot (x_n K a b) fun r=>Is r.1 (a=b):=by
 unfold x_n x_n.b
 refine tn (fun e=>tr (x_a fun k=>e (by rw [k]))) fun e=>?_
 have e':a.length=b.length:=by omega
 refine tA (L:=x_n.l0 K a b) (fun _ _=>rfl) a.length (fun i=>a.getD i zRow=b.getD i zRow) (fun i L' hi k ha=>?_) (fun L' ha=>?_) (by omega)
 ·unfold x_n.l0b
  rw [tz,wi (i:=i) (by omega)]
  have no:a.getD i zRow≠b.getD i zRow→a≠b:=fun h k=>h (by rw [k])
  refine ti (fun h1=>tc (by omega) (tc h1 (t2_ (by omega) (?_)))) fun h1=>absurd (show (i:Int)<((a.length:Nat):Int) by omega) h1
  exact tb (same_row hK _ _ (hz _ (x_ad hi))) fun v g=>tg g (fun h=>tr (x_a (no h))) fun h=>k h
 ·unfold x_n.l0b
  exact ti (fun h1=>absurd h1 (by omega)) fun h1=>tr (x_eg (x_l8 e' ha))
theorem x_0p {K:Nat} (hK:2097152≤K) (a b:List x_q3) (h:a.length<2097152):Tot (x_ct K a b) fun r=>Is r.1 (a=b):=by
 unfold x_ct x_ct.b
 refine tn (fun e=>tr (x_a fun k=>e (by rw [k]))) fun e=>?_
 have e':a.length=b.length:=by omega
 refine tA (L:=x_ct.l0 K a b) (fun _ _=>rfl) a.length (fun i=>a.getD i x_ie=b.getD i x_ie) (fun i L' hi k ha=>?_) (fun L' ha=>?_) (by omega)
 ·unfold x_ct.l0b
  rw [tz,wi (i:=i) (by omega)]
  have no:a.getD i x_ie≠b.getD i x_ie→a≠b:=fun h k=>h (by rw [k])
  refine ti (fun h1=>tc (by omega) (tc h1 (t2_ (by omega) (?_)))) fun h1=>absurd (show (i:Int)<((a.length:Nat):Int) by omega) h1
  exact tN (fun h=>tr (x_a (no fun e=>by rw [show qMark _ _=true from (x_e1 x_rv _ _ rfl).2 e] at h;cases h))) fun h=>k ((x_e1 x_rv _ _ rfl).1 h)
 ·unfold x_ct.l0b
  exact ti (fun h1=>absurd h1 (by omega)) fun h1=>tr (x_eg (x_l8 e' ha))
theorem x_y8 {K:Nat} (hK:2097152≤K) (a b:x_at) (h:MkS a):Tot (x_hx K a b) fun r=>Is r.1 (a=b):=by
 unfold x_hx
 refine ti (fun e1=>ti (fun e2=>ti (fun e3=>ti (fun e4=>tb (x_0p hK _ _ h.1) fun v g=>tr ?_) fun e=>tr (x_a fun k=>e (by rw [k]))) fun e=>tr (x_a fun k=>e (by rw [k]))) fun e=>tr (x_a fun k=>e (by rw [k]))) fun e=>tr (x_a fun k=>e (by rw [k]))
 exact ⟨fun h=>Prod.ext e1 (Prod.ext e2 (Prod.ext e3 (Prod.ext e4 (g.1 h)))),fun k=>g.2 (by rw [k])⟩
theorem x_w2 {K:Nat} (hK:2097152≤K) (a b:List x_at) (h:a.length<2097152) (hz:∀ x∈a,MkS x):Tot (x_m K a b) fun r=>Is r.1 (a=b):=by
 unfold x_m x_m.b
 refine tn (fun e=>tr (x_a fun k=>e (by rw [k]))) fun e=>?_
 have e':a.length=b.length:=by omega
 refine tA (L:=x_m.l0 K a b) (fun _ _=>rfl) a.length (fun i=>a.getD i x_bb=b.getD i x_bb) (fun i L' hi k ha=>?_) (fun L' ha=>?_) (by omega)
 ·unfold x_m.l0b
  rw [tz,wi (i:=i) (by omega)]
  have no:a.getD i x_bb≠b.getD i x_bb→a≠b:=fun h k=>h (by rw [k])
  refine ti (fun h1=>tc (by omega) (tc h1 (t2_ (by omega) (?_)))) fun h1=>absurd (show (i:Int)<((a.length:Nat):Int) by omega) h1
  exact tb (x_y8 hK _ _ (hz _ (x_ad hi))) fun v g=>tg g (fun h=>tr (x_a (no h))) fun h=>k h
 ·unfold x_m.l0b
  exact ti (fun h1=>absurd h1 (by omega)) fun h1=>tr (x_eg (x_l8 e' ha))
theorem x_nc {K:Nat} (hK:2097152≤K) (a b:List Int) (h:a.length<2097152):Tot (x_cb K a b) fun r=>Is r.1 (a=b):=by
 unfold x_cb x_cb.b
 refine tn (fun e=>tr (x_a fun k=>e (by rw [k]))) fun e=>?_
 have e':a.length=b.length:=by omega
 refine tA (L:=x_cb.l0 K a b) (fun _ _=>rfl) a.length (fun i=>a.getD i 0=b.getD i 0) (fun i L' hi k ha=>?_) (fun L' ha=>?_) (by omega)
 ·unfold x_cb.l0b
  rw [tz,wi (i:=i) (by omega)]
  have no:a.getD i 0≠b.getD i 0→a≠b:=fun h k=>h (by rw [k])
  refine ti (fun h1=>tc (by omega) (tc h1 (t2_ (by omega) (?_)))) fun h1=>absurd (show (i:Int)<((a.length:Nat):Int) by omega) h1
  exact tn (fun h=>tr (x_a (no h))) fun h=>k h
 ·unfold x_cb.l0b
  exact ti (fun h1=>absurd h1 (by omega)) fun h1=>tr (x_eg (x_l8 e' ha))
theorem x_y6 {K:Nat} (hK:2097152≤K) (a b:x_ar) (h:GSz a):Tot (x_h6 K a b) fun r=>Is r.1 (a=b):=by
 unfold x_h6
 refine ti (fun e1=>tb (x_nc hK _ _ h.1) fun v1 g1=>tf g1 (fun e2=>tb (x_nc hK _ _ h.2.1) fun v2 g2=>tf g2 (fun e3=>tb (x_nc hK _ _ h.2.2) fun v g=>tr ?_) fun e=>tr (x_a fun k=>e (by rw [k]))) fun e=>tr (x_a fun k=>e (by rw [k]))) fun e=>tr (x_a fun k=>e (by rw [k]))
 exact ⟨fun h=>Prod.ext e1 (Prod.ext e2 (Prod.ext e3 (g.1 h))),fun k=>g.2 (by rw [k])⟩
theorem x_xg {K:Nat} (hK:2097152≤K) (a b:List x_ar) (h:a.length<2097152) (hz:∀ x∈a,GSz x):Tot (x_o K a b) fun r=>Is r.1 (a=b):=by
 unfold x_o x_o.b
 refine tn (fun e=>tr (x_a fun k=>e (by rw [k]))) fun e=>?_
 have e':a.length=b.length:=by omega
 refine tA (L:=x_o.l0 K a b) (fun _ _=>rfl) a.length (fun i=>a.getD i x_bv=b.getD i x_bv) (fun i L' hi k ha=>?_) (fun L' ha=>?_) (by omega)
 ·unfold x_o.l0b
  rw [tz,wi (i:=i) (by omega)]
  have no:a.getD i x_bv≠b.getD i x_bv→a≠b:=fun h k=>h (by rw [k])
  refine ti (fun h1=>tc (by omega) (tc h1 (t2_ (by omega) (?_)))) fun h1=>absurd (show (i:Int)<((a.length:Nat):Int) by omega) h1
  exact tb (x_y6 hK _ _ (hz _ (x_ad hi))) fun v g=>tg g (fun h=>tr (x_a (no h))) fun h=>k h
 ·unfold x_o.l0b
  exact ti (fun h1=>absurd h1 (by omega)) fun h1=>tr (x_eg (x_l8 e' ha))
theorem same_ans {K:Nat} (hK:2097152≤K) (a b:List x_dl) (h:a.length<2097152):Tot (x_cs K a b) fun r=>Is r.1 (a=b):=by
 unfold x_cs x_cs.b
 refine tn (fun e=>tr (x_a fun k=>e (by rw [k]))) fun e=>?_
 have e':a.length=b.length:=by omega
 refine tA (L:=x_cs.l0 K a b) (fun _ _=>rfl) a.length (fun i=>a.getD i x_b7=b.getD i x_b7) (fun i L' hi k ha=>?_) (fun L' ha=>?_) (by omega)
 ·unfold x_cs.l0b
  rw [tz,wi (i:=i) (by omega)]
  have no:a.getD i x_b7≠b.getD i x_b7→a≠b:=fun h k=>h (by rw [k])
  refine ti (fun h1=>tc (by omega) (tc h1 (t2_ (by omega) (?_)))) fun h1=>absurd (show (i:Int)<((a.length:Nat):Int) by omega) h1
  exact tN (fun h=>tr (x_a (no fun e=>by rw [show x_wi _ _=true from (x_e1 x_bz _ _ rfl).2 e] at h;cases h))) fun h=>k ((x_e1 x_bz _ _ rfl).1 h)
 ·unfold x_cs.l0b
  exact ti (fun h1=>absurd h1 (by omega)) fun h1=>tr (x_eg (x_l8 e' ha))
theorem same_keep {K:Nat} (hK:2097152≤K) (a b:x_ai) (h:KSz a):Tot (x_k4 K a b) fun r=>Is r.1 (a=b):=by
 obtain ⟨z1,z2,z3,z4,z5,z6,z7,z8⟩:=h
 unfold x_k4
 refine tb (same_rows hK _ _ z1 z2) fun v1 g1=>tb (x_w2 hK _ _ z3.1 z3.2) fun v2 g2=>tb (x_xg hK _ _ z4 z5) fun v3 g3=>?_
 refine tf g1 (fun e1=>tf g2 (fun e2=>tf g3 (fun e3=>ti (fun e4=>tb (x_nc hK _ _ z6) fun v4 g4=>tf g4 (fun e5=>tb (same_ans hK _ _ z7) fun v g=>tr ?_) fun e=>tr (x_a fun k=>e (by rw [k]))) fun e=>tr (x_a fun k=>e (by rw [k]))) fun e=>tr (x_a fun k=>e (by rw [k]))) fun e=>tr (x_a fun k=>e (by rw [k]))) fun e=>tr (x_a fun k=>e (by rw [k]))
 exact ⟨fun h=>Prod.ext e1 (Prod.ext e2 (Prod.ext e3 (Prod.ext e4 (Prod.ext e5 (g.1 h))))),fun k=>g.2 (by rw [k])⟩
theorem same_hard {K:Nat} (hK:2097152≤K) (a b:x_dh) (h:HSz a):Tot (x_k1 K a b) fun r=>Is r.1 (a=b):=by
 unfold x_k1
 refine ti (fun e1=>ti (fun e2=>tb (same_log hK _ _ h.1.1) fun v1 g1=>tf g1 (fun e3=>tb (same_keep hK _ _ h.2.2) fun v g=>tr ?_) fun e=>tr (x_a fun k=>e (by rw [k]))) fun e=>tr (x_a fun k=>e (by rw [k]))) fun e=>tr (x_a fun k=>e (by rw [k]))
 exact ⟨fun h=>Prod.ext e1 (Prod.ext e2 (Prod.ext e3 (g.1 h))),fun k=>g.2 (by rw [k])⟩
theorem ti_Kept {K:Nat} (hK:2097152≤K) (p:x_d) (hp:SOk p) (n:x_bq) (hb:BSt n.2.2.2.2.2.2.2.2.1.1):Tot (i_Kept K p n) fun r=>Is r.1 (hof p (x_x0 n.2.2.2.2.2.2.2.2.1.1).1=n.2.1):=by
 unfold i_Kept
 refine tb (ti_HardOf hK p hp _ hb) fun v1 g1=>?_
 rw [g1]
 exact tb (same_hard hK _ _ (hof_ok hp _).sz) fun v g=>tr g
variable {K N:Nat}
noncomputable def kRow (r:TRow):List Int:=x_i9 [r.1,r.2.1,(r.2.2.length:Int)]++r.2.2.flatMap x_xz.enc
noncomputable def x_mk (m:x_at):List Int:=x_i9 [m.1,m.2.1,m.2.2.1,i6 (m.2.2.2.1+1),(m.2.2.2.2.length:Int)]++m.2.2.2.2.flatMap x_1b.enc
noncomputable def x_kb (g:x_ar):List Int:=x_i9 [g.1,(g.2.1.length:Int)]++((g.2.1.zip g.2.2.1).flatMap (cN.pr cN).enc++x_i9 g.2.2.2)
noncomputable def x_sf (d:Int×x_dl):List Int:=x_i9 [d.1,d.2.1,i6 (d.2.2.1+1)]++(encT d.2.2.2.1++encT d.2.2.2.2)
noncomputable def kB (k:x_ai):List Int:=encN (k.1.length:Int)++(k.1.flatMap kRow++(encN (k.2.1.length:Int)++(k.2.1.flatMap x_mk++(encN (k.2.2.1.length:Int)++(k.2.2.1.flatMap x_kb++(encN k.2.2.2.1++(k.2.2.2.2.1.zip k.2.2.2.2.2).flatMap x_sf))))))
theorem x_g0 {α : Type} {l:List α} {i:Nat} {z : α} {f : α→List Int} (h:i<l.length):(l.take (i+1)).flatMap f=(l.take i).flatMap f++f (l.getD i z):=by
 rw [←x_d1 (z:=z) h,List.flatMap_append,List.flatMap_cons,List.flatMap_nil,List.append_nil]
theorem zip_at {α β : Type} {a:List α} {b:List β} {i:Nat} {y : α} {z : β} (h:i<a.length) (k:i<b.length):(a.zip b).getD i (y,z)=(a.getD i y,b.getD i z):=by
 rw [x_az (by rw [List.length_zip];omega),x_az h,x_az k,List.getElem_zip]
theorem x_r2 (hK:2097152≤K) (l:List Int) (h:l.length<200000):Tot (x_cc K l) fun x=>x.1.length≤5*l.length∧x.1=x_i9 l:=(x_ts hK l h).mono fun x e=>⟨by rw [e];exact (x_ez l).2,e⟩
theorem w_num (hK:2097152≤K) (n:Int):Tot (x_bw K n) fun x=>x.1.length≤5∧x.1=encN n:=(x_gc hK n).mono fun x e=>⟨by rw [e];exact (x_cd n).2,e⟩
theorem w_text (hK:2097152≤K) (s:ByteArray) (h:s.size≤30):Tot (x_e4 K s) fun x=>x.1.length≤35∧x.1=encT s:=(x_kk hK s (by omega)).mono fun x e=>⟨by rw [e];have:=(x_f9 s).2;omega,e⟩
theorem x_sa (hK:2097152≤K) (p:x_d) (k:x_ai) (h:KW N p k) (hN:N≤100000):Tot (x_b K k) fun x=>x.1=kB k:=by
 obtain ⟨h1,h2,h3,h4,h5,h6,h7,h8,h9,h10⟩:=h
 have hr:=h1.1
 have L6:∀ q:List Int,q.length≤80000+100*N→Tot (x_b.l6 K k K q 0) fun x=>x.1=q++(k.2.2.2.2.1.zip k.2.2.2.2.2).flatMap x_sf:=fun q0 hq=>by
  have hz:(k.2.2.2.2.1.zip k.2.2.2.2.2).length=4:=by rw [List.length_zip];omega
  refine l2_ (L:=x_b.l6 K k) (fun _ _ _=>rfl) (fun m q x=> ∃ i:Nat,x=i∧i+m=4∧q.length≤80000+100*N+100*i∧q=q0++((k.2.2.2.2.1.zip k.2.2.2.2.2).take i).flatMap x_sf) (fun m q x L' hi kk=>?_) (m:=4) (by omega) ⟨0,rfl,rfl,hq,by simp⟩
  obtain ⟨i,rfl,hm,hq,hb⟩:=hi
  unfold x_b.l6b
  refine ti (fun a=>?_) fun a=>tr (by rw [List.take_of_length_le (by omega)] at hb;exact hb)
  have ha:=h10 i (by omega)
  rw [wi (i:=i) (by omega),tz]
  refine t2_ (by omega) ((t2_ (by omega) ((tb (x_r2 hK _ (by show (3:Nat)<_;decide)) fun v15 g15=>?_))))
  have e15:v15.1.length≤15:=g15.1
  refine tc (by show _≤70368744177664;(try dsimp only);(try simp only [ll_]);omega) (tb (w_text hK _ ha.1) fun v16 g16=>tc (by show _≤70368744177664;simp only [length_append];omega) (tb (w_text hK _ ha.2) fun v17 g17=>tc (by show _≤70368744177664;simp only [length_append];omega) ?_))
  refine kk (m-1) _ _ (by omega) ⟨i+1,by push_cast;rfl,by omega,by simp only [length_append];omega,?_⟩
  rw [x_g0 (z:=((0:Int),x_b7)) (by omega),zip_at (by omega) (by omega),hb,g15.2,g16.2,g17.2]
  unfold x_sf
  simp only [List.append_assoc]
 have L4:∀ q:List Int,q.length≤70000+100*N→Tot (x_b.l4 K k K q 0) fun x=>x.1=q++(k.2.2.1.flatMap x_kb++(encN k.2.2.2.1++(k.2.2.2.2.1.zip k.2.2.2.2.2).flatMap x_sf)):=fun q0 hq=>by
  refine l2_ (L:=x_b.l4 K k) (b:=fun L'=>x_b.l4b K k (x_b.l5 K k L' K) (x_b.l6 K k K)) (fun _ _ _=>rfl) (fun m q x=> ∃ i:Nat,x=i∧i+m=2∧q.length≤70000+100*N+1000*i∧q=q0++(k.2.2.1.take i).flatMap x_kb) (fun m q x L' hi kk=>?_) (m:=2) (by omega) ⟨0,rfl,rfl,hq,by simp⟩
  obtain ⟨i,rfl,hm,hq,hb⟩:=hi
  unfold x_b.l4b
  refine ti (fun a=>?_) fun a=>tb (w_num hK _) fun v g=>tc (by show _≤70368744177664;(try dsimp only);(try simp only [ll_]);omega) ((L6 _ (by rw [length_append];omega)).mono fun x e=>by rw [List.take_of_length_le (by omega)] at hb;rw [e,hb,g.2];simp only [List.append_assoc])
  have hg:=h9 i (by omega)
  have hgl:=hg.len
  have hgb:=hg.2.1
  have hgo:=hg.2.2.1
  have hz:((k.2.2.1.getD i x_bv).2.1.zip (k.2.2.1.getD i x_bv).2.2.1).length=(k.2.2.1.getD i x_bv).2.1.length:=by rw [List.length_zip];omega
  rw [tz]
  refine t2_ (by omega) ((tb (x_r2 hK _ (by show (2:Nat)<_;decide)) fun v11 g11=>?_))
  have e11:v11.1.length≤10:=g11.1
  refine tc (by show _≤70368744177664;(try dsimp only);(try simp only [ll_]);omega) (l3_ (L:=x_b.l5 K k L') (fun _ _ _ _=>rfl) (fun d q' y x=>y=(i:Int)∧ ∃ j:Nat,x=j∧j+d=(k.2.2.1.getD i x_bv).2.1.length∧q'.length≤70000+100*N+1000*i+10+10*j∧q'=q++(v11.1++(((k.2.2.1.getD i x_bv).2.1.zip (k.2.2.1.getD i x_bv).2.2.1).take j).flatMap (cN.pr cN).enc)) (fun d q' y x L5 hj k5=>?_) (m:=(k.2.2.1.getD i x_bv).2.1.length) (by omega) ⟨rfl,0,rfl,by omega,by rw [length_append];omega,by simp⟩)
  obtain ⟨rfl,j,rfl,hd,hq',hb'⟩:=hj
  unfold x_b.l5b
  rw [tz,tz]
  refine ti (fun b=>?_) fun b=>?_
  ·rw [wi (i:=j) (by omega)]
   refine tc (by omega) (tc b (t2_ (by omega) ((tb (x_r2 hK _ (by show (2:Nat)<_;decide)) fun v12 g12=>?_))))
   have e12:v12.1.length≤10:=g12.1
   refine tc (by show _≤70368744177664;(try dsimp only);(try simp only [ll_]);omega) (k5 (d-1) _ _ _ (by omega) ⟨rfl,j+1,by push_cast;rfl,by omega,by rw [length_append];omega,?_⟩)
   rw [x_g0 (z:=((0:Int),(0:Int))) (by omega),zip_at (by omega) (by omega),hb',g12.2]
   show _=_++(_++(_++(encN _++encN _)))
   simp only [x_i9,List.flatMap_cons,List.flatMap_nil,List.append_nil,List.append_assoc]
  ·rw [wi (i:=i) (by omega)]
   refine tb (x_r2 hK _ (by omega)) fun v13 g13=>tc (by show _≤70368744177664;(try dsimp only);(try simp only [ll_]);omega) (kk (m-1) _ _ (by omega) ⟨i+1,by push_cast;rfl,by omega,by rw [length_append];omega,?_⟩)
   rw [List.take_of_length_le (by omega)] at hb'
   rw [x_g0 (z:=x_bv) (by omega),hb',g13.2,g11.2,hb]
   unfold x_kb
   simp only [List.append_assoc]
 have L2:∀ q:List Int,q.length≤60000→Tot (x_b.l2 K k K q 0) fun x=>x.1=q++(k.2.1.flatMap x_mk++(encN (k.2.2.1.length:Int)++(k.2.2.1.flatMap x_kb++(encN k.2.2.2.1++(k.2.2.2.2.1.zip k.2.2.2.2.2).flatMap x_sf)))):=fun q0 hq=>by
  refine l2_ (L:=x_b.l2 K k) (b:=fun L'=>x_b.l2b K k (x_b.l3 K k L' K) (x_b.l4 K k K)) (fun _ _ _=>rfl) (fun m q x=> ∃ i:Nat,x=i∧i+m=k.2.1.length∧q.length≤60000+100*i∧q=q0++(k.2.1.take i).flatMap x_mk) (fun m q x L' hi kk=>?_) (m:=k.2.1.length) (by omega) ⟨0,rfl,by omega,hq,by simp⟩
  obtain ⟨i,rfl,hm,hq,hb⟩:=hi
  unfold x_b.l2b
  refine ti (fun a=>?_) fun a=>tb (w_num hK _) fun v g=>tc (by show _≤70368744177664;(try dsimp only);(try simp only [ll_]);omega) ((L4 _ (by rw [length_append];omega)).mono fun x e=>by rw [List.take_of_length_le (by omega)] at hb;rw [e,hb,g.2];simp only [List.append_assoc])
  have hg:=(h7.2 _ (x_ad (z:=x_bb) (show i<k.2.1.length by omega))).1
  rw [tz]
  refine t2_ (by omega) ((tb (x_r2 hK _ (by show (5:Nat)<_;decide)) fun v11 g11=>?_))
  have e11:v11.1.length≤25:=g11.1
  refine tc (by show _≤70368744177664;(try dsimp only);(try simp only [ll_]);omega) (l3_ (L:=x_b.l3 K k L') (fun _ _ _ _=>rfl) (fun d q' y x=>y=(i:Int)∧ ∃ j:Nat,x=j∧j+d=(k.2.1.getD i x_bb).2.2.2.2.length∧q'.length≤60000+100*i+25+10*j∧q'=q++(v11.1++((k.2.1.getD i x_bb).2.2.2.2.take j).flatMap x_1b.enc)) (fun d q' y x L5 hj k5=>?_) (m:=(k.2.1.getD i x_bb).2.2.2.2.length) (by omega) ⟨rfl,0,rfl,by omega,by rw [length_append];omega,by simp⟩)
  obtain ⟨rfl,j,rfl,hd,hq',hb'⟩:=hj
  unfold x_b.l3b
  rw [tz,tz]
  refine ti (fun b=>?_) fun b=>?_
  ·rw [wi (i:=j) (by omega)]
   refine tc (by omega) (tc b (tc (by omega) (tc b (tb (x_r2 hK _ (by show (2:Nat)<_;decide)) fun v12 g12=>?_))))
   have e12:v12.1.length≤10:=g12.1
   refine tc (by show _≤70368744177664;(try dsimp only);(try simp only [ll_]);omega) (k5 (d-1) _ _ _ (by omega) ⟨rfl,j+1,by push_cast;rfl,by omega,by rw [length_append];omega,?_⟩)
   rw [x_g0 (z:=x_ie) (by omega),hb',g12.2]
   show _=_++(_++(_++(encN _++encN _)))
   simp only [x_i9,List.flatMap_cons,List.flatMap_nil,List.append_nil,List.append_assoc]
  ·rw [wi (i:=i) (by omega)]
   refine kk (m-1) _ _ (by omega) ⟨i+1,by push_cast;rfl,by omega,by omega,?_⟩
   rw [List.take_of_length_le (by omega)] at hb'
   rw [x_g0 (z:=x_bb) (by omega),hb',g11.2,hb]
   unfold x_mk
   simp only [List.append_assoc]
 unfold x_b x_b.b
 refine tb (w_num hK _) fun v1 g1=>?_
 refine l2_ (L:=x_b.l0 K k) (b:=fun L'=>x_b.l0b K k (x_b.l1 K k L' K) (x_b.l2 K k K)) (fun _ _ _=>rfl) (fun m q x=> ∃ i:Nat,x=i∧i+m=k.1.length∧q.length≤5+10000*i∧q=v1.1++(k.1.take i).flatMap kRow) (fun m q x L' hi kk=>?_) (m:=k.1.length) (by omega) ⟨0,rfl,by omega,g1.1,by simp⟩
 obtain ⟨i,rfl,hm,hq,hb⟩:=hi
 unfold x_b.l0b
 refine ti (fun a=>?_) fun a=>tb (w_num hK _) fun v g=>tc (by show _≤70368744177664;(try dsimp only);(try simp only [ll_]);omega) ((L2 _ (by rw [length_append];omega)).mono fun x e=>by rw [List.take_of_length_le (by omega)] at hb;rw [e,hb,g.2,g1.2];unfold kB;simp only [List.append_assoc])
 have hg:=h8 i (by omega)
 have hgl:=hg.2.2.1
 rw [tz]
 refine t2_ (by omega) ((tb (x_r2 hK _ (by show (3:Nat)<_;decide)) fun v11 g11=>?_))
 have e11:v11.1.length≤15:=g11.1
 refine tc (by show _≤70368744177664;(try dsimp only);(try simp only [ll_]);omega) (l3_ (L:=x_b.l1 K k L') (fun _ _ _ _=>rfl) (fun d q' y x=>y=(i:Int)∧ ∃ j:Nat,x=j∧j+d=(k.1.getD i zRow).2.2.length∧q'.length≤5+10000*i+15+100*j∧q'=q++(v11.1++((k.1.getD i zRow).2.2.take j).flatMap x_xz.enc)) (fun d q' y x L5 hj k5=>?_) (m:=(k.1.getD i zRow).2.2.length) (by omega) ⟨rfl,0,rfl,by omega,by rw [length_append];omega,by simp⟩)
 obtain ⟨rfl,j,rfl,hd,hq',hb'⟩:=hj
 unfold x_b.l1b
 rw [tz,tz]
 refine ti (fun b=>?_) fun b=>?_
 ·rw [wi (i:=j) (by omega)]
  have hit:=(hg.2.2.2 j (by omega)).1
  refine tc (by omega) (tc b (tb (w_num hK _) fun v3 g3=>tc (by show _≤70368744177664;(try dsimp only);(try simp only [ll_]);omega) (tb (w_text hK _ hit.1.1) fun v4 g4=>tc (by show _≤70368744177664;simp only [length_append];omega) (tb (w_text hK _ hit.2.1.1) fun v5 g5=>tc (by show _≤70368744177664;simp only [length_append];omega) (tb (x_r2 hK _ (by show (2:Nat)<_;decide)) fun v12 g12=>?_)))))
  have e12:v12.1.length≤10:=g12.1
  refine tc (by show _≤70368744177664;simp only [length_append];omega) (k5 (d-1) _ _ _ (by omega) ⟨rfl,j+1,by push_cast;rfl,by omega,by simp only [length_append];omega,?_⟩)
  rw [x_g0 (z:=x_ce) (by omega),hb',g3.2,g4.2,g5.2,g12.2]
  show _=_++(_++(_++(encN _++(encT _++(encT _++(encN _++encN _))))))
  simp only [x_i9,List.flatMap_cons,List.flatMap_nil,List.append_nil,List.append_assoc]
 ·rw [wi (i:=i) (by omega)]
  refine kk (m-1) _ _ (by omega) ⟨i+1,by push_cast;rfl,by omega,by omega,?_⟩
  rw [List.take_of_length_le (by omega)] at hb'
  rw [x_g0 (z:=zRow) (by omega),hb',g11.2,hb]
  unfold kRow
  simp only [List.append_assoc]
variable {K:Nat}
theorem ROk.cod {r:TRow} (h:ROk r):cRow.ok r:=by
 obtain ⟨h1,h2,h3,h4⟩:=h
 refine ⟨⟨h1.1,by omega⟩,⟨by omega,by omega⟩,by omega,fun x hx=>?_⟩
 obtain ⟨i,hi,rfl⟩:=List.mem_iff_getElem.1 hx
 obtain ⟨⟨k1,k2,k3,k4⟩,k5,_⟩:=h4 i hi
 rw [x_az hi] at k1 k2 k3 k4 k5
 have t1:=k1.1
 have t2:=k2.1
 exact ⟨⟨by omega,by omega⟩,by show ByteArray.size _≤2147483647;omega,by show ByteArray.size _≤2147483647;omega,⟨by omega,by omega⟩,⟨by omega,by omega⟩⟩
theorem MOk.cod {m:x_at} {w:Int} (h:MOk m w) (hw:w≤1000):x_ko.ok m:=by
 obtain ⟨h1,h2,h3,h4,h5,h6,h7,h8⟩:=h
 refine ⟨⟨by omega,by omega⟩,⟨by omega,by omega⟩,⟨by omega,by omega⟩,⟨by show (0:Int)≤m.2.2.2.1+1;omega,by show m.2.2.2.1+1≤(2147483647:Int);omega⟩,by show ((m.2.2.2.2.length:Nat):Int)≤_;omega,fun x hx=>?_⟩
 obtain ⟨i,hi,rfl⟩:=List.mem_iff_getElem.1 hx
 obtain ⟨k1,k2,_⟩:=h1 i hi
 rw [x_az hi] at k1 k2
 exact ⟨⟨by omega,by omega⟩,⟨by omega,by omega⟩⟩
theorem GOk.cod {rows:Int} (hr:0≤rows∧rows≤4) {g:x_ar} (h:GOk rows g):(x_k6 rows.toNat).ok g:=by
 have hl:=h.len
 obtain ⟨h1,h2,h3,h4,h5⟩:=h
 refine ⟨⟨⟨h1.1,by show g.1≤(2147483647:Int);omega⟩,⟨by show (((g.2.1.zip g.2.2.1).length:Nat):Int)≤_;rw [List.length_zip];omega,fun x hx=>?_⟩,⟨by show g.2.2.2.length=_;omega,fun x hx=>?_⟩⟩,h2.symm⟩
 ·obtain ⟨x1,x2⟩:=x
  obtain ⟨hx1,hx2⟩:=List.of_mem_zip hx
  obtain ⟨i,hi,rfl⟩:=List.mem_iff_getElem.1 hx1
  obtain ⟨j,hj,rfl⟩:=List.mem_iff_getElem.1 hx2
  have k1:=(h4 i hi).1
  have k2:=(h4 j (by omega)).2.2
  rw [x_az hi] at k1
  rw [x_az hj] at k2
  exact ⟨⟨k1.1,by show g.2.1[i]≤_;omega⟩,⟨k2.1,by show g.2.2.1[j]≤_;omega⟩⟩
 ·obtain ⟨i,hi,rfl⟩:=List.mem_iff_getElem.1 hx
  have k:=h5 i hi
  rw [x_az hi] at k
  exact ⟨k.1,by omega⟩
theorem ansCod {d:Int} {a:x_dl} (hd:0≤d∧d≤100000) (ha:AOk a):(cN.pr cAns).ok (d,a):=by
 obtain ⟨a2,a3,a4,a5⟩:=ha
 have t1:=a4.1
 have t2:=a5.1
 exact ⟨⟨hd.1,by show d≤(2147483647:Int);omega⟩,⟨a2.1,by show a.1≤(2147483647:Int);omega⟩,⟨by show (0:Int)≤a.2.1+1;omega,by show a.2.1+1≤(2147483647:Int);omega⟩,by show a.2.2.1.size≤2147483647;omega,by show a.2.2.2.size≤2147483647;omega⟩
theorem KOk.cod {p:x_d} {k:x_ai} (h:KOk p k):(x_0h p.1.toNat).ok k:=by
 have ml:=h.2.2.2.2.2.2.1.len
 obtain ⟨h1,h2,h3,h4,h5,h6,h7,h8,h9,h10⟩:=h
 have hr:=h1.1
 have hw:=h1.2.1
 have hz:(k.2.2.2.2.1.zip k.2.2.2.2.2).length=4:=by rw [List.length_zip];omega
 refine ⟨⟨⟨by show ((k.1.length:Nat):Int)≤_;omega,fun x hx=>?_⟩,⟨by show ((k.2.1.length:Nat):Int)≤_;omega,fun x hx=>?_⟩,⟨by show ((k.2.2.1.length:Nat):Int)≤_;omega,fun x hx=>?_⟩,⟨h6.1,by show k.2.2.2.1≤_;omega⟩,hz,fun x hx=>?_⟩,by show k.2.2.2.2.1.length=k.2.2.2.2.2.length;omega⟩
 ·obtain ⟨i,hi,rfl⟩:=List.mem_iff_getElem.1 hx
  have:=(h8 i hi).cod
  rwa [x_az hi] at this
 ·obtain ⟨i,hi,rfl⟩:=List.mem_iff_getElem.1 hx
  have:=(h7 i hi).1.cod (by omega)
  rwa [x_az hi] at this
 ·obtain ⟨i,hi,rfl⟩:=List.mem_iff_getElem.1 hx
  have hi:i<k.2.2.1.length:=hi
  have:=(h9 i (by omega)).cod (by omega)
  rwa [x_az hi] at this
 ·obtain ⟨i,hi,rfl⟩:=List.mem_iff_getElem.1 hx
  have hi:i<(k.2.2.2.2.1.zip k.2.2.2.2.2).length:=hi
  have a:=h10 i (by omega)
  rw [x_az (show i<k.2.2.2.2.1.length by omega),x_az (show i<k.2.2.2.2.2.length by omega)] at a
  show (cN.pr cAns).ok ((k.2.2.2.2.1.zip k.2.2.2.2.2)[i])
  rw [List.getElem_zip]
  exact ansCod a.1 a.2
theorem x_kn {α : Type} {l:List α} {f g : α→List Int} (h:∀ x∈l,f x=g x):l.flatMap f=l.flatMap g:=by
 induction l with
 | nil=>rfl
 | cons x l ih=>rw [List.flatMap_cons,List.flatMap_cons,h x (by simp),ih fun y hy=>h y (by simp [hy])]
theorem kLast_enc {d:Int} {a:x_dl} (h : -1≤a.2.1∧a.2.1≤100000):x_sf (d,a)=(cN.pr cAns).enc (d,a):=by
 show _=encN _++(encN _++(encN _++(encT _++encT _)))
 unfold x_sf
 have e:i6 (a.2.1+1)=a.2.1+1:=w6 (by omega) (by omega)
 dsimp only
 rw [e]
 simp only [x_i9,List.flatMap_cons,List.flatMap_nil,List.append_nil,List.append_assoc]
theorem kB_enc {p:x_d} {k:x_ai} (h:KOk p k):kB k=(x_0h p.1.toNat).enc k:=by
 have hz:(k.2.2.2.2.1.zip k.2.2.2.2.2).length=4:=by rw [List.length_zip];have:=h.2.2.2.1;have:=h.2.2.2.2.1;omega
 have r:k.1.flatMap kRow=k.1.flatMap cRow.enc:=x_kn fun x _=>by
  show _=encN _++(encN _++(encN _++_))
  unfold kRow
  simp only [x_i9,List.flatMap_cons,List.flatMap_nil,List.append_nil,List.append_assoc]
 have m:k.2.1.flatMap x_mk=k.2.1.flatMap x_ko.enc:=x_kn fun x hx=>by
  obtain ⟨i,hi,rfl⟩:=List.mem_iff_getElem.1 hx
  have g:=(h.2.2.2.2.2.2.1 i hi).1.2.2.2.2.2.2.2
  rw [x_az hi] at g
  show _=encN _++(encN _++(encN _++(encN _++(encN _++_))))
  unfold x_mk
  rw [w6 (by omega) (by omega)]
  simp only [x_i9,List.flatMap_cons,List.flatMap_nil,List.append_nil,List.append_assoc]
 have g:k.2.2.1.flatMap x_kb=k.2.2.1.flatMap (x_k6 p.1.toNat).enc:=x_kn fun x hx=>by
  obtain ⟨i,hi,rfl⟩:=List.mem_iff_getElem.1 hx
  have hi:i<k.2.2.1.length:=hi
  have g:=(h.2.2.2.2.2.2.2.2.1 i (by have:=h.2.2.1;omega)).2.1
  rw [x_az hi] at g
  generalize hx:k.2.2.1[i]=x at g
  show x_kb x=encN x.1++((encN ((x.2.1.zip x.2.2.1).length:Int)++(x.2.1.zip x.2.2.1).flatMap (cN.pr cN).enc)++x.2.2.2.flatMap encN)
  have g:x.2.2.1.length=x.2.1.length:=g
  rw [List.length_zip,g,Nat.min_self]
  unfold x_kb
  simp only [x_i9,List.flatMap_cons,List.flatMap_nil,List.append_nil,List.append_assoc]
 have l:(k.2.2.2.2.1.zip k.2.2.2.2.2).flatMap x_sf=(k.2.2.2.2.1.zip k.2.2.2.2.2).flatMap (cN.pr cAns).enc:=x_kn fun x hx=>by
  obtain ⟨i,hi,rfl⟩:=List.mem_iff_getElem.1 hx
  have a:=(h.2.2.2.2.2.2.2.2.2 i (by omega)).2.2.1
  rw [x_az (show i<k.2.2.2.2.2.length by have:=h.2.2.2.2.1;omega)] at a
  rw [List.getElem_zip]
  exact kLast_enc a
 unfold kB
 rw [r,m,g,l]
 show _=(encN (k.1.length:Int)++k.1.flatMap cRow.enc)++((encN (k.2.1.length:Int)++k.2.1.flatMap x_ko.enc)++((encN (k.2.2.1.length:Int)++k.2.2.1.flatMap (x_k6 p.1.toNat).enc)++(encN k.2.2.2.1++(k.2.2.2.2.1.zip k.2.2.2.2.2).flatMap (cN.pr cAns).enc)))
 simp only [List.append_assoc]
theorem kB_ok {p:x_d} {a:x_ai} (ha:KOk p a):BOk (kB a):=by
 obtain ⟨v,_,h1,h2⟩:=Tot.and (x_jf (Nat.le_refl _) p a (ha.kw (Nat.le_refl 16)) (by decide)) (x_sa (Nat.le_refl _) p a (ha.kw (Nat.le_refl 16)) (by decide))
 rw [←h2]
 exact h1.2
variable {K:Nat}
theorem Is.eq {a b:Bool} {p:Prop} (h:Is a p) (k:Is b p):a=b:=by
 cases a<;>cases b
 ·rfl
 ·exact absurd (h.2 (k.1 rfl)) (by decide)
 ·exact absurd (k.2 (h.1 rfl)) (by decide)
 ·rfl
theorem NSy.sw {n:x_bq} (h:NSy n):PSw n:=⟨⟨h.1.1.1,h.1.1.2,h.1.2⟩,h.2.1,h.2.2.2.2.2.2⟩
variable {K:Nat}
theorem flat_le {α : Type} {f : α→List Int} {B:Nat}:∀ (l:List α),(∀ x∈l,(f x).length≤B)→(l.flatMap f).length≤B*l.length
 | [],_=>by simp
 | x::l,h=>by
  rw [List.flatMap_cons,length_append,length_cons]
  have h1:=flat_le l fun y hy=>h y (by simp [hy])
  have h2:=h x (by simp)
  rw [Nat.mul_succ];omega
theorem x_jw {α : Type} {f : α→List Int} {B n:Nat} {l:List α} (h:∀ x∈l,(f x).length≤B) (hn:l.length≤n):(l.flatMap f).length≤B*n:=Nat.le_trans (flat_le l h) (Nat.mul_le_mul_left _ hn)
theorem x_zd {r:TRow} (h:ROk r):(kRow r).length≤6815:=by
 unfold kRow
 rw [length_append]
 have h1:=(x_ez [r.1,r.2.1,(r.2.2.length:Int)]).2
 have h2:(r.2.2.flatMap x_xz.enc).length≤85*80:=x_jw (fun x hx=>?_) h.2.2.1
 ·simp only [length_cons,length_nil] at h1;omega
 ·obtain ⟨i,hi,rfl⟩:=List.mem_iff_getElem.1 hx
  obtain ⟨⟨k1,k2,_,_⟩,_⟩:=h.2.2.2 i hi
  rw [x_az hi] at k1 k2
  have t1:=k1.1
  have t2:=k2.1
  generalize r.2.2[i]=x at t1 t2 ⊢
  show (encN _++(encT _++(encT _++(encN _++encN _)))).length≤85
  simp only [length_append]
  have a1:=(x_cd x.1).2
  have a2:=(x_f9 x.2.1).2
  have a3:=(x_f9 x.2.2.1).2
  have a4:=(x_cd x.2.2.2.1).2
  have a5:=(x_cd x.2.2.2.2).2
  omega
theorem x_0r {m:x_at} (h:m.2.2.2.2.length≤5):(x_mk m).length≤75:=by
 unfold x_mk
 rw [length_append]
 have h1:=(x_ez [m.1,m.2.1,m.2.2.1,i6 (m.2.2.2.1+1),(m.2.2.2.2.length:Int)]).2
 have h2:(m.2.2.2.2.flatMap x_1b.enc).length≤10*5:=x_jw (fun x hx=>?_) h
 ·simp only [length_cons,length_nil] at h1;omega
 ·show (encN _++encN _).length≤10
  rw [length_append]
  have a1:=(x_cd x.1).2
  have a2:=(x_cd x.2).2
  omega
theorem x_yi {g:x_ar} (h:g.2.1.length≤4) (k:g.2.2.2.length≤4):(x_kb g).length≤70:=by
 unfold x_kb
 rw [length_append,length_append]
 have h1:=(x_ez [g.1,(g.2.1.length:Int)]).2
 have h2:((g.2.1.zip g.2.2.1).flatMap (cN.pr cN).enc).length≤10*4:=x_jw (fun x hx=>?_) (by rw [List.length_zip];omega)
 ·have h3:=(x_ez g.2.2.2).2
  simp only [length_cons,length_nil] at h1;omega
 ·show (encN _++encN _).length≤10
  rw [length_append]
  have a1:=(x_cd x.1).2
  have a2:=(x_cd x.2).2
  omega
theorem kLast_len {d:Int} {a:x_dl} (h:AOk a):(x_sf (d,a)).length≤85:=by
 unfold x_sf
 have h1:=(x_ez [d,a.1,i6 (a.2.1+1)]).2
 have a1:=(x_f9 a.2.2.1).2
 have a2:=(x_f9 a.2.2.2).2
 have t1:=h.2.2.1.1
 have t2:=h.2.2.2.1
 show (x_i9 [d,a.1,i6 (a.2.1+1)]++(encT a.2.2.1++encT a.2.2.2)).length≤85
 rw [length_append,length_append]
 simp only [length_cons,length_nil] at h1
 omega
theorem kB_len {p:x_d} {k:x_ai} (h:KOk p k):(kB k).length≤30000:=by
 have ml:=h.2.2.2.2.2.2.1.len
 obtain ⟨h1,h2,h3,h4,h5,h6,h7,h8,h9,h10⟩:=h
 have hr:=h1.1
 have hw:=h1.2.1
 have r:(k.1.flatMap kRow).length≤6815*4:=x_jw (fun x hx=>by
  obtain ⟨i,hi,rfl⟩:=List.mem_iff_getElem.1 hx
  have:=h8 i hi
  rw [x_az hi] at this
  exact x_zd this) (by omega)
 have m:(k.2.1.flatMap x_mk).length≤75*16:=x_jw (fun x hx=>by
  obtain ⟨i,hi,rfl⟩:=List.mem_iff_getElem.1 hx
  have:=(h7 i hi).1.2.1
  rw [x_az hi] at this
  exact x_0r (by omega)) ml
 have g:(k.2.2.1.flatMap x_kb).length≤70*2:=x_jw (fun x hx=>by
  obtain ⟨i,hi,rfl⟩:=List.mem_iff_getElem.1 hx
  have hi:i<k.2.2.1.length:=hi
  have gg:=h9 i (by omega)
  have gl:=gg.len
  have go:=gg.2.2.1
  rw [x_az hi] at gl go
  exact x_yi gl (by omega)) (by omega)
 have l:((k.2.2.2.2.1.zip k.2.2.2.2.2).flatMap x_sf).length≤85*4:=x_jw (fun x hx=>by
  obtain ⟨x1,x2⟩:=x
  obtain ⟨_,hx2⟩:=List.of_mem_zip hx
  obtain ⟨i,hi,rfl⟩:=List.mem_iff_getElem.1 hx2
  have hi:i<k.2.2.2.2.2.length:=hi
  have:=(h10 i (by omega)).2
  rw [x_az hi] at this
  exact kLast_len this) (by rw [List.length_zip];omega)
 unfold kB
 simp only [length_append]
 have a1:=(x_cd (k.1.length:Int)).2
 have a2:=(x_cd (k.2.1.length:Int)).2
 have a3:=(x_cd (k.2.2.1.length:Int)).2
 have a4:=(x_cd k.2.2.2.1).2
 omega
theorem keep_back {p:x_d} {k:x_ai} (h:KOk p k):x_hp p (x_co (x_jo (kB k)))=some k:=by
 rw [x_fh (kB_ok h),kB_enc h]
 unfold x_hp
 have h1:=(x_0h p.1.toNat).de k [] h.cod
 rw [List.append_nil] at h1
 rw [h1]
 exact if_pos h
theorem x_o3 (l:TLog) (i:Nat):x_ir l (i+1)=(l.2.2.getD i x_ay).1:=by
 unfold x_ir
 rw [if_neg (by omega)];rfl
theorem LOk.mon {l:TLog} (h:LOk l) {i:Nat}:∀ {j:Nat},i≤j→j≤l.2.2.length→x_ir l i≤x_ir l j
 | 0,hi,_=>by rw [show i=0 by omega];exact Int.le_refl _
 | j+1,hi,hj=>by
  rcases Nat.lt_or_ge j i with k | k
  ·rw [show i=j+1 by omega];exact Int.le_refl _
  ·have h1:=h.mon k (by omega)
   have h2:=(h.2.2.2 j (by omega)).1.1
   rw [x_o3]
   omega
theorem LOk.lt {l:TLog} (h:LOk l) {i:Nat} (hi:i≤l.2.2.length):0≤x_ir l i∧x_ir l i≤300:=by
 have h1:=h.mon (Nat.zero_le i) hi
 have h0:x_ir l 0=l.2.1:=rfl
 have hb:=h.2.1
 refine ⟨by omega,?_⟩
 cases i with
 | zero=>omega
 | succ i=>
  rw [x_o3]
  exact (h.2.2.2 i (by omega)).1.2
theorem x_lh {α : Type} {l:List α} {n i:Nat} {z : α} (h:i<n):(l.take n).getD i z=l.getD i z:=by
 rw [gd_,gd_,List.getElem?_take_of_lt h]
theorem x_th (b t:Int) (l:List x_c6) {n i:Nat} (h:i≤n):x_ir (b,t,l.take n) i=x_ir (b,t,l) i:=by
 unfold x_ir
 split
 ·rfl
 ·show ((l.take n).getD (i-1) x_ay).1=_
  rw [x_lh (by omega)]
theorem LOk.tak {b t:Int} {l:List x_c6} (h:LOk (b,t,l)) (n:Nat):LOk (b,t,l.take n):=by
 obtain ⟨h1,h2,h3,h4⟩:=h
 refine ⟨h1,h2,?_,fun i hi=>?_⟩
 ·show ((l.take n).length:Int)≤300-b
  have h3:(l.length:Int)≤300-b:=h3
  rw [length_take];omega
 ·have hi:i<(l.take n).length:=hi
  rw [length_take] at hi
  obtain ⟨a1,a2⟩:=h4 i (by show i<l.length;omega)
  refine ⟨?_,?_⟩
  ·rw [x_th _ _ _ (by omega)]
   show _≤((l.take n).getD i x_ay).1∧((l.take n).getD i x_ay).1≤300
   rw [x_lh (by omega)]
   exact a1
  ·show COk ((l.take n).getD i x_ay).2
   rw [x_lh (by omega)]
   exact a2
theorem x_yy {d:Nat} {l es:List x_c6} (h:l.length=d):∀ j,j≤es.length→putN d l es j=l++es.take j
 | 0,_=>by simp [putN]
 | j+1,hj=>by
  unfold putN x_jr
  rw [x_yy h j (by omega)]
  have e:(l++es.take j).length=d+j:=by rw [length_append,length_take];omega
  rw [if_neg (by omega), ←e,List.take_length,List.append_assoc, ←x_d1 (by omega)]
def x_sy (h:x_dh):x_df:=(1,h.1,h.2.1,0,[],ByteArray.empty)
noncomputable def x_tl (h:x_dh):x_df:=(3,h.2.2.1.2.1,0,h.2.2.1.1,[],x_jo (kB h.2.2.2))
def x_q0 (h:x_dh) (i:Nat):x_df:=(2,x_ir h.2.2.1 (40*i),0,h.2.2.1.1+((40*i:Nat):Int),(h.2.2.1.2.2.drop (40*i)).take 40,ByteArray.empty)
def x_gx (h:x_dh):Nat:=(h.2.2.1.2.2.length+39) / 40
noncomputable def hNts (h:x_dh):List x_df:=[x_sy h,x_tl h]++(List.range (x_gx h)).map (x_q0 h)
noncomputable def x_mo (h:x_dh):List Int:=(hNts h).flatMap x_h3
theorem EsOk.nil {t:Int}:EsOk [] t:=⟨fun i hi=>by simp at hi,by simp⟩
theorem x_ka {p:x_d} {h:x_dh} (k:HOk p h):NtOk (x_sy h):=⟨k.1,⟨by show (0:Int)≤0;decide,by show (0:Int)≤300;decide⟩,EsOk.nil,by show ByteArray.empty.size≤_;decide, .inl ⟨rfl,k.2.1,rfl,rfl,rfl⟩⟩
theorem x_j3 {p:x_d} {h:x_dh} (k:HOk p h):NtOk (x_tl h):=by
 refine ⟨k.2.2.1.2.1,k.2.2.1.1,EsOk.nil,?_, .inr (.inr ⟨rfl,rfl,rfl⟩)⟩
 show (x_jo (kB h.2.2.2)).size≤30000
 rw [←(x_ga _).2,x_fh (kB_ok k.2.2.2.2)]
 exact kB_len k.2.2.2.2
theorem x_rq {p:x_d} {h:x_dh} (k:HOk p h) {i:Nat} (hi:40*i<h.2.2.1.2.2.length):NtOk (x_q0 h i):=by
 have hl:=k.2.2.1
 have h3:=hl.2.2.1
 have h1:=hl.1
 refine ⟨hl.lt (by omega),⟨by show (0:Int)≤h.2.2.1.1+((40*i:Nat):Int);omega,by show h.2.2.1.1+((40*i:Nat):Int)≤300;omega⟩,⟨fun j hj=>?_,?_⟩,by show ByteArray.empty.size≤_;decide, .inr (.inl ⟨rfl,rfl,rfl⟩)⟩
 ·have hj:j<((h.2.2.1.2.2.drop (40*i)).take 40).length:=hj
  rw [length_take,length_drop] at hj
  show (0≤(((h.2.2.1.2.2.drop (40*i)).take 40).getD j x_ay).1∧(((h.2.2.1.2.2.drop (40*i)).take 40).getD j x_ay).1≤300)∧COk (((h.2.2.1.2.2.drop (40*i)).take 40).getD j x_ay).2
  rw [x_lh (by omega),show (h.2.2.1.2.2.drop (40*i)).getD j x_ay=h.2.2.1.2.2.getD (40*i+j) x_ay by rw [gd_,gd_,List.getElem?_drop]]
  obtain ⟨⟨a1,a2⟩,a3⟩:=hl.2.2.2 (40*i+j) (by omega)
  have:=(hl.lt (i:=40*i+j) (by omega)).1
  exact ⟨⟨by omega,a2⟩,a3⟩
 ·show ((h.2.2.1.2.2.drop (40*i)).take 40).length≤40
  rw [length_take];omega
theorem hNts_ok {p:x_d} {h:x_dh} (k:HOk p h):∀ r∈hNts h,NtOk r:=fun r hr=>by
 unfold hNts at hr
 simp only [List.cons_append,List.nil_append,mem_cons,List.mem_map,List.mem_range] at hr
 rcases hr with rfl | rfl | ⟨i,hi,rfl⟩
 ·exact x_ka k
 ·exact x_j3 k
 ·unfold x_gx at hi
  exact x_rq k (by omega)
theorem lastT_le {p:x_d} {h:x_dh} (k:HOk p h) {i:Nat} (hi:i≤h.2.2.1.2.2.length):x_ir h.2.2.1 i≤h.1:=Int.le_trans (k.2.2.1.mon hi (Nat.le_refl _)) k.2.2.2.1
theorem HOk.tak {p:x_d} {h:x_dh} (k:HOk p h) (n:Nat):HOk p (h.1,h.2.1,(h.2.2.1.1,h.2.2.1.2.1,h.2.2.1.2.2.take n),h.2.2.2):=by
 refine ⟨k.1,k.2.1,LOk.tak k.2.2.1 n,?_,k.2.2.2.2⟩
 show x_ir (h.2.2.1.1,h.2.2.1.2.1,h.2.2.1.2.2.take n) (h.2.2.1.2.2.take n).length≤h.1
 rw [x_th _ _ _ (by rw [length_take];omega)]
 exact lastT_le k (by rw [length_take];omega)
theorem hof_back0 {p:x_d} {h:x_dh} (hp:SOk p) (k:HOk p h) (hb:0<h.2.2.1.1):hof p [x_sy h,x_tl h]=(h.1,h.2.1,(h.2.2.1.1,h.2.2.1.2.1,[]),h.2.2.2):=by
 have e0:hof p []=newH p:=rfl
 have e1:hof p [x_sy h]=(h.1,h.2.1,(0,0,[]),newK p):=by
  rw [show [x_sy h]=[]++[x_sy h] from rfl,x_wl,e0]
  have n:=x_z0 hp
  refine (x_va ⟨n,x_ka k,k.1,k.2.1,n.2.2.1,?_,n.2.2.2.2⟩).trans rfl
  exact k.1.1
 rw [show [x_sy h,x_tl h]=[x_sy h]++[x_tl h] from rfl,x_wl,e1]
 have n:HOk p (h.1,h.2.1,((0:Int),(0:Int),([]:List x_c6)),newK p):=by
  have n:=x_z0 hp
  exact ⟨k.1,k.2.1,n.2.2.1,k.1.1,n.2.2.2.2⟩
 have e:hdo0 p (h.1,h.2.1,(0,0,[]),newK p) (x_tl h)=(h.1,h.2.1,(h.2.2.1.1,h.2.2.1.2.1,[]),h.2.2.2):=by
  unfold hdo0
  rw [if_neg (by show ¬ (3:Int)=1;decide),if_neg (by show ¬ (3:Int)=2;decide),show x_hp p (x_co (x_tl h).2.2.2.2.2)=some h.2.2.2 from keep_back k.2.2.2.2]
  simp only
  rw [if_neg (by show ¬ h.2.2.1.1≤0;omega),if_neg]
  ·rfl
  ·show ¬ x_k8 (0,0,[]) h.2.2.1.1=h.2.2.1.2.1
   unfold x_k8
   rw [if_neg (by show ¬ h.2.2.1.1=0;omega),if_neg (by
    intro a
    have a2:h.2.2.1.1≤(0:Int)+(([]:List x_c6).length:Int):=a.2.1
    simp at a2;omega)]
   have:=k.2.2.1.2.1
   omega
 refine (x_va ⟨n,x_j3 k,?_⟩).trans e
 rw [e]
 have:=k.tak 0
 rwa [List.take_zero] at this
theorem x_vt {p:x_d} {h:x_dh} (hp:SOk p) (k:HOk p h) (hb:0<h.2.2.1.1):∀ i,i≤x_gx h→hof p ([x_sy h,x_tl h]++(List.range i).map (x_q0 h))=(h.1,h.2.1,(h.2.2.1.1,h.2.2.1.2.1,h.2.2.1.2.2.take (40*i)),h.2.2.2)
 | 0,_=>by
  rw [List.range_zero,List.map_nil,List.append_nil,hof_back0 hp k hb]
  simp
 | i+1,hi=>by
  have hi':40*i<h.2.2.1.2.2.length:=by unfold x_gx at hi;omega
  rw [List.range_succ,List.map_append, ←List.append_assoc,List.map_singleton,x_wl,x_vt hp k hb i (by omega)]
  have hlen:(h.2.2.1.2.2.take (40*i)).length=40*i:=by rw [length_take];omega
  have e1:x_li (h.2.2.1.1,h.2.2.1.2.1,h.2.2.1.2.2.take (40*i)) (h.2.2.1.1+((40*i:Nat):Int)) ((h.2.2.1.2.2.drop (40*i)).take 40)=(h.2.2.1.1,h.2.2.1.2.1,h.2.2.1.2.2.take (40*(i+1))):=by
   show (h.2.2.1.1,h.2.2.1.2.1,putN (h.2.2.1.1+((40*i:Nat):Int)-h.2.2.1.1).toNat (h.2.2.1.2.2.take (40*i)) ((h.2.2.1.2.2.drop (40*i)).take 40) ((h.2.2.1.2.2.drop (40*i)).take 40).length)=_
   rw [show (h.2.2.1.1+((40*i:Nat):Int)-h.2.2.1.1).toNat=40*i by omega,x_yy hlen _ (Nat.le_refl _),List.take_length,show 40*(i+1)=40*i+40 by omega,List.take_add]
  have e2:x_k8 (h.2.2.1.1,h.2.2.1.2.1,h.2.2.1.2.2.take (40*i)) (h.2.2.1.1+((40*i:Nat):Int))=x_ir h.2.2.1 (40*i):=by
   have a1:=k.2.2.1.1
   have a3:=k.2.2.1.2.2.1
   unfold x_k8
   show (if h.2.2.1.1+((40*i:Nat):Int)=h.2.2.1.1 then h.2.2.1.2.1 else if h.2.2.1.1<h.2.2.1.1+((40*i:Nat):Int)∧h.2.2.1.1+((40*i:Nat):Int)≤h.2.2.1.1+((h.2.2.1.2.2.take (40*i)).length:Int)∧h.2.2.1.1+((40*i:Nat):Int)≤300∧0≤h.2.2.1.1 then ((h.2.2.1.2.2.take (40*i)).getD (h.2.2.1.1+((40*i:Nat):Int)-h.2.2.1.1-1).toNat x_ay).1 else -1)=_
   rw [hlen]
   by_cases h0:i=0
   ·subst h0
    rw [if_pos (by omega)];rfl
   ·rw [if_neg (by omega),if_pos (by omega),show (h.2.2.1.1+((40*i:Nat):Int)-h.2.2.1.1-1).toNat=40*i-1 by omega,x_lh (by omega)]
    unfold x_ir
    rw [if_neg (by omega)]
  have e:hdo0 p (h.1,h.2.1,(h.2.2.1.1,h.2.2.1.2.1,h.2.2.1.2.2.take (40*i)),h.2.2.2) (x_q0 h i)=(h.1,h.2.1,(h.2.2.1.1,h.2.2.1.2.1,h.2.2.1.2.2.take (40*(i+1))),h.2.2.2):=by
   unfold hdo0
   rw [if_neg (by show ¬ (2:Int)=1;decide),if_pos (by show (2:Int)=2;rfl)]
   refine (if_pos (⟨(k.2.2.1.lt (by omega)).1,e2,by rw [e1];exact LOk.tak k.2.2.1 _⟩ : x_pf (h.2.2.1.1,h.2.2.1.2.1,h.2.2.1.2.2.take (40*i)) (h.2.2.1.1+((40*i:Nat):Int)) (x_ir h.2.2.1 (40*i)) ((h.2.2.1.2.2.drop (40*i)).take 40))).trans ?_
   show (h.1,h.2.1,x_li (h.2.2.1.1,h.2.2.1.2.1,h.2.2.1.2.2.take (40*i)) (h.2.2.1.1+((40*i:Nat):Int)) ((h.2.2.1.2.2.drop (40*i)).take 40),h.2.2.2)=_
   rw [e1]
  refine (x_va ⟨k.tak _,x_rq k hi',?_⟩).trans e
  rw [e]
  exact k.tak _
theorem nts_back {p:x_d} {h:x_dh} (k:HOk p h):x_x0 (x_mo h)=(hNts h,[]):=by
 have e:=x_r4 (hNts h) ((x_mo h).length+1) [] (hNts_ok k) (by
  have key:∀ ns:List x_df,ns.length≤(ns.flatMap x_h3).length:=fun ns=>by
   induction ns with
   | nil=>simp
   | cons r ns ih=>
    rw [List.flatMap_cons,length_append,length_cons]
    have:=x_rs r
    omega
  have:=key (hNts h)
  unfold x_mo
  omega) x_yf
 rw [List.append_nil] at e
 exact e
theorem hof_back {p:x_d} {h:x_dh} (hp:SOk p) (k:HOk p h) (hb:0<h.2.2.1.1):hof p (x_x0 (x_mo h)).1=h:=by
 rw [nts_back k]
 refine (x_vt hp k hb (x_gx h) (Nat.le_refl _)).trans ?_
 rw [List.take_of_length_le (by unfold x_gx;omega)]
variable {K:Nat}
theorem x_ys {α : Type} (l:List α) (a b:Nat) (h:b=min (a+40) l.length):(l.take b).drop a=(l.drop a).take 40:=by
 rw [List.drop_take]
 rcases Nat.le_total (a+40) l.length with k | k
 ·rw [show b-a=40 by omega]
 ·rw [List.take_of_length_le (by rw [length_drop];omega),List.take_of_length_le (by rw [length_drop];omega)]
theorem x_j7 (hK:2097152≤K) (r:x_df) (a:NtOk r):Tot (x_eh K r) fun x=>x.1=x_h3 r:=by
 unfold x_eh
 refine tb (x_ol hK r a.es) fun v1 g1=>tg g1 (fun k=>absurd a k) fun _=>?_
 have hb:=x_ho a
 have hl:=hb.2
 have hn:=x_cd ((x_cp r).length:Int)
 have hnl:=hn.2
 refine tv (x_za hK r a) (tv (x_gc hK _) (tc (by show _≤70368744177664;(try dsimp only);(try simp only [ll_]);omega) (tb (t2_l9Sum hK _ (by show (x_cp r).length<_;omega) hb.1) fun v4 g4=>?_)))
 have h4:v4.1.length=4:=by rw [g4];rfl
 exact tc (by show _≤70368744177664;(try dsimp only);(try simp only [ll_]);omega) (tr (by rw [g4];rfl))
theorem x_g2 {r:x_df} (a:NtOk r):(x_h3 r).length≤34400:=by
 have hl:=(x_ho a).2
 have hn:=(x_cd ((x_cp r).length:Int)).2
 unfold x_h3
 simp only [length_append,x_uh]
 omega
theorem x_vu (h:x_dh) (i:Nat):([x_sy h,x_tl h]++(List.range (i+1)).map (x_q0 h)).flatMap x_h3=([x_sy h,x_tl h]++(List.range i).map (x_q0 h)).flatMap x_h3++x_h3 (x_q0 h i):=by
 rw [List.range_succ,List.map_append, ←List.append_assoc,List.flatMap_append]
 simp only [List.map_cons,List.map_nil,List.flatMap_cons,List.flatMap_nil,List.append_nil]
theorem x_sw {h:x_dh} {i:Nat} (hi:i≤x_gx h) (k:h.2.2.1.2.2.length≤40*i):i=x_gx h:=by
 unfold x_gx at hi ⊢
 omega
theorem x_xo (hK:2097152≤K) (p:x_d) (h:x_dh) (k:HOk p h) (hb:0<h.2.2.1.1):Tot (x_aw K h) fun x=>x.1=x_mo h:=by
 have hlog:=k.2.2.1
 have hb0:=hlog.1
 have hlen:=hlog.2.2.1
 have j:∀ q:List Int,q=x_h3 (x_sy h)++x_h3 (x_tl h)→Tot (x_aw.j0 K (x_aw.l0 K h K) q h) fun x=>x.1=x_mo h:=fun q hq=>by
  unfold x_aw.j0
  have ql:q.length≤68800:=by
   have a1:=x_g2 (x_ka k)
   have a2:=x_g2 (x_j3 k)
   rw [hq,length_append];omega
  refine l3_ (L:=x_aw.l0 K h) (fun _ _ _ _=>rfl) (fun m q t x=> ∃ i:Nat,x=40*(i:Int)∧i+m=x_gx h∧q.length≤68800+34400*i∧q=([x_sy h,x_tl h]++(List.range i).map (x_q0 h)).flatMap x_h3∧t=x_ir h.2.2.1 (min (40*i) h.2.2.1.2.2.length)) (fun m q t x L' hi kk=>?_) (m:=x_gx h) (by unfold x_gx;omega) ⟨0,rfl,by omega,ql,by rw [hq];simp,rfl⟩
  obtain ⟨i,rfl,hm,hql,hq,ht⟩:=hi
  have hc:x_gx h≤8:=by unfold x_gx;omega
  unfold x_aw.l0b
  refine ti (fun a=>?_) fun a=>tr (by show q=_;rw [hq,x_sw (h:=h) (i:=i) (by omega) (by omega)];rfl)
  rw [w6 (n:=40*(i:Int)+40) (by omega) (by omega),w6 (n:=h.2.2.1.1+40*(i:Int)) (by omega) (by omega)]
  refine tb (x_ij _ _) fun v5 g5=>?_
  have hv:40*(i:Int)<v5.1∧v5.1≤(h.2.2.1.2.2.length:Int):=by omega
  have hv2:v5.1.toNat=min (40*i+40) h.2.2.1.2.2.length:=by omega
  have hi:40*i<h.2.2.1.2.2.length:=by omega
  have hic:i<x_gx h:=by unfold x_gx;omega
  rw [w6 (n:=v5.1-1) (by omega) (by omega)]
  have e:((2,t,0,h.2.2.1.1+40*(i:Int),(h.2.2.1.2.2.take v5.1.toNat).drop (40*(i:Int)).toNat,ByteArray.empty):x_df)=x_q0 h i:=by
   unfold x_q0
   rw [show (40*(i:Int)).toNat=40*i by omega,x_ys _ _ _ hv2,ht,show min (40*i) h.2.2.1.2.2.length=40*i by omega]
   simp
  rw [e]
  have n:=x_rq k hi
  have nl:=x_g2 n
  refine tc rfl (t2_ (by omega) ((tc (by omega) (tv (x_j7 hK _ n) ?_))))
  have gl:q.length+(x_h3 (x_q0 h i)).length≤68800+34400*(i+1):=by omega
  refine tc (by show (q.length+(x_h3 (x_q0 h i)).length)*2≤70368744177664;omega) (t2_ (by omega) ((kk (m-1) _ _ _ (by omega) ⟨i+1,by push_cast;omega,by omega,by show (q++x_h3 (x_q0 h i)).length≤_;rw [length_append];exact gl,?_,?_⟩)))
  ·rw [x_vu, ←hq]
  ·rw [show min (40*(i+1)) h.2.2.1.2.2.length=(v5.1-1).toNat+1 by omega,x_o3]
 unfold x_aw x_aw.b
 refine tv (x_j7 hK _ (x_ka k)) (ti (fun _=>tv (x_sa hK p _ (k.2.2.2.2.kw (Nat.le_refl 16)) (by decide)) (tv (x_j7 hK _ (x_j3 k)) ?_)) fun a=>absurd hb a)
 have a1:=x_g2 (x_ka k)
 have a2:=x_g2 (x_j3 k)
 exact tc (by show ((x_h3 (x_sy h)).length+(x_h3 (x_tl h)).length)*2≤70368744177664;omega) (j _ rfl)
variable {K:Nat}
def SaOk (c:TCmd) (i:Nat):Prop:=c=zCmd∨(COk c∧c.1=(i:Int))
def HdOk (h:x_sz):Prop:=(0≤h.1∧h.1≤3)∧(1≤h.2.1∧h.2.1≤100000)∧(0≤h.2.2.2.1∧h.2.2.2.1≤300)∧(0≤h.2.2.2.2∧h.2.2.2.2≤300)∧AOk h.2.2.1
def WNd (w:x_u) (i:Nat):Prop:=(w.2.2.1.getD i x_bx).1=(i:Int)∧POk w.1 (w.2.2.1.getD i x_bx) w.2.1
def WOk (w:x_u):Prop:=SOk w.1∧(1≤w.2.1∧w.2.1≤5)∧(w.2.2.1.length:Int)=w.2.1∧(∀ i,i<w.2.2.1.length→WNd w i)∧(w.2.2.2.1.length≤40∧ ∀ i,i<w.2.2.2.1.length→RpOk (w.2.2.2.1.getD i zRpc) w.2.1)∧
 (w.2.2.2.2.1.length=4∧ ∀ i,i<4→SaOk (w.2.2.2.2.1.getD i zCmd) i)∧(w.2.2.2.2.2.1.length=4∧ ∀ i,i<4→0≤w.2.2.2.2.2.1.getD i 0∧w.2.2.2.2.2.1.getD i 0≤300)∧(w.2.2.2.2.2.2.1.length≤300∧ ∀ i,i<w.2.2.2.2.2.2.1.length→HdOk (w.2.2.2.2.2.2.1.getD i x_ik))∧(w.2.2.2.2.2.2.2.length≤300∧ ∀ i,i<w.2.2.2.2.2.2.2.length→COk (w.2.2.2.2.2.2.2.getD i zCmd))
noncomputable def cutH (n:x_bq):x_dh:=(n.2.1.1,n.2.1.2.1,x_hd n.2.1.2.2.1 n.2.2.2.2.2.2.1,n.2.2.2.2.2.2.2.1)
noncomputable def cutN (n:x_bq):x_bq:=(n.1,cutH n,n.2.2.1,n.2.2.2.1,n.2.2.2.2.1,n.2.2.2.2.2.1,n.2.2.2.2.2.2.1,n.2.2.2.2.2.2.2.1,(x_mo (cutH n),((x_mo (cutH n)).length:Int)),n.2.2.2.2.2.2.2.2.2)
theorem x_wv {p:x_d} {n:x_bq} {s:Int} (h:POk p n s):HOk p (cutH n):=by
 obtain ⟨h1,h2,h3,h4,h5,h6,h7,h8,h9,h10,h11,h12,h13,h14⟩:=h
 have c:=x_m4 h3.2.2.1 n.2.2.2.2.2.2.1
 exact ⟨h3.1,h3.2.1,c.1,by show x_tj (x_hd n.2.1.2.2.1 n.2.2.2.2.2.2.1)≤_;rw [c.2.2];exact h3.2.2.2.1,h12⟩
theorem x_mr {p:x_d} {n:x_bq} {s:Int} (h:POk p n s) (hc:¬ n.2.2.2.2.2.2.1=n.2.1.2.2.1.1):(cutH n).2.2.1.1=n.2.2.2.2.2.2.1∧0<n.2.2.2.2.2.2.1:=by
 obtain ⟨h1,h2,h3,h4,h5,h6,h7,h8,h9,h10,h11,h12,h13,h14⟩:=h
 have hb:=h3.2.2.1.1
 have hl:=h3.2.2.1.last
 have h11':=h11.1
 refine ⟨?_,by omega⟩
 show (x_hd n.2.1.2.2.1 n.2.2.2.2.2.2.1).1=_
 unfold x_hd
 rw [if_pos ⟨by omega,h11.2,by omega,hb.1⟩]
theorem cutN_ok0 {p:x_d} {n:x_bq} {s:Int} (h:POk p n s) {x:x_dh} {b:List Int} (k:HOk p x) (hb:x.2.2.1.1=n.2.2.2.2.2.2.1) (e:x_fb x.2.2.1=x_fb n.2.1.2.2.1) (ev:x.2.1=n.2.1.2.1) (hd:b.length≤80000):POk p (n.1,x,n.2.2.1,n.2.2.2.1,n.2.2.2.2.1,n.2.2.2.2.2.1,n.2.2.2.2.2.2.1,n.2.2.2.2.2.2.2.1,(b,(b.length:Int)),n.2.2.2.2.2.2.2.2.2) s:=by
 obtain ⟨h1,h2,h3,h4,h5,h6,h7,h8,h9,h10,h11,h12,h13,h14⟩:=h
 refine ⟨h1,h2,k,by show x.2.1<s;rw [ev];exact h4,h5,h6,h7,h8,fun i hi=>?_,h10,⟨Int.le_of_eq hb,by show n.2.2.2.2.2.2.1≤x_fb x.2.2.1;rw [e];exact h11.2⟩,h12,⟨hd,by show (0:Int)≤(b.length:Int);omega,Int.le_refl (b.length:Int)⟩,h14⟩
 have:=h9 i hi
 unfold PNm at this ⊢
 show (_∧_≤x_fb x.2.2.1+1)∧(_∧_≤x_fb x.2.2.1)
 rw [e]
 exact this
theorem cutN_ok {p:x_d} {n:x_bq} {s:Int} (h:POk p n s) (hc:¬ n.2.2.2.2.2.2.1=n.2.1.2.2.1.1) (hd:(x_mo (cutH n)).length≤80000):POk p (cutN n) s:=
 cutN_ok0 h (x_wv h) (x_mr h hc).1 (x_m4 h.2.2.1.2.2.1 n.2.2.2.2.2.2.1).2.1 rfl hd
open Classical in
noncomputable def x_c8 (w:x_u) (a:Int):Int:=
 if ¬ WOk w then 1 else if ¬ (0≤a∧a≤w.2.1-1) then 2
 else if (w.2.2.1.getD a.toNat x_bx).2.2.2.2.2.2.2.2.1.2≠((w.2.2.1.getD a.toNat x_bx).2.2.2.2.2.2.2.2.1.1.length:Int)∨(w.2.2.1.getD a.toNat x_bx).2.2.2.2.2.2.1=(w.2.2.1.getD a.toNat x_bx).2.1.2.2.1.1 then 3
 else if 80000<(x_mo (cutH (w.2.2.1.getD a.toNat x_bx))).length then 4 else 0
theorem WOk.nd {w:x_u} (h:WOk w) {a:Int} (ha:0≤a∧a≤w.2.1-1):WNd w a.toNat:=h.2.2.2.1 _ (by have:=h.2.2.1;omega)
theorem x_ye {α : Type} {l:List α} {i j:Nat} {x z : α} (hi:i<l.length):(l.set i x).getD j z=if i=j then x else l.getD j z:=by
 rw [gd_,gd_,List.getElem?_set]
 split
 ·first | rfl | (rw [if_pos hi];rfl)
 ·rfl
theorem WOk.set {w:x_u} (h:WOk w) {i:Nat} (hi:i<w.2.2.1.length) {n:x_bq} (e:n.1=(i:Int)) (k:POk w.1 n w.2.1):WOk (w.1,w.2.1,w.2.2.1.set i n,w.2.2.2.1,w.2.2.2.2.1,w.2.2.2.2.2.1,w.2.2.2.2.2.2.1,w.2.2.2.2.2.2.2):=by
 obtain ⟨h1,h2,h3,h4,h5⟩:=h
 refine ⟨h1,h2,by show ((w.2.2.1.set i n).length:Int)=_;rw [length_set];exact h3,fun j hj=>?_,h5⟩
 have hj:j<(w.2.2.1.set i n).length:=hj
 rw [length_set] at hj
 show ((w.2.2.1.set i n).getD j x_bx).1=(j:Int)∧POk w.1 ((w.2.2.1.set i n).getD j x_bx) w.2.1
 rw [x_ye hi]
 split
 ·rename_i k'
  subst k'
  exact ⟨e,k⟩
 ·exact h4 j hj
theorem WOk.done {w:x_u} (h:WOk w) {d:List TCmd} (hl:d.length≤300) (hd:∀ i,i<d.length→COk (d.getD i zCmd)):WOk (w.1,w.2.1,w.2.2.1,w.2.2.2.1,w.2.2.2.2.1,w.2.2.2.2.2.1,w.2.2.2.2.2.2.1,d):=by
 obtain ⟨h1,h2,h3,h4,h5,h6,h7,h8,h9⟩:=h
 exact ⟨h1,h2,h3,h4,h5,h6,h7,h8,hl,hd⟩
theorem WOk.wsz {w:x_u} (h:WOk w):WSz w:=by
 obtain ⟨h1,h2,h3,h4,⟨h5,h51⟩,⟨h6,h61⟩,⟨h7,h71⟩,⟨h8,h81⟩,⟨h9,h91⟩⟩:=h
 refine ⟨by omega,fun n hn=>?_,by omega,fun r hr=>?_,by omega,by omega,by omega,by omega⟩
 ·obtain ⟨i,hi,rfl⟩:=List.mem_iff_getElem.1 hn
  have hi:i<w.2.2.1.length:=hi
  have k:=(h4 i hi).2
  rw [x_az hi] at k
  have a1:=k.2.2.2.2.2.1
  have a2:=k.2.2.2.2.2.2.1
  have a3:=k.2.2.2.2.2.2.2.1
  have a4:=k.2.2.2.2.2.2.2.2.2.2.2.2.1.1
  exact ⟨k.sz,by omega,by omega,by omega,by omega⟩
 ·obtain ⟨i,hi,rfl⟩:=List.mem_iff_getElem.1 hr
  have hi:i<w.2.2.2.1.length:=hi
  have k:=h51 i hi
  rw [x_az hi] at k
  exact k.sz
variable {K:Nat}
theorem x_yr {c:x_6} (h:x_c9 c) (d:x_kc):Tot (x_kt c d) fun _=>True:=by
 unfold x_kt
 refine tb (x_af h 15 (by decide)) fun v1 g1=>ti (fun _=>tb (x_af g1.2.2 14 (by decide)) fun v g=>tr trivial) fun _=>ti (fun _=>tb (x_ax g1.2.2 _ (by decide)) fun v g=>tr trivial) fun _=>ti (fun _=>tb (x_ax g1.2.2 _ (by decide)) fun v g=>tr trivial) fun _=>ti (fun _=>tb (x_eo g1.2.2) fun v g=>tb (x_mn g.2 _ g.1) fun v6 g6=>tr trivial) fun _=>tr trivial
theorem u_DrawDo (hK:2097152≤K) (a:List Int) (hl:a.length≤2000000):Tot (x_qo K a) fun r=>WSy r.1:=by
 unfold x_qo
 exact tb (t_l1New hK a hl) fun v1 f1=>tb (u_l15Draw hK f1) fun v2 f2=>tb (x_l7 hK f2.2 v2.1 f2.1.2.2.1 f2.1.2.1 f2.1.2.2.2.2.1) fun v3 f3=>tb (x_yr f3.2 _) fun v4 _=>tr f2.1
theorem x_xf (d:x_pu) (h:d.1.length<2097152):Tot (x_ku d) fun x=>x.1=d:=by
 unfold x_ku
 exact tc (by show _≤70368744177664;(try dsimp only);(try simp only [ll_]);omega) (tr rfl)
theorem x_pp (hK:2097152≤K) (l:List TRpc) (h:l.length<2097152) (hs:∀ r∈l,RpSz r):Tot (x_b4 K l) fun x=>x.1=l:=by
 unfold x_b4 x_b4.b
 refine l2_ (L:=x_b4.l0 K l) (fun _ _ _=>rfl) (fun m q x=> ∃ i:Nat,x=i∧i+m=l.length∧q=l.take i) (fun m q x L' hi k=>?_) (m:=l.length) (by omega) ⟨0,rfl,by omega,rfl⟩
 obtain ⟨i,rfl,hm,rfl⟩:=hi
 unfold x_b4.l0b
 rw [tz]
 refine ti (fun a=>tc (by omega) (tc a ?_)) fun a=>tr (by rw [List.take_of_length_le (by omega)])
 have hr:=(hs _ (x_ad (z:=zRpc) (show i<l.length by omega))).1
 rw [wi (i:=i) (by omega)]
 refine tc (by show _≤70368744177664;(try dsimp only);(try simp only [ll_]);omega) (tc (by show _≤70368744177664;(try dsimp only);(try simp only [ll_]);omega) (k (m-1) _ _ (by omega) ⟨i+1,by push_cast;rfl,by omega,?_⟩))
 rw [←x_d1 (z:=zRpc) (by omega)];rfl
theorem x_w5 (hK:2097152≤K) (n:x_bq) (h:NSz n):Tot (x_km K n) fun x=>x.1=n:=by
 obtain ⟨⟨⟨a1,_,a2⟩,b,c,d⟩,e,f,g,i⟩:=h
 unfold x_km
 exact tv (x_pk hK _ a1.1 a2) (tv (x_l5 hK _ b) (tv (x_xf _ i) (tv (x_pp hK _ c d) (tc (by show _≤70368744177664;(try dsimp only);(try simp only [ll_]);omega) (tv (x_f4 _ f) (tv (x_f4 _ g) (tr rfl)))))))
theorem x_n6 (hK:2097152≤K) (w:x_u) (h:WSz w):Tot (x_bc K w) fun x=>x.1=w:=by
 obtain ⟨z1,z2,z3,z4,z5,z6,z7,z8⟩:=h
 unfold x_bc x_bc.b
 refine l2_ (L:=x_bc.l0 K w) (fun _ _ _=>rfl) (fun m x q=> ∃ i:Nat,x=i∧i+m=w.2.2.1.length∧q=w.2.2.1.take i) (fun m x q L' hi k=>?_) (m:=w.2.2.1.length) (by omega) ⟨0,rfl,by omega,rfl⟩
 obtain ⟨i,rfl,hm,rfl⟩:=hi
 unfold x_bc.l0b
 rw [tz]
 refine ti (fun a=>tc (by omega) (tc a (tv (x_w5 hK _ (z2 _ (x_ad (by omega)))) ?_))) fun a=>?_
 ·rw [wi (i:=i) (by omega)]
  refine tc (by show _≤70368744177664;(try dsimp only);(try simp only [ll_]);omega) (k (m-1) _ _ (by omega) ⟨i+1,by push_cast;rfl,by omega,?_⟩)
  rw [←x_d1 (z:=x_bx) (by omega)]
 ·rw [List.take_of_length_le (by omega)]
  exact tv (x_pp hK _ z3 z4) (tc (by show _≤70368744177664;(try dsimp only);(try simp only [ll_]);omega) (tc (by show _≤70368744177664;(try dsimp only);(try simp only [ll_]);omega) (tv (x_f4 _ z6) (tc (by show _≤70368744177664;(try dsimp only);(try simp only [ll_]);omega) (tr rfl)))))
variable {K:Nat}
theorem q0_is (c:TCmd):Is (qCmd c (0,0,0,0,0,0,ByteArray.empty,ByteArray.empty)) (c=zCmd):=x_e1 eCmd c zCmd rfl
theorem ti_isCl (x:Int):Tot (x_f8 x) fun r=>Is r.1 (0≤x∧x≤3):=by
 unfold x_f8
 exact tb (x_9 _ _ _) fun v g=>tr g
theorem cf_net (hK:2097152≤K) (w:x_u) (h:w.2.2.2.1.length<2097152) (hz:∀ r∈w.2.2.2.1,RpSz r):Tot (x_cg K w.2.2.2.1 w) fun x=>Is (!x.1) (∀ i,i<w.2.2.2.1.length→RpOk (w.2.2.2.1.getD i zRpc) w.2.1)∧x.2.1=w:=by
 unfold x_cg x_v x_v.b
 have:Tot (x_v.l0 K w.2.2.2.1 w K 0 w) fun x=>Srch x.1 (∀ i,i<w.2.2.2.1.length→RpOk (w.2.2.2.1.getD i zRpc) w.2.1)∧x.2.1=w:=by
  refine Tot.all1 (L:=x_v.l0 K w.2.2.2.1 w) (fun _ _ _=>rfl) w w.2.2.2.1.length (fun i=>RpOk (w.2.2.2.1.getD i zRpc) w.2.1) (fun i L' hi k ha=>?_) (fun L' ha=>?_) (by omega)
  ·unfold x_v.l0b x_ln
   rw [tz,wi (i:=i) (by omega)]
   refine ti (fun h1=>tc (by omega) (tc h1 ?_)) fun h1=>absurd (show (i:Int)<((w.2.2.2.1.length:Nat):Int) by omega) h1
   refine tb (Q:=fun v=>Is v.1 (¬ RpOk (w.2.2.2.1.getD i zRpc) w.2.1)∧v.2=(w,())) (tb (x_zk hK _ _ (hz _ (x_ad hi))) fun v1 g1=>tr ⟨Is.neg g1,rfl⟩) fun v g=>?_
   obtain ⟨x,y⟩:=v
   obtain ⟨g,rfl⟩:=g
   exact tf g (fun a1=>tr ⟨⟨fun _ h2=>a1 (h2 i hi),fun h2=>by omega⟩,rfl⟩) fun a1=>k (Classical.not_not.1 a1)
  ·unfold x_v.l0b
   exact ti (fun h1=>absurd h1 (by omega)) fun h1=>tr ⟨⟨fun h2=>absurd (show (0:Int)≤ -1 from h2) (by decide),fun _=>ha⟩,rfl⟩
 exact tb this fun v g=>tr ⟨g.1.is,g.2⟩
theorem ti_Hd (hK:2097152≤K) (y:x_sz) (hs:ASz y.2.2.1):Tot (x_jl K y) fun v=>Is v.1 (¬ HdOk y):=by
 unfold x_jl
 refine tb (ti_isCl _) fun v1 g1=>tg g1 (fun a=>tr (x_eg fun h=>a h.1)) fun a1=>?_
 refine tb (x_9 _ _ _) fun v2 g2=>tg g2 (fun a=>tr (x_eg fun h=>a h.2.1)) fun a2=>?_
 refine tb (x_9 _ _ _) fun v3 g3=>tg g3 (fun a=>tr (x_eg fun h=>a h.2.2.1)) fun a3=>?_
 refine tb (x_9 _ _ _) fun v4 g4=>tg g4 (fun a=>tr (x_eg fun h=>a h.2.2.2.1)) fun a4=>?_
 exact tb (x_ps hK _ hs) fun v5 g5=>tr ⟨fun h hd=>(Is.neg g5).1 h hd.2.2.2.2,fun h=>(Is.neg g5).2 fun k=>h ⟨a1,a2,a3,a4,k⟩⟩
theorem ti_Dn (hK:2097152≤K) (y:TCmd) (hs:CSz y):Tot (x_je K y) fun v=>Is v.1 (¬ COk y):=by
 unfold x_je
 exact tb (x_j0 hK _ hs) fun v1 g1=>tr (Is.neg g1)
theorem cf_heard (hK:2097152≤K) (l:List x_sz) (h:l.length<2097152) (hz:∀ r∈l,ASz r.2.2.1):Tot (x_cl K l) fun r=>Is (!r.1) (∀ i,i<l.length→HdOk (l.getD i x_ik)):=by
 unfold x_cl x_w x_w.b
 have:Tot (x_w.l0 K l K 0) fun r=>Srch r.1 (∀ i,i<l.length→HdOk (l.getD i x_ik)):=by
  refine tA (L:=x_w.l0 K l) (fun _ _=>rfl) l.length (fun i=>HdOk (l.getD i x_ik)) (fun i L' hi k ha=>?_) (fun L' ha=>?_) (by omega)
  ·unfold x_w.l0b
   rw [tz,wi (i:=i) (by omega)]
   refine ti (fun h1=>tc (by omega) (tc h1 ?_)) fun h1=>absurd (show (i:Int)<((l.length:Nat):Int) by omega) h1
   exact tb (ti_Hd hK _ (hz _ (x_ad hi))) fun v g=>tf g (fun a1=>tr ⟨fun _ h2=>a1 (h2 i hi),fun h2=>by omega⟩) fun a1=>k (Classical.not_not.1 a1)
  ·unfold x_w.l0b
   exact ti (fun h1=>absurd h1 (by omega)) fun h1=>tr ⟨fun h2=>absurd (show (0:Int)≤ -1 from h2) (by decide),fun _=>ha⟩
 exact tb this fun v g=>tr g.is
theorem cf_done (hK:2097152≤K) (l:List TCmd) (h:l.length<2097152) (hz:∀ r∈l,CSz r):Tot (x_cj K l) fun r=>Is (!r.1) (∀ i,i<l.length→COk (l.getD i zCmd)):=by
 unfold x_cj x_x x_x.b
 have:Tot (x_x.l0 K l K 0) fun r=>Srch r.1 (∀ i,i<l.length→COk (l.getD i zCmd)):=by
  refine tA (L:=x_x.l0 K l) (fun _ _=>rfl) l.length (fun i=>COk (l.getD i zCmd)) (fun i L' hi k ha=>?_) (fun L' ha=>?_) (by omega)
  ·unfold x_x.l0b
   rw [tz,wi (i:=i) (by omega)]
   refine ti (fun h1=>tc (by omega) (tc h1 ?_)) fun h1=>absurd (show (i:Int)<((l.length:Nat):Int) by omega) h1
   exact tb (ti_Dn hK _ (hz _ (x_ad hi))) fun v g=>tf g (fun a1=>tr ⟨fun _ h2=>a1 (h2 i hi),fun h2=>by omega⟩) fun a1=>k (Classical.not_not.1 a1)
  ·unfold x_x.l0b
   exact ti (fun h1=>absurd h1 (by omega)) fun h1=>tr ⟨fun h2=>absurd (show (0:Int)≤ -1 from h2) (by decide),fun _=>ha⟩
 exact tb this fun v g=>tr g.is
theorem x_0b (hK:2097152≤K) (w:x_u) (h:WSy w):Tot (x_a2 K w) fun r=>Is r.1 (WOk w):=by
 obtain ⟨z1,zs,z2,z3,z4,z5,⟨z6,z61⟩,z7,⟨z8,z81⟩,z9,z91⟩:=h
 unfold x_a2 x_a2.b
 refine tb (x_is _) fun v1 g1=>tg g1 (fun a=>tr (x_a fun h=>a h.1)) fun a1=>?_
 refine tb (x_9 _ _ _) fun v2 g2=>tg g2 (fun a=>tr (x_a fun h=>a h.2.1)) fun a2=>?_
 refine tn (fun a=>tr (x_a fun h=>a h.2.2.1)) fun a3=>?_
 refine ti (fun a=>tr (x_a fun h=>by have:=h.2.2.2.2.1.1;omega)) fun a4=>?_
 refine tn (fun a=>tr (x_a fun h=>by have:=h.2.2.2.2.2.1.1;omega)) fun a5=>?_
 refine tn (fun a=>tr (x_a fun h=>by have:=h.2.2.2.2.2.2.1.1;omega)) fun a6=>?_
 refine tb (x_fz hK _ z7 _ _) fun v3 g3=>tg g3 (fun a=>tr (x_a fun h=>a fun i hi=>h.2.2.2.2.2.2.1.2 i (by omega))) fun a7=>?_
 refine ti (fun a=>tr (x_a fun h=>by have:=h.2.2.2.2.2.2.2.1.1;omega)) fun a8=>?_
 refine ti (fun a=>tr (x_a fun h=>by have:=h.2.2.2.2.2.2.2.2.1;omega)) fun a9=>?_
 refine tA (L:=x_a2.l0 K w) (b:=fun L'=>x_a2.l0b K w L' (x_a2.l1 K w K)) (fun _ _=>rfl) w.2.2.1.length (WNd w) (fun i L' hi k _=>?_) (fun L' nd=>?_) (by omega)
 ·unfold x_a2.l0b
  rw [tz,wi (i:=i) (by omega)]
  refine ti (fun h1=>tc (by omega) (tc h1 ?_)) fun h1=>absurd (show (i:Int)<((w.2.2.1.length:Nat):Int) by omega) h1
  have y:=z3 _ (x_ad (z:=x_bx) hi)
  exact tn (fun a=>tr (x_a fun h=>a (h.2.2.2.1 i hi).1)) fun a=>tb (ti_PeerOk hK _ _ _ y.sw y.2.2.2.1 y.2.2.2.2.1) fun v4 g4=>tg g4 (fun b=>tr (x_a fun h=>b (h.2.2.2.1 i hi).2)) fun b=>k ⟨a,b⟩
 unfold x_a2.l0b
 refine ti (fun h1=>absurd h1 (by omega)) fun _=>?_
 refine tA (L:=x_a2.l1 K w) (fun _ _=>rfl) w.2.2.2.2.1.length (fun i=>SaOk (w.2.2.2.2.1.getD i zCmd) i) (fun i L' hi k _=>?_) (fun L' sa=>?_) (by omega)
 ·unfold x_a2.l1b
  rw [tz,wi (i:=i) (by omega)]
  refine ti (fun h1=>tc (by omega) (tc h1 ?_)) fun h1=>absurd (show (i:Int)<((w.2.2.2.2.1.length:Nat):Int) by omega) h1
  refine tg (q0_is _) (fun a=>?_) fun a=>k (.inl a)
  have no:∀ {p:Prop},(COk (w.2.2.2.2.1.getD i zCmd)∧(w.2.2.2.2.1.getD i zCmd).1=(i:Int)→p)→ ¬ p→ ¬ WOk w:=fun f np h=>by
   rcases h.2.2.2.2.2.1.2 i (by omega) with e | e
   ·exact a e
   ·exact np (f e)
  exact tb (x_j0 hK _ (z61 _ (x_ad hi))) fun v5 g5=>tg g5 (fun b=>tr (x_a (no (fun e=>e.1) b))) fun b=>tn (fun c=>tr (x_a (no (fun e=>e.2) c))) fun c=>k (.inr ⟨b,c⟩)
 unfold x_a2.l1b
 refine ti (fun h1=>absurd h1 (by omega)) fun _=>?_
 refine tb (cf_net hK w z4 z5) fun v6 g6=>?_
 rw [g6.2]
 refine tb (cf_heard hK _ z8 z81) fun v7 g7=>tb (cf_done hK _ z9 z91) fun v8 g8=>tf g6.1 (fun c6=>tf g7 (fun c7=>tr ⟨fun h=>?_,fun h=>g8.2 h.2.2.2.2.2.2.2.2.2⟩) fun c=>tr (x_a fun h=>c h.2.2.2.2.2.2.2.1.2)) fun c=>tr (x_a fun h=>c h.2.2.2.2.1.2)
 exact ⟨a1,a2,a3,nd,⟨by omega,c6⟩,⟨by omega,fun i hi=>sa i (by omega)⟩,⟨by omega,fun i hi=>a7 i (by omega)⟩,⟨by omega,c7⟩,by omega,g8.1 h⟩
def AsOk (w:x_u):Prop:=(w.2.2.2.2.1.length=4∧ ∀ i,i<4→SaOk (w.2.2.2.2.1.getD i zCmd) i)∧(w.2.2.2.2.2.1.length=4∧ ∀ i,i<4→0≤w.2.2.2.2.2.1.getD i 0∧w.2.2.2.2.2.1.getD i 0≤300)∧(w.2.2.2.2.2.2.1.length≤300∧ ∀ i,i<w.2.2.2.2.2.2.1.length→HdOk (w.2.2.2.2.2.2.1.getD i x_ik))
theorem x_xl (hK:2097152≤K) (w:x_u) (h:WSy w):Tot (x_ak K w) fun r=>Is r.1 (AsOk w):=by
 obtain ⟨z1,zs,z2,z3,z4,z5,⟨z6,z61⟩,z7,⟨z8,z81⟩,z9,z91⟩:=h
 unfold x_ak x_ak.b
 refine tn (fun a=>tr (x_a fun h=>by have:=h.1.1;omega)) fun a1=>tn (fun a=>tr (x_a fun h=>by have:=h.2.1.1;omega)) fun a2=>ti (fun a=>tr (x_a fun h=>by have:=h.2.2.1;omega)) fun a3=>?_
 refine tA (L:=x_ak.l0 K w) (b:=fun L'=>x_ak.l0b K w L' (x_ak.l1 K w K)) (fun _ _=>rfl) 4 (fun i=>SaOk (w.2.2.2.2.1.getD i zCmd) i∧(0≤w.2.2.2.2.2.1.getD i 0∧w.2.2.2.2.2.1.getD i 0≤300)) (fun i L' hi k _=>?_) (fun L' sa=>?_) (by omega)
 ·unfold x_ak.l0b
  rw [tz,wi (i:=i) (by omega)]
  have fr:SaOk (w.2.2.2.2.1.getD i zCmd) i→ ∀ {r},r=L' ((i:Int)+1)→Tot (bif decide (0≤(i:Int)) then bif decide ((i:Int)<w.2.2.2.2.2.1.length) then (x_bj (w.2.2.2.2.2.1.getD i 0) 0 300).bind fun v3=>bif !v3.1 then some (false,()) else r else none else none) fun r=>Is r.1 (AsOk w):=fun s r e=>by
   subst e
   exact t2_ (by omega) ((tb (x_bk _ _ _) fun v g=>tg g (fun b=>tr (x_a fun h=>b (h.2.1.2 i hi))) fun b=>k ⟨s,b⟩))
  refine ti (fun h1=>t2_ (by omega) (?_)) fun h1=>absurd (show (i:Int)<4 by omega) h1
  refine tg (q0_is _) (fun a=>t2_ (by omega) (?_)) fun a=>fr (.inl a) rfl
  have no:∀ {p:Prop},(COk (w.2.2.2.2.1.getD i zCmd)∧(w.2.2.2.2.1.getD i zCmd).1=(i:Int)→p)→ ¬ p→ ¬ AsOk w:=fun f np h=>by
   rcases h.1.2 i hi with e | e
   ·exact a e
   ·exact np (f e)
  exact tb (x_n7 hK _ (z61 _ (x_ad (by omega)))) fun v5 g5=>tg g5 (fun b=>tr (x_a (no (fun e=>e.1) b))) fun b=>t2_ (by omega) ((tn (fun c=>tr (x_a (no (fun e=>e.2) c))) fun c=>fr (.inr ⟨b,c⟩) rfl))
 unfold x_ak.l0b
 refine ti (fun h1=>absurd h1 (by omega)) fun _=>?_
 refine tA (L:=x_ak.l1 K w) (fun _ _=>rfl) w.2.2.2.2.2.2.1.length (fun i=>HdOk (w.2.2.2.2.2.2.1.getD i x_ik)) (fun i L' hi k _=>?_) (fun L' hd=>?_) (by omega)
 ·unfold x_ak.l1b
  rw [tz,wi (i:=i) (by omega)]
  refine ti (fun h1=>tc (by omega) (tc h1 ?_)) fun h1=>absurd (show (i:Int)<((w.2.2.2.2.2.2.1.length:Nat):Int) by omega) h1
  have no:∀ {p:Prop},(HdOk (w.2.2.2.2.2.2.1.getD i x_ik)→p)→ ¬ p→ ¬ AsOk w:=fun f np h=>np (f (h.2.2.2 i hi))
  refine tb (x_bk _ _ _) fun v1 g1=>tg g1 (fun a=>tr (x_a (no (fun h=>h.1) a))) fun b1=>?_
  refine tb (x_bk _ _ _) fun v2 g2=>tg g2 (fun a=>tr (x_a (no (fun h=>h.2.1) a))) fun b2=>?_
  refine tb (x_bk _ _ _) fun v3 g3=>tg g3 (fun a=>tr (x_a (no (fun h=>h.2.2.1) a))) fun b3=>?_
  refine tb (x_bk _ _ _) fun v4 g4=>tg g4 (fun a=>tr (x_a (no (fun h=>h.2.2.2.1) a))) fun b4=>?_
  exact tb (x_tg hK _ (z81 _ (x_ad hi))) fun v5 g5=>tg g5 (fun a=>tr (x_a (no (fun h=>h.2.2.2.2) a))) fun b5=>k ⟨b1,b2,b3,b4,b5⟩
 unfold x_ak.l1b
 exact ti (fun h1=>absurd h1 (by omega)) fun _=>tr (x_eg ⟨⟨by omega,fun i hi=>(sa i hi).1⟩,⟨by omega,fun i hi=>(sa i hi).2⟩,by omega,hd⟩)
theorem x_x2 (hK:2097152≤K) (w:x_u) (h:WSy w):Tot (x_ac K w) fun r=>Is r.1 (WOk w):=by
 have as:=x_xl hK w h
 obtain ⟨z1,zs,z2,z3,z4,z5,⟨z6,z61⟩,z7,⟨z8,z81⟩,z9,z91⟩:=h
 unfold x_ac x_ac.b
 refine tb (x_f5 _) fun v1 g1=>tg g1 (fun a=>tr (x_a fun h=>a h.1)) fun a1=>?_
 refine tb (x_bk _ _ _) fun v2 g2=>tg g2 (fun a=>tr (x_a fun h=>a h.2.1)) fun a2=>?_
 refine tn (fun a=>tr (x_a fun h=>a h.2.2.1)) fun a3=>?_
 refine ti (fun a=>tr (x_a fun h=>by have:=h.2.2.2.2.1.1;omega)) fun a4=>?_
 refine tb as fun v3 g3=>tg g3 (fun a=>tr (x_a fun h=>a ⟨h.2.2.2.2.2.1,h.2.2.2.2.2.2.1,h.2.2.2.2.2.2.2.1⟩)) fun a5=>?_
 refine ti (fun a=>tr (x_a fun h=>by have:=h.2.2.2.2.2.2.2.2.1;omega)) fun a9=>?_
 refine tA (L:=x_ac.l0 K w) (b:=fun L'=>x_ac.l0b K w L' (x_ac.l1 K w K)) (fun _ _=>rfl) w.2.2.1.length (WNd w) (fun i L' hi k _=>?_) (fun L' nd=>?_) (by omega)
 ·unfold x_ac.l0b
  rw [tz,wi (i:=i) (by omega)]
  refine ti (fun h1=>t2_ (by omega) (?_)) fun h1=>absurd (show (i:Int)<w.2.1 by omega) h1
  have y:=z3 _ (x_ad (z:=x_bx) hi)
  exact tn (fun a=>tr (x_a fun h=>a (h.2.2.2.1 i hi).1)) fun a=>t2_ (by omega) ((tb (x_vv hK _ _ _ y.sw) fun v4 g4=>tg g4 (fun b=>tr (x_a fun h=>b (h.2.2.2.1 i hi).2)) fun b=>k ⟨a,b⟩))
 unfold x_ac.l0b
 refine ti (fun h1=>absurd h1 (by omega)) fun _=>?_
 refine tA (L:=x_ac.l1 K w) (b:=fun L'=>x_ac.l1b K w L' (x_ac.l2 K w K)) (fun _ _=>rfl) w.2.2.2.1.length (fun i=>RpOk (w.2.2.2.1.getD i zRpc) w.2.1) (fun i L' hi k _=>?_) (fun L' nt=>?_) (by omega)
 ·unfold x_ac.l1b
  rw [tz,wi (i:=i) (by omega)]
  refine ti (fun h1=>tc (by omega) (tc h1 ?_)) fun h1=>absurd (show (i:Int)<((w.2.2.2.1.length:Nat):Int) by omega) h1
  exact tb (x_vn hK _ _ (z5 _ (x_ad hi))) fun v4 g4=>tg g4 (fun b=>tr (x_a fun h=>b (h.2.2.2.2.1.2 i hi))) fun b=>k b
 unfold x_ac.l1b
 refine ti (fun h1=>absurd h1 (by omega)) fun _=>?_
 refine tA (L:=x_ac.l2 K w) (fun _ _=>rfl) w.2.2.2.2.2.2.2.length (fun i=>COk (w.2.2.2.2.2.2.2.getD i zCmd)) (fun i L' hi k _=>?_) (fun L' dn=>?_) (by omega)
 ·unfold x_ac.l2b
  rw [tz,wi (i:=i) (by omega)]
  refine ti (fun h1=>tc (by omega) (tc h1 ?_)) fun h1=>absurd (show (i:Int)<((w.2.2.2.2.2.2.2.length:Nat):Int) by omega) h1
  exact tb (x_n7 hK _ (z91 _ (x_ad hi))) fun v4 g4=>tg g4 (fun b=>tr (x_a fun h=>b (h.2.2.2.2.2.2.2.2.2 i hi))) fun b=>k b
 unfold x_ac.l2b
 exact ti (fun h1=>absurd h1 (by omega)) fun _=>tr (x_eg ⟨a1,a2,a3,nd,⟨by omega,nt⟩,a5.1,a5.2.1,a5.2.2,by omega,dn⟩)
variable {K:Nat}
theorem x_lr (hK:2097152≤K) (l:List Int) (h:l.length<200000):Tot (x_el K l) fun x=>x.1.length≤5*l.length∧x.1=x_i9 l:=(x_r9 hK l h).mono fun x e=>⟨by rw [e];exact (x_ez l).2,e⟩
theorem v_text (hK:2097152≤K) (s:ByteArray) (h:s.size≤30):Tot (x_fl K s) fun x=>x.1.length≤35∧x.1=encT s:=(x_la hK s (by omega)).mono fun x e=>⟨by rw [e];have:=(x_f9 s).2;omega,e⟩
theorem cItem_enc (x:x_l9):x_xz.enc x=encN x.1++(encT x.2.1++(encT x.2.2.1++(encN x.2.2.2.1++encN x.2.2.2.2))):=rfl
theorem x_w8 (hK:2097152≤K) (r:TRow) (h:ROk r):Tot (x_b9 K r) fun x=>x.1=kRow r:=by
 have h3:=h.2.2.1
 unfold x_b9 x_b9.b
 refine tb (x_lr hK _ (by simp)) fun v1 g1=>?_
 have h0:v1.1.length≤15:=g1.1
 refine l2_ (L:=x_b9.l0 K r) (fun _ _ _=>rfl) (fun m q x=> ∃ i:Nat,x=i∧i+m=r.2.2.length∧q.1.length≤15+85*i∧q.1=v1.1++(r.2.2.take i).flatMap x_xz.enc) (fun m q x L' hi kk=>?_) (m:=r.2.2.length) (by omega) ⟨0,rfl,by omega,by omega,by simp⟩
 obtain ⟨i,rfl,hm,hl,hq⟩:=hi
 unfold x_b9.l0b
 rw [tz]
 refine ti (fun h1=>tc (by omega) (tc h1 ?_)) fun h1=>tr (by show q.1=_;rw [hq,List.take_of_length_le (by omega),g1.2];rfl)
 have hi:i<r.2.2.length:=by omega
 have hx:=(h.2.2.2 i hi).1
 refine tb (x_lr hK _ (by simp)) fun v2 g2=>tb (v_text hK _ hx.1.1) fun v3 g3=>tb (v_text hK _ hx.2.1.1) fun v4 g4=>tb (x_lr hK _ (by simp)) fun v5 g5=>?_
 have e2:v2.1.length≤5:=g2.1
 have e5:v5.1.length≤10:=g5.1
 have e3:=g3.1
 have e4:=g4.1
 refine tb (x_lb hK _ (by simp) (by simp only [List.flatMap_cons,List.flatMap_nil,length_append,length_nil];omega)) fun v6 g6=>?_
 rw [w6 (by omega) (by omega)]
 refine kk (m-1) _ _ (by omega) ⟨i+1,by push_cast;rfl,by omega,?_,?_⟩
 ·rw [g6]
  simp only [List.flatMap_cons,List.flatMap_nil,length_append,length_nil]
  omega
 ·rw [g6,x_g0 (z:=x_ce) hi,cItem_enc]
  simp only [List.flatMap_cons,List.flatMap_nil,List.append_nil,hq,g2.2,g3.2,g4.2,g5.2,List.append_assoc]
  simp only [x_i9,List.flatMap_cons,List.flatMap_nil,List.append_nil,List.append_assoc]
theorem x_un (hK:2097152≤K) (p:x_d) (k:x_ai) (h:KOk p k):Tot (x_c K p k) fun x=>x.1=kB k:=by
 have ml:=h.2.2.2.2.2.2.1.len
 have hko:=h
 obtain ⟨h1,h2,h3,h4,h5,h6,h7,h8,h9,h10⟩:=h
 have hr:=h1.1
 have hw:=h1.2.1
 have L5:∀ q:List Int,q.length≤80000→Tot (x_c.l5 K p k K q 0) fun x=>x.1=q++(k.2.2.2.2.1.zip k.2.2.2.2.2).flatMap x_sf:=fun q0 hq=>by
  have hz:(k.2.2.2.2.1.zip k.2.2.2.2.2).length=4:=by rw [List.length_zip];omega
  refine l2_ (L:=x_c.l5 K p k) (fun _ _ _=>rfl) (fun m q x=> ∃ i:Nat,x=i∧i+m=4∧q.length≤80000+100*i∧q=q0++((k.2.2.2.2.1.zip k.2.2.2.2.2).take i).flatMap x_sf) (fun m q x L' hi kk=>?_) (m:=4) (by omega) ⟨0,rfl,rfl,hq,by simp⟩
  obtain ⟨i,rfl,hm,hq,hb⟩:=hi
  unfold x_c.l5b
  refine ti (fun a=>?_) fun a=>tr (by rw [List.take_of_length_le (by omega)] at hb;exact hb)
  have ha:=h10 i (by omega)
  rw [wi (i:=i) (by omega),tz]
  refine t2_ (by omega) ((t2_ (by omega) ((tb (x_lr hK _ (by show (3:Nat)<_;decide)) fun v15 g15=>tb (v_text hK _ ha.2.2.2.1.1) fun v16 g16=>tb (v_text hK _ ha.2.2.2.2.1) fun v17 g17=>?_))))
  have e15:v15.1.length≤15:=g15.1
  have e16:=g16.1
  have e17:=g17.1
  refine tb (x_lb hK _ (by simp) (by simp only [List.flatMap_cons,List.flatMap_nil,length_append,length_nil];omega)) fun v18 g18=>?_
  refine kk (m-1) _ _ (by omega) ⟨i+1,by push_cast;rfl,by omega,by rw [g18];simp only [List.flatMap_cons,List.flatMap_nil,length_append,length_nil];omega,?_⟩
  rw [g18,x_g0 (z:=((0:Int),x_b7)) (by omega),zip_at (by omega) (by omega)]
  simp only [List.flatMap_cons,List.flatMap_nil,List.append_nil,hb,g15.2,g16.2,g17.2]
  unfold x_sf
  simp only [List.append_assoc]
 have L3:∀ q:List Int,q.length≤70000→Tot (x_c.l3 K p k K q 0) fun x=>x.1=q++(k.2.2.1.flatMap x_kb++(encN k.2.2.2.1++(k.2.2.2.2.1.zip k.2.2.2.2.2).flatMap x_sf)):=fun q0 hq=>by
  refine l2_ (L:=x_c.l3 K p k) (b:=fun L'=>x_c.l3b K p k (x_c.l4 K p k L' K) (x_c.l5 K p k K)) (fun _ _ _=>rfl) (fun m q x=> ∃ i:Nat,x=i∧i+m=2∧q.length≤70000+1000*i∧q=q0++(k.2.2.1.take i).flatMap x_kb) (fun m q x L' hi kk=>?_) (m:=2) (by omega) ⟨0,rfl,rfl,hq,by simp⟩
  obtain ⟨i,rfl,hm,hq,hb⟩:=hi
  unfold x_c.l3b
  refine ti (fun a=>?_) fun a=>tb (x_lr hK _ (by show (1:Nat)<_;decide)) fun v g=>?_
  ·have hg:=h9 i (by omega)
   have hgl:=hg.len
   have hgb:=hg.2.1
   have hgo:=hg.2.2.1
   have hz:((k.2.2.1.getD i x_bv).2.1.zip (k.2.2.1.getD i x_bv).2.2.1).length=(k.2.2.1.getD i x_bv).2.1.length:=by rw [List.length_zip];omega
   rw [tz]
   refine t2_ (by omega) ((tb (x_lr hK _ (by show (2:Nat)<_;decide)) fun v11 g11=>?_))
   have e11:v11.1.length≤10:=g11.1
   refine tc (by show _≤70368744177664;(try dsimp only);(try simp only [ll_]);omega) (l3_ (L:=x_c.l4 K p k L') (fun _ _ _ _=>rfl) (fun d q' y x=>y=(i:Int)∧ ∃ j:Nat,x=j∧j+d=(k.2.2.1.getD i x_bv).2.1.length∧q'.length≤70000+1000*i+10+10*j∧q'=q++(v11.1++(((k.2.2.1.getD i x_bv).2.1.zip (k.2.2.1.getD i x_bv).2.2.1).take j).flatMap (cN.pr cN).enc)) (fun d q' y x L5 hj k5=>?_) (m:=(k.2.2.1.getD i x_bv).2.1.length) (by omega) ⟨rfl,0,rfl,by omega,by rw [length_append];omega,by simp⟩)
   obtain ⟨rfl,j,rfl,hd,hq',hb'⟩:=hj
   unfold x_c.l4b
   rw [tz,tz]
   refine ti (fun b=>?_) fun b=>?_
   ·rw [wi (i:=j) (by omega)]
    refine tc (by omega) (tc b (t2_ (by omega) ((tb (x_lr hK _ (by show (2:Nat)<_;decide)) fun v12 g12=>?_))))
    have e12:v12.1.length≤10:=g12.1
    refine tc (by show _≤70368744177664;(try dsimp only);(try simp only [ll_]);omega) (k5 (d-1) _ _ _ (by omega) ⟨rfl,j+1,by push_cast;rfl,by omega,by rw [length_append];omega,?_⟩)
    rw [x_g0 (z:=((0:Int),(0:Int))) (by omega),zip_at (by omega) (by omega),hb',g12.2]
    show _=_++(_++(_++(encN _++encN _)))
    simp only [x_i9,List.flatMap_cons,List.flatMap_nil,List.append_nil,List.append_assoc]
   ·rw [wi (i:=i) (by omega)]
    refine tb (x_lr hK _ (by omega)) fun v13 g13=>tc (by show _≤70368744177664;(try dsimp only);(try simp only [ll_]);omega) (kk (m-1) _ _ (by omega) ⟨i+1,by push_cast;rfl,by omega,by rw [length_append];omega,?_⟩)
    rw [List.take_of_length_le (by omega)] at hb'
    rw [x_g0 (z:=x_bv) (by omega),hb',g13.2,g11.2,hb]
    unfold x_kb
    simp only [List.append_assoc]
  ·have e:v.1.length≤5:=g.1
   refine tc (by show _≤70368744177664;(try dsimp only);(try simp only [ll_]);omega) ((L5 _ (by rw [length_append];omega)).mono fun x e=>?_)
   rw [List.take_of_length_le (by omega)] at hb
   rw [e,hb,g.2]
   simp only [x_i9,List.flatMap_cons,List.flatMap_nil,List.append_nil,List.append_assoc]
 have L1:∀ q:List Int,q.length≤60000→Tot (x_c.l1 K p k K q 0) fun x=>x.1=q++(k.2.1.flatMap x_mk++(encN (k.2.2.1.length:Int)++(k.2.2.1.flatMap x_kb++(encN k.2.2.2.1++(k.2.2.2.2.1.zip k.2.2.2.2.2).flatMap x_sf)))):=fun q0 hq=>by
  refine l2_ (L:=x_c.l1 K p k) (b:=fun L'=>x_c.l1b K p k (x_c.l2 K p k L' K) (x_c.l3 K p k K)) (fun _ _ _=>rfl) (fun m q x=> ∃ i:Nat,x=i∧i+m=k.2.1.length∧q.length≤60000+100*i∧q=q0++(k.2.1.take i).flatMap x_mk) (fun m q x L' hi kk=>?_) (m:=k.2.1.length) (by omega) ⟨0,rfl,by omega,hq,by simp⟩
  obtain ⟨i,rfl,hm,hq,hb⟩:=hi
  unfold x_c.l1b
  refine ti (fun a=>?_) fun a=>tb (x_lr hK _ (by show (1:Nat)<_;decide)) fun v g=>?_
  ·have hg:=(h7 i (by omega)).1.2.1
   rw [tz]
   refine t2_ (by omega) ((tb (x_lr hK _ (by show (5:Nat)<_;decide)) fun v11 g11=>?_))
   have e11:v11.1.length≤25:=g11.1
   refine tc (by show _≤70368744177664;(try dsimp only);(try simp only [ll_]);omega) (l3_ (L:=x_c.l2 K p k L') (fun _ _ _ _=>rfl) (fun d q' y x=>y=(i:Int)∧ ∃ j:Nat,x=j∧j+d=(k.2.1.getD i x_bb).2.2.2.2.length∧q'.length≤60000+100*i+25+10*j∧q'=q++(v11.1++((k.2.1.getD i x_bb).2.2.2.2.take j).flatMap x_1b.enc)) (fun d q' y x L5 hj k5=>?_) (m:=(k.2.1.getD i x_bb).2.2.2.2.length) (by omega) ⟨rfl,0,rfl,by omega,by rw [length_append];omega,by simp⟩)
   obtain ⟨rfl,j,rfl,hd,hq',hb'⟩:=hj
   unfold x_c.l2b
   rw [tz,tz]
   refine ti (fun b=>?_) fun b=>?_
   ·rw [wi (i:=j) (by omega)]
    refine tc (by omega) (tc b (tb (x_lr hK _ (by show (2:Nat)<_;decide)) fun v12 g12=>?_))
    have e12:v12.1.length≤10:=g12.1
    refine tc (by show _≤70368744177664;(try dsimp only);(try simp only [ll_]);omega) (k5 (d-1) _ _ _ (by omega) ⟨rfl,j+1,by push_cast;rfl,by omega,by rw [length_append];omega,?_⟩)
    rw [x_g0 (z:=x_ie) (by omega),hb',g12.2]
    show _=_++(_++(_++(encN _++encN _)))
    simp only [x_i9,List.flatMap_cons,List.flatMap_nil,List.append_nil,List.append_assoc]
   ·rw [wi (i:=i) (by omega)]
    refine kk (m-1) _ _ (by omega) ⟨i+1,by push_cast;rfl,by omega,by omega,?_⟩
    rw [List.take_of_length_le (by omega)] at hb'
    rw [x_g0 (z:=x_bb) (by omega),hb',g11.2,hb]
    unfold x_mk
    simp only [List.append_assoc]
  ·have e:v.1.length≤5:=g.1
   refine tc (by show _≤70368744177664;(try dsimp only);(try simp only [ll_]);omega) ((L3 _ (by rw [length_append];omega)).mono fun x e=>?_)
   rw [List.take_of_length_le (by omega)] at hb
   rw [e,hb,g.2]
   simp only [x_i9,List.flatMap_cons,List.flatMap_nil,List.append_nil,List.append_assoc]
 unfold x_c x_c.b
 refine tb (x_m1 hK p k hko.sz) fun v0 g0=>tg g0 (fun a=>absurd hko a) fun _=>tb (x_lr hK _ (by show (1:Nat)<_;decide)) fun v1 g1=>?_
 have e1:v1.1.length≤5:=g1.1
 refine l2_ (L:=x_c.l0 K p k) (b:=fun L'=>x_c.l0b K p k L' (x_c.l1 K p k K)) (fun _ _ _=>rfl) (fun m q x=> ∃ i:Nat,x=i∧i+m=k.1.length∧q.length≤5+10000*i∧q=v1.1++(k.1.take i).flatMap kRow) (fun m q x L' hi kk=>?_) (m:=k.1.length) (by omega) ⟨0,rfl,by omega,e1,by simp⟩
 obtain ⟨i,rfl,hm,hq,hb⟩:=hi
 unfold x_c.l0b
 refine ti (fun a=>?_) fun a=>tb (x_lr hK _ (by show (1:Nat)<_;decide)) fun v g=>?_
 ·have hg:=h8 i (by omega)
  have hgl:=x_zd hg
  rw [tz]
  refine t2_ (by omega) ((tv (x_w8 hK _ hg) ?_))
  rw [wi (i:=i) (by omega)]
  refine tc (by show (q.length+(kRow (k.1.getD i zRow)).length)*2≤70368744177664;omega) (kk (m-1) _ _ (by omega) ⟨i+1,by push_cast;rfl,by omega,by show (q++kRow (k.1.getD i zRow)).length≤_;rw [length_append];omega,?_⟩)
  rw [x_g0 (z:=zRow) (by omega),hb]
  simp only [List.append_assoc]
 ·have e:v.1.length≤5:=g.1
  refine tc (by show _≤70368744177664;(try dsimp only);(try simp only [ll_]);omega) ((L1 _ (by rw [length_append];omega)).mono fun x e=>?_)
  rw [List.take_of_length_le (by omega)] at hb
  rw [e,hb,g.2,g1.2]
  unfold kB
  simp only [x_i9,List.flatMap_cons,List.flatMap_nil,List.append_nil,List.append_assoc]
theorem termAt_lt {l:TLog} (h:LOk l) {i:Nat} (hi:i≤l.2.2.length):x_k8 l (l.1+(i:Int))=x_ir l i:=by
 have a1:=h.1
 have a3:=h.2.2.1
 have hl:x_fb l=l.1+(l.2.2.length:Int):=rfl
 unfold x_k8
 by_cases h0:i=0
 ·subst h0
  rw [if_pos (by omega)];rfl
 ·rw [if_neg (by omega),if_pos (by omega),show (l.1+(i:Int)-l.1-1).toNat=i-1 by omega]
  unfold x_ir
  rw [if_neg h0]
theorem x_j4 (hK:2097152≤K) (r:x_df) (a:NtOk r):Tot (x_a8 K r) fun x=>x.1=x_h3 r:=(x_oy hK r a.es).mono fun x g=>g.1 a
theorem x_um (hK:2097152≤K) (p:x_d) (h:x_dh) (k:HOk p h) (hb:0<h.2.2.1.1):Tot (x_au K p h) fun x=>x.1=x_mo h:=by
 have hlog:=k.2.2.1
 have hb0:=hlog.1
 have hlen:=hlog.2.2.1
 have a1:=x_g2 (x_ka k)
 have a2:=x_g2 (x_j3 k)
 unfold x_au x_au.b
 refine tb (x_ky hK p h k.sz.w) fun v1 g1=>tg g1 (fun a=>absurd k a) fun _=>tv (x_j4 hK _ (x_ka k)) (ti (fun _=>?_) fun a=>absurd hb a)
 refine tv (x_un hK p _ k.2.2.2.2) (tv (x_j4 hK _ (x_j3 k)) (tc (by show ((x_h3 (x_sy h)).length+(x_h3 (x_tl h)).length)*2≤70368744177664;omega) ?_))
 refine l2_ (L:=x_au.l0 K p h) (fun _ _ _=>rfl) (fun m q x=> ∃ i:Nat,x=40*(i:Int)∧i+m=x_gx h∧q.length≤68800+34400*i∧q=([x_sy h,x_tl h]++(List.range i).map (x_q0 h)).flatMap x_h3) (fun m q x L' hi kk=>?_) (m:=x_gx h) (by unfold x_gx;omega) ⟨0,rfl,by omega,by show (x_h3 (x_sy h)++x_h3 (x_tl h)).length≤_;rw [length_append];omega,by simp;rfl⟩
 obtain ⟨i,rfl,hm,hql,hq⟩:=hi
 have hc:x_gx h≤8:=by unfold x_gx;omega
 unfold x_au.l0b
 refine ti (fun a=>?_) fun a=>tr (by show q=_;rw [hq,x_sw (h:=h) (i:=i) (by omega) (by omega)];rfl)
 rw [w6 (n:=40*(i:Int)+40) (by omega) (by omega),w6 (n:=h.2.2.1.1+40*(i:Int)) (by omega) (by omega)]
 have hv2:(min (40*(i:Int)+40) (h.2.2.1.2.2.length:Int)).toNat=min (40*i+40) h.2.2.1.2.2.length:=by omega
 have hi:40*i<h.2.2.1.2.2.length:=by omega
 have hic:i<x_gx h:=by unfold x_gx;omega
 refine tc rfl (t2_ (by omega) ((tc (by omega) (tv (a:=x_ir h.2.2.1 (40*i)) ((x_qg _ hlog.bd _).mono fun x e=>by rw [e,show 40*(i:Int)=((40*i:Nat):Int) by omega];exact termAt_lt hlog (by omega)) ?_))))
 have e:((2,x_ir h.2.2.1 (40*i),0,h.2.2.1.1+40*(i:Int),(h.2.2.1.2.2.take (min (40*(i:Int)+40) (h.2.2.1.2.2.length:Int)).toNat).drop (40*(i:Int)).toNat,ByteArray.empty):x_df)=x_q0 h i:=by
  unfold x_q0
  rw [show (40*(i:Int)).toNat=40*i by omega,x_ys _ _ _ hv2]
  simp
 rw [e]
 have n:=x_rq k hi
 have nl:=x_g2 n
 have gl:q.length+(x_h3 (x_q0 h i)).length≤68800+34400*(i+1):=by omega
 refine tv (x_j4 hK _ n) (tc (by show (q.length+(x_h3 (x_q0 h i)).length)*2≤70368744177664;omega) (kk (m-1) _ _ (by omega) ⟨i+1,by push_cast;omega,by omega,by show (q++x_h3 (x_q0 h i)).length≤_;rw [length_append];exact gl,?_⟩))
 rw [x_vu, ←hq]
variable {K:Nat}
noncomputable abbrev dCut (a:Int):x_kc:=(10,a,0,0,0,0,0,0,0,ByteArray.empty,ByteArray.empty)
def atN (w:x_u) (a:Int):x_bq:=w.2.2.1.getD a.toNat x_bx
def Idle (n:x_bq):Prop:=n.2.2.2.2.2.2.2.2.1.2≠(n.2.2.2.2.2.2.2.2.1.1.length:Int)∨n.2.2.2.2.2.2.1=n.2.1.2.2.1.1
theorem code1 {w:x_u} {a:Int} (h:¬ WOk w):x_c8 w a=1:=if_pos h
theorem code2 {w:x_u} {a:Int} (h:WOk w) (ha:¬ (0≤a∧a≤w.2.1-1)):x_c8 w a=2:=(if_neg (fun k=>k h)).trans (if_pos ha)
theorem code3 {w:x_u} {a:Int} (h:WOk w) (ha:0≤a∧a≤w.2.1-1) (k:Idle (atN w a)):x_c8 w a=3:=(if_neg (fun k=>k h)).trans ((if_neg (fun k=>k ha)).trans (if_pos k))
theorem code4 {w:x_u} {a:Int} (h:WOk w) (ha:0≤a∧a≤w.2.1-1) (k:¬ Idle (atN w a)) (b:80000<(x_mo (cutH (atN w a))).length):x_c8 w a=4:=(if_neg (fun k=>k h)).trans ((if_neg (fun k=>k ha)).trans ((if_neg k).trans (if_pos b)))
theorem code0 {w:x_u} {a:Int} (h:WOk w) (ha:0≤a∧a≤w.2.1-1) (k:¬ Idle (atN w a)) (b:¬ 80000<(x_mo (cutH (atN w a))).length):x_c8 w a=0:=(if_neg (fun k=>k h)).trans ((if_neg (fun k=>k ha)).trans ((if_neg k).trans (if_neg b)))
theorem Idle.not {n:x_bq} (h:n.2.2.2.2.2.2.2.2.1.2=(n.2.2.2.2.2.2.2.2.1.1.length:Int)) (k:¬ n.2.2.2.2.2.2.1=n.2.1.2.2.1.1):¬ Idle n:=fun e=>by
 rcases e with e | e
 ·exact e h
 ·exact k e
theorem x_sn {w:x_u} (h:WOk w) {i:Nat} (hi:i<w.2.2.1.length) {q:List TCmd} (hq:(q.length:Int)<(w.2.2.1.getD i x_bx).2.2.2.2.2.2.1):q.length+1≤300:=by
 have k:=(h.2.2.2.1 i hi).2
 have a:=k.2.2.2.2.2.2.2.2.2.2.1.2
 have b:=k.2.2.1.2.2.1.last.2
 omega
theorem x_yl {α : Type} {l m:List α} {i:Nat} {z : α}:(l++m).getD i z=if i<l.length then l.getD i z else m.getD (i-l.length) z:=by
 rw [gd_,List.getElem?_append]
 split<;>rw [gd_]
theorem ti_gather (hK:2097152≤K) (w:x_u) (h:WOk w):Tot (x_5 K w) fun x=> ∃ d:List TCmd,x.1=(w.1,w.2.1,w.2.2.1,w.2.2.2.1,w.2.2.2.2.1,w.2.2.2.2.2.1,w.2.2.2.2.2.2.1,d)∧WOk x.1:=by
 have hs:=h.2.2.1
 have hsz:=h.2.1
 have hd:=h.2.2.2.2.2.2.2.2
 unfold x_5 x_5.b
 refine l2_ (L:=x_5.l0 K w) (b:=fun L'=>x_5.l0b K w (x_5.l1 K w L' K)) (fun _ _ _=>rfl) (fun m x q=>(∃ i:Nat,x=i∧i+m=w.2.2.1.length)∧q.length≤300∧ ∀ i,i<q.length→COk (q.getD i zCmd)) (fun m x q L' hi kk=>?_) (m:=w.2.2.1.length) (by omega) ⟨⟨0,rfl,by omega⟩,hd⟩
 obtain ⟨⟨i,rfl,hm⟩,hq,hqs⟩:=hi
 unfold x_5.l0b
 refine ti (fun a=>tc (by omega) (tc a ?_)) fun a=>tr ⟨q,rfl,h.done hq hqs⟩
 have hin:i<w.2.2.1.length:=by omega
 have hn:=(h.2.2.2.1 i hin).2
 have hlog:=hn.2.2.1.2.2.1
 have hb:=hlog.1
 have hll:=hlog.2.2.1
 refine l2_ (L:=x_5.l1 K w L') (fun _ _ _=>rfl) (fun d x q=>x=(i:Int)∧q.length+d=300∧ ∀ i,i<q.length→COk (q.getD i zCmd)) (fun d x q L1 hj k1=>?_) (m:=300-q.length) (by omega) ⟨rfl,by omega,hqs⟩
 obtain ⟨rfl,hd,hqs⟩:=hj
 unfold x_5.l1b
 rw [tz,wi (i:=i) (by omega),w6 (n:=(q.length:Int)-(w.2.2.1.getD i x_bx).2.1.2.2.1.1) (by omega) (by omega),w6 (n:=((w.2.2.1.getD i x_bx).2.1.2.2.1.2.2.length:Int)-1) (by omega) (by omega)]
 have go:=kk (m-1) ((i:Int)+1) q (by omega) ⟨⟨i+1,by push_cast;rfl,by omega⟩,by omega,hqs⟩
 refine ti (fun b=>tb (x_9 _ _ _) fun v1 g1=>tg g1 (fun _=>go) fun c=>?_) fun _=>go
 have hg:=x_sn h hin b
 refine t2_ (by omega) ((tc (by show _≤70368744177664;(try dsimp only);(try simp only [ll_]);omega) (k1 (d-1) _ _ (by omega) ⟨rfl,by rw [length_append,length_singleton];omega,fun j hj=>?_⟩)))
 rw [length_append,length_singleton] at hj
 rcases Nat.lt_or_ge j q.length with k | k
 ·rw [x_yl,if_pos k]
  exact hqs j k
 ·rw [x_yl,if_neg (by omega),show j-q.length=0 by omega]
  exact (hlog.2.2.2 _ (by omega)).2
variable {K:Nat}
theorem t2_l15Cut (hK:2097152≤K) (w:x_u) (h:WOk w) (a:Int) (ha:0≤a∧a≤w.2.1-1):Tot (x_lq K w a) fun x=>x.2.1=x_c8 w a∧(x_c8 w a=0→x.1=(w.1,w.2.1,w.2.2.1.set a.toNat (cutN (atN w a)),w.2.2.2.1,w.2.2.2.2.1,w.2.2.2.2.2.1,w.2.2.2.2.2.2.1,w.2.2.2.2.2.2.2)):=by
 have hs:=h.2.2.1
 have hn:=(h.nd ha).2
 have nz:∀ {c:Int},c≠0→x_c8 w a=c→ ∀ {x:x_u},(c=x_c8 w a)∧(x_c8 w a=0→x=(w.1,w.2.1,w.2.2.1.set a.toNat (cutN (atN w a)),w.2.2.2.1,w.2.2.2.2.1,w.2.2.2.2.2.1,w.2.2.2.2.2.2.1,w.2.2.2.2.2.2.2)):=fun {c} n e {x} =>⟨e.symm,fun k=>absurd (e.symm.trans k) n⟩
 unfold x_lq
 refine t2_ (by omega) ((tn (fun e=>tr (nz (by decide) (code3 h ha (.inl e)))) fun e1=>ti (fun e=>tr (nz (by decide) (code3 h ha (.inr e)))) fun e2=>?_))
 have hc:=x_wv hn
 have hb:=x_mr hn e2
 refine tv (x_re _ hn.2.2.1.2.2.1.bd _) (tv (x_l2 hK _ hn.2.2.2.2.2.2.2.2.2.2.2.1.sz) (tv (x_xo hK w.1 (cutH (atN w a)) hc (by show 0<(cutH (w.2.2.1.getD a.toNat x_bx)).2.2.1.1;omega)) ?_))
 refine ti (fun e=>tr (nz (by decide) (code4 h ha (Idle.not e1 e2) (by show 80000<(x_mo (cutH (atN w a))).length;have e:((x_mo (cutH (atN w a))).length:Int)>80000:=e;omega)))) fun e=>t2_ (by omega) ((tr ⟨(code0 h ha (Idle.not e1 e2) fun k=>e ?_).symm,fun _=>rfl⟩))
 show ((x_mo (cutH (atN w a))).length:Int)>80000
 omega
theorem ti_cut (hK:2097152≤K) (w:x_u) (h:WOk w) (a:Int) (ha:0≤a∧a≤w.2.1-1):Tot (x_i7 K w a) fun x=>x.1=x_c8 w a∧(x_c8 w a=0→x.2.1=(w.1,w.2.1,w.2.2.1.set a.toNat (cutN (atN w a)),w.2.2.2.1,w.2.2.2.2.1,w.2.2.2.2.2.1,w.2.2.2.2.2.2.1,w.2.2.2.2.2.2.2)):=by
 have hs:=h.2.2.1
 have hn:=(h.nd ha).2
 have nz:∀ {c:Int},c≠0→x_c8 w a=c→ ∀ {x:x_u},(c=x_c8 w a)∧(x_c8 w a=0→x=(w.1,w.2.1,w.2.2.1.set a.toNat (cutN (atN w a)),w.2.2.2.1,w.2.2.2.2.1,w.2.2.2.2.2.1,w.2.2.2.2.2.2.1,w.2.2.2.2.2.2.2)):=fun {c} n e {x} =>⟨e.symm,fun k=>absurd (e.symm.trans k) n⟩
 unfold x_i7
 refine t2_ (by omega) ((tn (fun e=>tr (nz (by decide) (code3 h ha (.inl e)))) fun e1=>ti (fun e=>tr (nz (by decide) (code3 h ha (.inr e)))) fun e2=>?_))
 have hc:=x_wv hn
 have hb:=x_mr hn e2
 refine tv (x_wc _ hn.2.2.1.2.2.1.bd _) (tv (x_l5 hK _ hn.2.2.2.2.2.2.2.2.2.2.2.1.sz) (tv (x_um hK w.1 (cutH (atN w a)) hc (by show 0<(cutH (w.2.2.1.getD a.toNat x_bx)).2.2.1.1;omega)) ?_))
 refine ti (fun e=>tr (nz (by decide) (code4 h ha (Idle.not e1 e2) (by show 80000<(x_mo (cutH (atN w a))).length;have e:((x_mo (cutH (atN w a))).length:Int)>80000:=e;omega)))) fun e=>t2_ (by omega) ((tr ⟨(code0 h ha (Idle.not e1 e2) fun k=>e ?_).symm,fun _=>rfl⟩))
 show ((x_mo (cutH (atN w a))).length:Int)>80000
 omega
theorem x_yt {w:x_u} {a:Int} (h:x_c8 w a=0):WOk w∧(0≤a∧a≤w.2.1-1)∧ ¬ Idle (atN w a)∧(x_mo (cutH (atN w a))).length≤80000:=by
 by_cases h1:WOk w
 ·by_cases h2:0≤a∧a≤w.2.1-1
  ·by_cases h3:Idle (atN w a)
   ·rw [code3 h1 h2 h3] at h;exact absurd h (by decide)
   ·by_cases h4:80000<(x_mo (cutH (atN w a))).length
    ·rw [code4 h1 h2 h3 h4] at h;exact absurd h (by decide)
    ·exact ⟨h1,h2,h3,Nat.le_of_not_lt h4⟩
  ·rw [code2 h1 h2] at h;exact absurd h (by decide)
 ·rw [code1 h1] at h;exact absurd h (by decide)
theorem cutW_ok {w:x_u} {a:Int} (h:x_c8 w a=0):WOk (w.1,w.2.1,w.2.2.1.set a.toNat (cutN (atN w a)),w.2.2.2.1,w.2.2.2.2.1,w.2.2.2.2.2.1,w.2.2.2.2.2.2.1,w.2.2.2.2.2.2.2):=by
 obtain ⟨h1,h2,h3,h4⟩:=x_yt h
 have hs:=h1.2.2.1
 have hn:=h1.nd h2
 exact h1.set (by omega) hn.1 (cutN_ok hn.2 (fun e=>h3 (.inr e)) h4)
theorem x_y4 (hK:2097152≤K) (w:x_u) (h:WOk w):Tot (x_ap K w) fun _=>True:=by
 have hs:=h.2.2.1
 have hsz:=h.2.1
 have hd:=h.2.2.2.2.2.2.2.2
 unfold x_ap x_ap.b
 refine l2_ (L:=x_ap.l0 K w) (b:=fun L'=>x_ap.l0b K w (x_ap.l1 K w L' K)) (fun _ _ _=>rfl) (fun m x q=>(∃ i:Nat,x=i∧i+m=w.2.2.1.length)∧q.length≤300) (fun m x q L' hi kk=>?_) (m:=w.2.2.1.length) (by omega) ⟨⟨0,rfl,by omega⟩,hd.1⟩
 obtain ⟨⟨i,rfl,hm⟩,hq⟩:=hi
 unfold x_ap.l0b
 refine ti (fun a=>t2_ (by omega) (?_)) fun a=>tr trivial
 have hin:i<w.2.2.1.length:=by omega
 have hn:=(h.2.2.2.1 i hin).2
 have hlog:=hn.2.2.1.2.2.1
 have hb:=hlog.1
 have hll:=hlog.2.2.1
 refine l2_ (L:=x_ap.l1 K w L') (fun _ _ _=>rfl) (fun d x q=>x=(i:Int)∧q.length+d=300) (fun d x q L1 hj k1=>?_) (m:=300-q.length) (by omega) ⟨rfl,by omega⟩
 obtain ⟨rfl,hd⟩:=hj
 unfold x_ap.l1b
 rw [tz,wi (i:=i) (by omega),w6 (n:=(q.length:Int)-(w.2.2.1.getD i x_bx).2.1.2.2.1.1) (by omega) (by omega)]
 have go:=kk (m-1) ((i:Int)+1) q (by omega) ⟨⟨i+1,by push_cast;rfl,by omega⟩,by omega⟩
 refine ti (fun b=>ti (fun _=>go) fun _=>ti (fun _=>go) fun _=>?_) fun _=>go
 have hg:=x_sn h hin b
 exact t2_ (by omega) ((tc (by show _≤70368744177664;(try dsimp only);(try simp only [ll_]);omega) (k1 (d-1) _ _ (by omega) ⟨rfl,by rw [length_append,length_singleton];omega⟩)))
theorem x_uq (hK:2097152≤K) (w:x_u) (h:WOk w) (a:Int):Tot (x_fm K w (dCut a)) fun x=>x.2.1=x_c8 w a∧(x_c8 w a=0→x.1=(w.1,w.2.1,w.2.2.1.set a.toNat (cutN (atN w a)),w.2.2.2.1,w.2.2.2.2.1,w.2.2.2.2.2.1,w.2.2.2.2.2.2.1,w.2.2.2.2.2.2.2)):=by
 have hs:=h.2.2.1
 have hsz:=h.2.1
 unfold x_fm
 refine tb (x_bk _ _ _) fun v1 g1=>tf g1 (fun e=>absurd (show (10:Int)≤6 from e.2) (by decide)) fun _=>?_
 refine ti (fun e=>absurd (show (10:Int)=7 from e) (by decide)) fun _=>ti (fun e=>absurd (show (10:Int)=8 from e) (by decide)) fun _=>?_
 unfold x_fm.j1
 rw [w6 (n:=w.2.1-1) (by omega) (by omega)]
 have p3:decide ((10:Int)=11)=false:=rfl
 refine tb (x_bk _ _ _) fun v4 g4=>tg g4 (fun e=>tr ⟨(code2 h e).symm,fun k=>absurd ((code2 h e).symm.trans k) (by decide)⟩) fun ha=>tB (fun e=>absurd (p3.symm.trans e) (by decide)) fun _=>?_
 unfold x_fm.j0
 refine ti (fun e=>absurd (show (10:Int)=11 from e) (by decide)) fun _=>tB (fun e=>absurd (p3.symm.trans e) (by decide)) fun _=>?_
 unfold x_np
 have ha:0≤a∧a≤w.2.1-1:=ha
 refine tb (Q:=fun x=>x.2.1=x_c8 w a∧(x_c8 w a=0→x.1=(w.1,w.2.1,w.2.2.1.set a.toNat (cutN (atN w a)),w.2.2.2.1,w.2.2.2.2.1,w.2.2.2.2.2.1,w.2.2.2.2.2.2.1,w.2.2.2.2.2.2.2))) ?_ fun v g=>tr g
 refine tc (by show (0:Int)≤a;omega) (tc (by show a<(w.2.2.1.length:Int);omega) ?_)
 refine ti (fun e=>absurd (show (10:Int)=1 from e) (by decide)) fun _=>ti (fun e=>absurd (show (10:Int)=2 from e) (by decide)) fun _=>ti (fun e=>absurd (show (10:Int)=3 from e) (by decide)) fun _=>ti (fun e=>absurd (show (10:Int)=9 from e) (by decide)) fun _=>?_
 exact tb (t2_l15Cut hK w h a ha) fun v g=>tr g
theorem t2_Do_cut (hK:2097152≤K) (w:x_u) (hz:WSy w) (a:Int):Tot (s_Do K w (dCut a)) fun x=>x.2.1=x_c8 w a:=by
 unfold s_Do
 refine tb (x_x2 hK w hz) fun v1 g1=>tg g1 (fun e=>tr (code1 e).symm) fun h=>tb (x_bk _ _ _) fun v2 g2=>tg g2 (fun e=>absurd ⟨by show (1:Int)≤10;decide,by show (10:Int)≤11;decide⟩ e) fun _=>?_
 have cp:=x_ws hK w h.wsz
 refine tv cp (tb (Q:=fun x=>x.2.1=x_c8 w a) ?_ fun v4 g4=>tn (fun _=>tv cp (tr g4)) fun _=>tr g4)
 unfold x_i8
 refine tb (x_uq hK w h a) fun v g=>ti (fun e=>?_) fun _=>tr g.1
 have z:x_c8 w a=0:=g.1.symm.trans e
 rw [g.2 z]
 exact tb (x_y4 hK _ (cutW_ok z)) fun _ _=>tr g.1
def CutR (w:x_u) (a:Int) (x:x_u×Int×Unit):Prop:=x.2.1=x_c8 w a∧(x_c8 w a=0→WOk x.1∧x.1.1=w.1∧x.1.2.1=w.2.1∧x.1.2.2.1=w.2.2.1.set a.toNat (cutN (atN w a))∧x.1.2.2.2.2.2.2.1=w.2.2.2.2.2.2.1)∧(x_c8 w a≠0→x_c8 w a≠1→x.1=w)
theorem x_qv (w:x_u) (h:WOk w) (a:Int):Tot (x_h5 K w (dCut a)) fun r=>Is (!r.1) (0≤a∧a≤w.2.1-1):=by
 have hsz:=h.2.1
 unfold x_h5
 refine ti (fun e=>absurd (show (10:Int)=4 from e) (by decide)) fun _=>ti (fun e=>absurd (show (10:Int)=5 from e) (by decide)) fun _=>ti (fun e=>absurd (show (10:Int)=6 from e) (by decide)) fun _=>ti (fun e=>absurd (show (10:Int)=2 from e) (by decide)) fun _=>ti (fun e=>absurd (show (10:Int)=7 from e) (by decide)) fun _=>ti (fun e=>absurd (show (10:Int)=8 from e) (by decide)) fun _=>ti (fun e=>absurd (show (10:Int)=11 from e) (by decide)) fun _=>?_
 rw [w6 (n:=w.2.1-1) (by omega) (by omega)]
 exact tb (x_9 _ _ _) fun v g=>tr (by rw [Bool.not_not];exact g)
theorem x_wo (hK:2097152≤K) (w:x_u) (hz:WSy w) (a:Int):Tot (i_Do K w (dCut a)) fun x=>CutR w a x:=by
 unfold i_Do
 refine tb (x_0b hK w hz) fun v1 g1=>tg g1 (fun e=>tr ⟨(code1 e).symm,fun k=>absurd ((code1 e).symm.trans k) (by decide),fun _ k=>absurd (code1 e) k⟩) fun h=>tb (x_9 _ _ _) fun v2 g2=>tg g2 (fun e=>absurd ⟨by show (1:Int)≤10;decide,by show (10:Int)≤11;decide⟩ e) fun _=>?_
 have cp:=x_n6 hK w h.wsz
 have hs:=h.2.2.1
 refine tb (Q:=fun x=>CutR w a x) ?_ fun v3 g3=>tr g3
 unfold x_ym
 refine tb (x_qv w h a) fun v1 g1=>?_
 have g1':Is v1.1 (¬ (0≤a∧a≤w.2.1-1)):=Is.not g1
 refine tf g1' (fun e=>tv cp (tr ⟨(code2 h e).symm,fun k=>absurd ((code2 h e).symm.trans k) (by decide),fun _ _=>rfl⟩)) fun ha'=>tv cp ?_
 have ha:0≤a∧a≤w.2.1-1:=Classical.not_not.1 ha'
 refine ti (fun e=>absurd (show (10:Int)=4 from e) (by decide)) fun _=>ti (fun e=>absurd (show (10:Int)=5 from e) (by decide)) fun _=>ti (fun e=>absurd (show (10:Int)=6 from e) (by decide)) fun _=>ti (fun e=>absurd (show (10:Int)=7 from e) (by decide)) fun _=>ti (fun e=>absurd (show (10:Int)=8 from e) (by decide)) fun _=>ti (fun e=>absurd (show (10:Int)=11 from e) (by decide)) fun _=>?_
 refine tb (Q:=fun x=>x.1=x_c8 w a∧(x_c8 w a=0→x.2.1=(w.1,w.2.1,w.2.2.1.set a.toNat (cutN (atN w a)),w.2.2.2.1,w.2.2.2.2.1,w.2.2.2.2.2.1,w.2.2.2.2.2.2.1,w.2.2.2.2.2.2.2))) ?_ fun v4 g4=>tn (fun e=>tv cp (tr ⟨g4.1,fun k=>absurd (g4.1.trans k) e,fun _ _=>rfl⟩)) fun e=>?_
 ·unfold x_h4
  refine tc (by show (0:Int)≤a;omega) (tc (by show a<(w.2.2.1.length:Int);omega) ?_)
  refine ti (fun e=>absurd (show (10:Int)=1 from e) (by decide)) fun _=>ti (fun e=>absurd (show (10:Int)=2 from e) (by decide)) fun _=>ti (fun e=>absurd (show (10:Int)=3 from e) (by decide)) fun _=>ti (fun e=>absurd (show (10:Int)=9 from e) (by decide)) fun _=>?_
  exact tb (ti_cut hK w h a ha) fun v g=>tr g
 ·have z:x_c8 w a=0:=g4.1.symm.trans e
  rw [g4.2 z]
  refine tb (ti_gather hK _ (cutW_ok z)) fun v6 g6=>?_
  obtain ⟨d,e6,k6⟩:=g6
  refine tv (x_n6 hK _ k6.wsz) (tr ⟨z.symm,fun _=>⟨k6,?_⟩,fun k=>absurd z k⟩)
  rw [e6]
  exact ⟨rfl,rfl,rfl,rfl⟩
variable {K:Nat}
theorem x_gs (hK:2097152≤K) (a:List Int) (h:a.length<2097152):Tot (x_bf K a a) fun r=>r.1=true:=by
 unfold x_bf x_bf.b
 refine tn (fun h=>absurd rfl h) fun _=>?_
 refine tA (L:=x_bf.l0 K a a) (fun _ _=>rfl) a.length (fun _=>True) (fun i L' hi k _=>?_) (fun L' _=>?_) (by omega)
 ·unfold x_bf.l0b
  rw [tz,wi (i:=i) (by omega)]
  refine ti (fun h1=>t2_ (by omega) ((t2_ (by omega) (?_)))) fun h1=>absurd (show (i:Int)<((a.length:Nat):Int) by omega) h1
  exact tn (fun h=>absurd rfl h) fun _=>k trivial
 unfold x_bf.l0b
 exact ti (fun h1=>absurd h1 (by omega)) fun _=>tr rfl
theorem r_sameLog (hK:2097152≤K) (a:TLog) (h:a.2.2.length<2097152):Tot (x_c3 K a a) fun r=>r.1=true:=by
 unfold x_c3 x_c3.b
 refine tn (fun h=>absurd rfl h) fun _=>tn (fun h=>absurd rfl h) fun _=>tn (fun h=>absurd rfl h) fun _=>?_
 refine tA (L:=x_c3.l0 K a a) (fun _ _=>rfl) a.2.2.length (fun _=>True) (fun i L' hi k _=>?_) (fun L' _=>?_) (by omega)
 ·unfold x_c3.l0b
  rw [tz,wi (i:=i) (by omega)]
  refine ti (fun h1=>t2_ (by omega) ((t2_ (by omega) (?_)))) fun h1=>absurd (show (i:Int)<((a.2.2.length:Nat):Int) by omega) h1
  exact tN (fun h=>absurd ((x_e1 x_dp _ _ rfl).2 rfl) (by intro e;rw [show x_t7 _ _=true from e] at h;cases h)) fun _=>k trivial
 unfold x_c3.l0b
 exact ti (fun h1=>absurd h1 (by omega)) fun _=>tr rfl
theorem r_sameRow (hK:2097152≤K) (a:TRow) (h:a.2.2.length<2097152):Tot (x_cy K a a) fun r=>r.1=true:=by
 unfold x_cy x_cy.b
 refine tn (fun h=>absurd rfl h) fun _=>tn (fun h=>absurd rfl h) fun _=>tn (fun h=>absurd rfl h) fun _=>?_
 refine tA (L:=x_cy.l0 K a a) (fun _ _=>rfl) a.2.2.length (fun _=>True) (fun i L' hi k _=>?_) (fun L' _=>?_) (by omega)
 ·unfold x_cy.l0b
  rw [tz,wi (i:=i) (by omega)]
  refine ti (fun h1=>t2_ (by omega) ((t2_ (by omega) (?_)))) fun h1=>absurd (show (i:Int)<((a.2.2.length:Nat):Int) by omega) h1
  exact tN (fun h=>absurd ((x_e1 x_sl _ _ rfl).2 rfl) (by intro e;rw [show qItem _ _=true from e] at h;cases h)) fun _=>k trivial
 unfold x_cy.l0b
 exact ti (fun h1=>absurd h1 (by omega)) fun _=>tr rfl
theorem x_w0 (hK:2097152≤K) (a:x_at) (h:a.2.2.2.2.length<2097152):Tot (x_bm K a a) fun r=>r.1=true:=by
 unfold x_bm x_bm.b
 refine tn (fun h=>absurd rfl h) fun _=>tn (fun h=>absurd rfl h) fun _=>tn (fun h=>absurd rfl h) fun _=>tn (fun h=>absurd rfl h) fun _=>tn (fun h=>absurd rfl h) fun _=>?_
 refine tA (L:=x_bm.l0 K a a) (fun _ _=>rfl) a.2.2.2.2.length (fun _=>True) (fun i L' hi k _=>?_) (fun L' _=>?_) (by omega)
 ·unfold x_bm.l0b
  rw [tz,wi (i:=i) (by omega)]
  refine ti (fun h1=>t2_ (by omega) ((t2_ (by omega) (?_)))) fun h1=>absurd (show (i:Int)<((a.2.2.2.2.length:Nat):Int) by omega) h1
  exact tN (fun h=>absurd ((x_e1 x_rv _ _ rfl).2 rfl) (by intro e;rw [show qMark _ _=true from e] at h;cases h)) fun _=>k trivial
 unfold x_bm.l0b
 exact ti (fun h1=>absurd h1 (by omega)) fun _=>tr rfl
theorem x_xb (hK:2097152≤K) (a:x_ar) (h:GSz a):Tot (x_i4 K a a) fun r=>r.1=true:=by
 unfold x_i4
 have no:∀ {b:Bool} {P:Prop},b=true→b=false→P:=fun h k=>absurd (h.symm.trans k) (by decide)
 exact ti (fun _=>tb (x_gs hK _ h.1) fun v1 g1=>tB (fun _=>tb (x_gs hK _ h.2.1) fun v2 g2=>tB (fun _=>tb (x_gs hK _ h.2.2) fun v3 g3=>tr g3) fun e=>no g2 e) fun e=>no g1 e) fun e=>absurd rfl e
theorem x_0w (hK:2097152≤K) (a:x_ai) (h:KSz a):Tot (x_t K a a) fun r=>r.1=true:=by
 obtain ⟨z1,z2,z3,z4,z5,z6,z7,z8⟩:=h
 have z31:=z3.1
 unfold x_t x_t.b
 refine tn (fun h=>absurd rfl h) fun _=>tb (x_gs hK _ z6) fun v1 g1=>tN (fun h=>absurd (g1.symm.trans h) (by decide)) fun _=>tn (fun h=>absurd rfl h) fun _=>tn (fun h=>absurd rfl h) fun _=>tn (fun h=>absurd rfl h) fun _=>tn (fun h=>absurd rfl h) fun _=>?_
 refine tA (L:=x_t.l0 K a a) (b:=fun L'=>x_t.l0b K a a L' (x_t.l1 K a a K)) (fun _ _=>rfl) a.1.length (fun _=>True) (fun i L' hi k _=>?_) (fun L' _=>?_) (by omega)
 ·unfold x_t.l0b
  rw [tz,wi (i:=i) (by omega)]
  refine ti (fun h1=>t2_ (by omega) ((t2_ (by omega) (?_)))) fun h1=>absurd (show (i:Int)<((a.1.length:Nat):Int) by omega) h1
  exact tb (r_sameRow hK _ (z2 _ (x_ad hi)).1) fun v g=>tN (fun h=>absurd (g.symm.trans h) (by decide)) fun _=>k trivial
 unfold x_t.l0b
 refine ti (fun h1=>absurd h1 (by omega)) fun _=>?_
 refine tA (L:=x_t.l1 K a a) (b:=fun L'=>x_t.l1b K a a L' (x_t.l2 K a a K)) (fun _ _=>rfl) a.2.1.length (fun _=>True) (fun i L' hi k _=>?_) (fun L' _=>?_) (by omega)
 ·unfold x_t.l1b
  rw [tz,wi (i:=i) (by omega)]
  refine ti (fun h1=>t2_ (by omega) ((t2_ (by omega) (?_)))) fun h1=>absurd (show (i:Int)<((a.2.1.length:Nat):Int) by omega) h1
  exact tb (x_w0 hK _ (z3.2 _ (x_ad hi)).1) fun v g=>tN (fun h=>absurd (g.symm.trans h) (by decide)) fun _=>k trivial
 unfold x_t.l1b
 refine ti (fun h1=>absurd h1 (by omega)) fun _=>?_
 refine tA (L:=x_t.l2 K a a) (b:=fun L'=>x_t.l2b K a a L' (x_t.l3 K a a K)) (fun _ _=>rfl) a.2.2.1.length (fun _=>True) (fun i L' hi k _=>?_) (fun L' _=>?_) (by omega)
 ·unfold x_t.l2b
  rw [tz,wi (i:=i) (by omega)]
  refine ti (fun h1=>t2_ (by omega) ((t2_ (by omega) (?_)))) fun h1=>absurd (show (i:Int)<((a.2.2.1.length:Nat):Int) by omega) h1
  exact tb (x_xb hK _ (z5 _ (x_ad hi))) fun v g=>tN (fun h=>absurd (g.symm.trans h) (by decide)) fun _=>k trivial
 unfold x_t.l2b
 refine ti (fun h1=>absurd h1 (by omega)) fun _=>?_
 refine tA (L:=x_t.l3 K a a) (fun _ _=>rfl) a.2.2.2.2.2.length (fun _=>True) (fun i L' hi k _=>?_) (fun L' _=>?_) (by omega)
 ·unfold x_t.l3b
  rw [tz,wi (i:=i) (by omega)]
  refine ti (fun h1=>t2_ (by omega) ((t2_ (by omega) (?_)))) fun h1=>absurd (show (i:Int)<((a.2.2.2.2.2.length:Nat):Int) by omega) h1
  exact tN (fun h=>absurd ((x_e1 x_bz _ _ rfl).2 rfl) (by intro e;rw [show x_wi _ _=true from e] at h;cases h)) fun _=>k trivial
 unfold x_t.l3b
 exact ti (fun h1=>absurd h1 (by omega)) fun _=>tr rfl
theorem x_l6 (hK:2097152≤K) (p:x_d) (a:x_ai) (h:KSz a):Tot (x_gi K p a a) fun r=>r.1=true:=by
 unfold x_gi
 exact tb (x_0w hK a h) fun v g=>tr g
theorem x_yj (hK:2097152≤K) (p:x_d) (a:x_dh) (hl:a.2.2.1.2.2.length<2097152) (h:KSz a.2.2.2):Tot (x_ki K p a a) fun r=>r.1=true:=by
 unfold x_ki
 exact ti (fun _=>ti (fun _=>tb (r_sameLog hK _ hl) fun v1 g1=>tB (fun _=>tb (x_l6 hK _ _ h) fun v2 g2=>tr g2) fun e=>absurd (g1.symm.trans e) (by decide)) fun e=>absurd rfl e) fun e=>absurd rfl e
theorem x_sj (hK:2097152≤K) (a:List TRpc) (h:a.length<2097152) (hz:∀ r∈a,RpSz r):Tot (x_am K a a) fun r=>r.1=true:=by
 unfold x_am x_am.b
 refine tn (fun h=>absurd rfl h) fun _=>?_
 refine tA (L:=x_am.l0 K a a) (b:=fun L'=>x_am.l0b K a a (x_am.l1 K a a L' K)) (fun _ _=>rfl) a.length (fun _=>True) (fun i L' hi k _=>?_) (fun L' _=>?_) (by omega)
 ·unfold x_am.l0b
  rw [tz]
  refine ti (fun h1=>t2_ (by omega) ((t2_ (by omega) (?_)))) fun h1=>absurd (show (i:Int)<((a.length:Nat):Int) by omega) h1
  refine tn (fun h=>absurd rfl h) fun _=>tn (fun h=>absurd rfl h) fun _=>tn (fun h=>absurd rfl h) fun _=>tn (fun h=>absurd rfl h) fun _=>tn (fun h=>absurd rfl h) fun _=>tn (fun h=>absurd rfl h) fun _=>tn (fun h=>absurd rfl h) fun _=>tN (fun h=>absurd h (by rw [beq_self_eq_true];decide)) fun _=>tn (fun h=>absurd rfl h) fun _=>tn (fun h=>absurd rfl h) fun _=>?_
  have hl:=(hz _ (x_ad (z:=zRpc) hi)).1
  refine l2_ (L:=x_am.l1 K a a L') (fun _ _ _=>rfl) (fun m x y=>x=(i:Int)∧ ∃ j:Nat,y=j∧j+m=(a.getD i zRpc).2.2.2.2.2.2.2.1.length) (fun m x y L1 hj k1=>?_) (m:=(a.getD i zRpc).2.2.2.2.2.2.2.1.length) (by omega) ⟨rfl,0,rfl,by omega⟩
  obtain ⟨rfl,j,rfl,hm⟩:=hj
  unfold x_am.l1b
  rw [tz,tz,wi (i:=i) (by omega),wi (i:=j) (by omega)]
  refine ti (fun h1=>tc (by omega) (tc h1 (tc (by omega) (tc h1 ?_)))) fun _=>k trivial
  exact tN (fun h=>absurd ((x_e1 x_dp _ _ rfl).2 rfl) (by intro e;rw [show x_t7 _ _=true from e] at h;cases h)) fun _=>k1 (m-1) _ _ (by omega) ⟨rfl,j+1,by push_cast;rfl,by omega⟩
 unfold x_am.l0b
 exact ti (fun h1=>absurd h1 (by omega)) fun _=>tr rfl
theorem x_z4 (hK:2097152≤K) (a:x_bq) (h:NSz a):Tot (x_b3 K a a) fun r=>r.1=true:=by
 obtain ⟨⟨⟨a1,_,a2⟩,b,c,d⟩,e,f,gg,i⟩:=h
 unfold x_b3 x_b3.b
 refine tn (fun h=>absurd rfl h) fun _=>tn (fun h=>absurd rfl h) fun _=>tn (fun h=>absurd rfl h) fun _=>tb (x_yj hK _ _ a1.1 a2) fun v g=>tN (fun h=>absurd (g.symm.trans h) (by decide)) fun _=>tb (x_l6 hK _ _ b) fun v g=>tN (fun h=>absurd (g.symm.trans h) (by decide)) fun _=>tn (fun h=>absurd rfl h) fun _=>tn (fun h=>absurd rfl h) fun _=>tb (x_gs hK _ f) fun v g=>tN (fun h=>absurd (g.symm.trans h) (by decide)) fun _=>tb (x_gs hK _ gg) fun v g=>tN (fun h=>absurd (g.symm.trans h) (by decide)) fun _=>tn (fun h=>absurd rfl h) fun _=>?_
 refine tA (L:=x_b3.l0 K a a) (fun _ _=>rfl) a.2.2.2.1.length (fun _=>True) (fun i L' hi k _=>?_) (fun L' _=>?_) (by omega)
 ·unfold x_b3.l0b
  rw [tz,wi (i:=i) (by omega)]
  refine ti (fun h1=>t2_ (by omega) ((t2_ (by omega) (?_)))) fun h1=>absurd (show (i:Int)<((a.2.2.2.1.length:Nat):Int) by omega) h1
  exact tN (fun h=>absurd h (by rw [beq_self_eq_true];decide)) fun _=>k trivial
 unfold x_b3.l0b
 exact ti (fun h1=>absurd h1 (by omega)) fun _=>tb (x_sj hK _ c d) fun v g=>tr g
theorem x_w9 (hK:2097152≤K) (a:x_u) (h:WSz a):Tot (x_i K a a) fun r=>r.1=true:=by
 obtain ⟨z1,z2,z3,z4,z5,z6,z7,z8⟩:=h
 unfold x_i x_i.b
 refine tn (fun h=>absurd rfl h) fun _=>tn (fun h=>absurd rfl h) fun _=>tb (x_gs hK _ z6) fun v g=>tN (fun h=>absurd (g.symm.trans h) (by decide)) fun _=>tn (fun h=>absurd rfl h) fun _=>tn (fun h=>absurd rfl h) fun _=>tn (fun h=>absurd rfl h) fun _=>tb (x_sj hK _ z3 z4) fun v g=>tN (fun h=>absurd (g.symm.trans h) (by decide)) fun _=>?_
 refine tA (L:=x_i.l0 K a a) (b:=fun L'=>x_i.l0b K a a L' (x_i.l1 K a a K)) (fun _ _=>rfl) a.2.2.1.length (fun _=>True) (fun i L' hi k _=>?_) (fun L' _=>?_) (by omega)
 ·unfold x_i.l0b
  rw [tz,wi (i:=i) (by omega)]
  refine ti (fun h1=>t2_ (by omega) ((t2_ (by omega) (?_)))) fun h1=>absurd (show (i:Int)<((a.2.2.1.length:Nat):Int) by omega) h1
  exact tb (x_z4 hK _ (z2 _ (x_ad hi))) fun v g=>tN (fun h=>absurd (g.symm.trans h) (by decide)) fun _=>k trivial
 unfold x_i.l0b
 refine ti (fun h1=>absurd h1 (by omega)) fun _=>?_
 refine tA (L:=x_i.l1 K a a) (b:=fun L'=>x_i.l1b K a a L' (x_i.l2 K a a K)) (fun _ _=>rfl) a.2.2.2.2.1.length (fun _=>True) (fun i L' hi k _=>?_) (fun L' _=>?_) (by omega)
 ·unfold x_i.l1b
  rw [tz,wi (i:=i) (by omega)]
  refine ti (fun h1=>t2_ (by omega) ((t2_ (by omega) (?_)))) fun h1=>absurd (show (i:Int)<((a.2.2.2.2.1.length:Nat):Int) by omega) h1
  exact tN (fun h=>absurd ((x_e1 eCmd _ _ rfl).2 rfl) (by intro e;rw [show qCmd _ _=true from e] at h;cases h)) fun _=>k trivial
 unfold x_i.l1b
 refine ti (fun h1=>absurd h1 (by omega)) fun _=>?_
 refine tA (L:=x_i.l2 K a a) (b:=fun L'=>x_i.l2b K a a L' (x_i.l3 K a a K)) (fun _ _=>rfl) a.2.2.2.2.2.2.1.length (fun _=>True) (fun i L' hi k _=>?_) (fun L' _=>?_) (by omega)
 ·unfold x_i.l2b
  rw [tz,wi (i:=i) (by omega)]
  refine ti (fun h1=>t2_ (by omega) ((t2_ (by omega) (?_)))) fun h1=>absurd (show (i:Int)<((a.2.2.2.2.2.2.1.length:Nat):Int) by omega) h1
  exact tN (fun h=>absurd ((x_e1 x_mg _ _ rfl).2 rfl) (by intro e;rw [show qHeard _ _=true from e] at h;cases h)) fun _=>k trivial
 unfold x_i.l2b
 refine ti (fun h1=>absurd h1 (by omega)) fun _=>?_
 refine tA (L:=x_i.l3 K a a) (fun _ _=>rfl) a.2.2.2.2.2.2.2.length (fun _=>True) (fun i L' hi k _=>?_) (fun L' _=>?_) (by omega)
 ·unfold x_i.l3b
  rw [tz,wi (i:=i) (by omega)]
  refine ti (fun h1=>t2_ (by omega) ((t2_ (by omega) (?_)))) fun h1=>absurd (show (i:Int)<((a.2.2.2.2.2.2.2.length:Nat):Int) by omega) h1
  exact tN (fun h=>absurd ((x_e1 eCmd _ _ rfl).2 rfl) (by intro e;rw [show qCmd _ _=true from e] at h;cases h)) fun _=>k trivial
 unfold x_i.l3b
 exact ti (fun h1=>absurd h1 (by omega)) fun _=>tr rfl
variable {K:Nat}
theorem noteB_ok {r:x_df} (a:NtOk r):BOk (x_h3 r):=by
 have hb:=x_ho a
 exact ((x_cd _).1.app hb.1).app (sum4_ok _ hb.1)
theorem flat_BOk {α : Type} {f : α→List Int} {l:List α} (h:∀ x∈l,BOk (f x)):BOk (l.flatMap f):=fun y hy=>by
 obtain ⟨x,hx,hy⟩:=List.mem_flatMap.1 hy
 exact h x hx y hy
theorem x_x6 {p:x_d} {h:x_dh} (k:HOk p h):BOk (x_mo h):=flat_BOk fun r hr=>noteB_ok (hNts_ok k r hr)
theorem zCmd_sz:CSz zCmd:=⟨by show ByteArray.empty.size<_;decide,by show ByteArray.empty.size<_;decide⟩
theorem WOk.sy {w:x_u} (h:WOk w) (hb:∀ n∈w.2.2.1,BOk n.2.2.2.2.2.2.2.2.1.1):WSy w:=by
 have z:=h.wsz
 obtain ⟨h1,h2,h3,h4,⟨h5,h51⟩,⟨h6,h61⟩,⟨h7,h71⟩,⟨h8,h81⟩,⟨h9,h91⟩⟩:=h
 refine ⟨h1,by omega,by omega,fun n hn=>?_,by omega,z.2.2.2.1,⟨by omega,fun c hc=>?_⟩,by omega,⟨by omega,fun c hc=>?_⟩,by omega,fun c hc=>?_⟩
 ·obtain ⟨⟨a,b⟩,c,d,e,f⟩:=z.2.1 n hn
  have hb:=hb n hn
  obtain ⟨i,hi,rfl⟩:=List.mem_iff_getElem.1 hn
  have hi:i<w.2.2.1.length:=hi
  have k:=(h4 i hi).2
  rw [x_az hi] at k
  have a4:=k.2.2.2.2.2.2.2.2.2.2.2.2.1.1
  exact ⟨a.sy,b.1,c,d,e,⟨by omega,hb⟩,b.2⟩
 ·obtain ⟨i,hi,rfl⟩:=List.mem_iff_getElem.1 hc
  have hi:i<w.2.2.2.2.1.length:=hi
  have k:=h61 i (by omega)
  rw [x_az hi] at k
  rcases k with k | k
  ·rw [k];exact zCmd_sz
  ·exact k.1.sz
 ·obtain ⟨i,hi,rfl⟩:=List.mem_iff_getElem.1 hc
  have hi:i<w.2.2.2.2.2.2.1.length:=hi
  have k:=h81 i hi
  rw [x_az hi] at k
  have t1:=k.2.2.2.2.2.2.1.1
  have t2:=k.2.2.2.2.2.2.2.1
  exact ⟨by omega,by omega⟩
 ·obtain ⟨i,hi,rfl⟩:=List.mem_iff_getElem.1 hc
  have hi:i<w.2.2.2.2.2.2.2.length:=hi
  have k:=h91 i hi
  rw [x_az hi] at k
  exact k.sz
theorem idle0 {n:x_bq} {x:x_dh} {b:List Int} (h:x.2.2.1.1=n.2.2.2.2.2.2.1):Idle (n.1,x,n.2.2.1,n.2.2.2.1,n.2.2.2.2.1,n.2.2.2.2.2.1,n.2.2.2.2.2.2.1,n.2.2.2.2.2.2.2.1,(b,(b.length:Int)),n.2.2.2.2.2.2.2.2.2):=Or.inr h.symm
theorem cutN_idle {n:x_bq} (h:(cutH n).2.2.1.1=n.2.2.2.2.2.2.1):Idle (cutN n):=idle0 h
theorem base0 {n:x_bq} {x:x_dh} {b:List Int} (h:x.2.2.1.1=n.2.2.2.2.2.2.1):((n.1,x,n.2.2.1,n.2.2.2.1,n.2.2.2.2.1,n.2.2.2.2.2.1,n.2.2.2.2.2.2.1,n.2.2.2.2.2.2.2.1,(b,(b.length:Int)),n.2.2.2.2.2.2.2.2.2):x_bq).2.1.2.2.1.1=n.2.2.2.2.2.2.1:=h
theorem cutN_base {n:x_bq} (h:(cutH n).2.2.1.1=n.2.2.2.2.2.2.1):(cutN n).2.1.2.2.1.1=n.2.2.2.2.2.2.1:=base0 h
theorem kept0 {p:x_d} {n:x_bq} {x:x_dh} {b:List Int} (h:hof p (x_x0 b).1=x):hof p (x_x0 ((n.1,x,n.2.2.1,n.2.2.2.1,n.2.2.2.2.1,n.2.2.2.2.2.1,n.2.2.2.2.2.2.1,n.2.2.2.2.2.2.2.1,(b,(b.length:Int)),n.2.2.2.2.2.2.2.2.2):x_bq).2.2.2.2.2.2.2.2.1.1).1=((n.1,x,n.2.2.1,n.2.2.2.1,n.2.2.2.2.1,n.2.2.2.2.2.1,n.2.2.2.2.2.2.1,n.2.2.2.2.2.2.2.1,(b,(b.length:Int)),n.2.2.2.2.2.2.2.2.2):x_bq).2.1:=h
theorem cutN_kept {p:x_d} {n:x_bq} (h:hof p (x_x0 (x_mo (cutH n))).1=cutH n):hof p (x_x0 (cutN n).2.2.2.2.2.2.2.2.1.1).1=(cutN n).2.1:=kept0 h
theorem bst0 {n:x_bq} {x:x_dh} {b:List Int} (h:BSt b):BSt ((n.1,x,n.2.2.1,n.2.2.2.1,n.2.2.2.2.1,n.2.2.2.2.2.1,n.2.2.2.2.2.2.1,n.2.2.2.2.2.2.2.1,(b,(b.length:Int)),n.2.2.2.2.2.2.2.2.2):x_bq).2.2.2.2.2.2.2.2.1.1:=h
theorem cutN_bst {n:x_bq} (h:BSt (x_mo (cutH n))):BSt (cutN n).2.2.2.2.2.2.2.2.1.1:=bst0 h
theorem commit0 {n:x_bq} {x:x_dh} {b:List Int}:((n.1,x,n.2.2.1,n.2.2.2.1,n.2.2.2.2.1,n.2.2.2.2.2.1,n.2.2.2.2.2.2.1,n.2.2.2.2.2.2.2.1,(b,(b.length:Int)),n.2.2.2.2.2.2.2.2.2):x_bq).2.2.2.2.2.2.1=n.2.2.2.2.2.2.1:=rfl
theorem x_xn {n:x_bq}:(cutN n).2.2.2.2.2.2.1=n.2.2.2.2.2.2.1:=commit0
theorem now0 {n:x_bq} {x:x_dh} {b:List Int}:((n.1,x,n.2.2.1,n.2.2.2.1,n.2.2.2.2.1,n.2.2.2.2.2.1,n.2.2.2.2.2.2.1,n.2.2.2.2.2.2.2.1,(b,(b.length:Int)),n.2.2.2.2.2.2.2.2.2):x_bq).2.2.2.2.2.2.2.1=n.2.2.2.2.2.2.2.1:=rfl
theorem cutN_now {n:x_bq}:(cutN n).2.2.2.2.2.2.2.1=n.2.2.2.2.2.2.2.1:=now0
theorem term0 {n:x_bq} {t v:Int} {l:TLog} {k:x_ai} {b:List Int}:((n.1,(t,v,l,k),n.2.2.1,n.2.2.2.1,n.2.2.2.2.1,n.2.2.2.2.2.1,n.2.2.2.2.2.2.1,n.2.2.2.2.2.2.2.1,(b,(b.length:Int)),n.2.2.2.2.2.2.2.2.2):x_bq).2.1.1=t:=rfl
theorem cutN_term {n:x_bq}:(cutN n).2.1.1=n.2.1.1:=term0
theorem lawCu {K:Nat} (hK:2097152≤K) (a:List Int) {P:Prop} (_h:P):∃ u,x_hy K a=some (true,u):=by
 have key:Tot (x_hy K a) fun r=>r.1=true:=by
  unfold x_hy l_big
  refine tb (Q:=fun r=>r.1=decide (((a.length:Nat):Int)>1048576)) (tr rfl) fun v1 g1=>tB (fun _=>tr rfl) fun e=>?_
  rw [g1] at e
  have hl:a.length≤2000000:=by
   have:=of_decide_eq_false e
   omega
  have at5:Tot (l_at a 5) fun _=>True:=by
   unfold l_at
   exact ti (fun h=>tc (by omega) (tc h (tr trivial))) fun _=>tr trivial
  refine tb (u_DrawDo hK a hl) fun v2 hz=>tb at5 fun v3 _=>?_
  generalize Int.tmod v3.1 3=d
  generalize v2.1=w at hz ⊢
  refine tb (x_wo hK w hz d) fun v4 g4=>tb (t2_Do_cut hK w hz d) fun v5 g5=>tn (fun e=>absurd (g4.1.trans g5.symm) e) fun _=>tn (fun e=>?_) fun e=>?_
  ·refine ti (fun _=>tr rfl) fun e1=>?_
   have e0:x_c8 w d≠0:=fun k=>e (g4.1.trans k)
   have e1:x_c8 w d≠1:=fun k=>e1 (g4.1.trans k)
   rw [g4.2.2 e0 e1]
   have hw:WOk w:=Classical.byContradiction fun k=>e1 (code1 k)
   exact tb (x_w9 hK w hw.wsz) fun v g=>tr g
  ·have z:x_c8 w d=0:=g4.1.symm.trans e
   obtain ⟨hw,hd,hi,hm⟩:=x_yt z
   obtain ⟨kv,es,ez,en,eh⟩:=g4.2.1 z
   have hs:=hw.2.2.1
   have hn:POk w.1 (atN w d) w.2.1:=(hw.nd hd).2
   have hc:¬ (atN w d).2.2.2.2.2.2.1=(atN w d).2.1.2.2.1.1:=fun k=>hi (.inr k)
   have hb:=x_mr hn hc
   have ho:=x_wv hn
   have hl:(Int.toNat d)<w.2.2.1.length:=by omega
   have av:(v4.1.2.2.1.getD d.toNat x_bx)=cutN (atN w d):=by rw [en,x_ye hl,if_pos rfl]
   have av2:atN v4.1 d=cutN (atN w d):=av
   have hv:WSy v4.1:=kv.sy fun n hn=>by
    rw [en] at hn
    rcases x_ma hn with hn | rfl
    ·exact (hz.2.2.2.1 n hn).2.2.2.2.2.1.2
    ·exact x_x6 ho
   have cd:x_c8 v4.1 d=3:=code3 kv (by rw [ez];exact hd) (by rw [av2];exact cutN_idle hb.1)
   have hk:hof w.1 (x_x0 (cutN (atN w d)).2.2.2.2.2.2.2.2.1.1).1=(cutN (atN w d)).2.1:=cutN_kept (hof_back hw.1 ho (by rw [hb.1];exact hb.2))
   refine tc (by omega) (tc (by rw [en,length_set];omega) (t2_ (by omega) ((tb (x_wo hK v4.1 hv d) fun v7 g7=>ti (fun _=>?_) fun k=>absurd (g7.1.trans cd) k))))
   have aw:w.2.2.1.getD d.toNat x_bx=atN w d:=rfl
   rw [av,aw,x_xn,cutN_now,cutN_base hb.1,cutN_term]
   refine ti (fun _=>tb (x_l6 hK _ _ hn.2.2.2.2.2.2.2.2.2.2.2.1.sz) fun v8 g8=>tB (fun _=>ti (fun _=>?_) fun k=>absurd rfl k) fun k=>absurd (g8.symm.trans k) (by decide)) fun k=>absurd rfl k
   refine tb (ti_Kept hK w.1 hw.1 (cutN (atN w d)) (cutN_bst ⟨x_x6 ho,by omega⟩)) fun v9 g9=>tf g9 (fun _=>tr (decide_eq_true rfl)) fun k=>absurd hk k
 obtain ⟨⟨b,u⟩,h,e⟩:=key
 have e:b=true:=e
 exact ⟨u,by rw [h,e]⟩
end Go.Proofs.YtjfnlbdnfglmfaaGreat.Cu
