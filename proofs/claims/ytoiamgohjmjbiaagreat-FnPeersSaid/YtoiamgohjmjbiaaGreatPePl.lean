/- Plain facts of what the functions compute. -/
import Derived.Test.YtoiamgohjmjbiaaGreatPePl1
set_option linter.all false
set_option maxRecDepth 100000
namespace Go.Proofs.YtoiamgohjmjbiaaGreat.Pe
open Go Go.Kn
open List (length_append length_cons length_nil length_take length_drop length_singleton length_set length_replicate length_map mem_append mem_singleton mem_cons)
variable {K N:Nat}
theorem Tot.all1 {B β : Type} {L:Nat→Int→B→Option β} {b:(Int→B→Option β)→Int→B→Option β} (hL:∀ n x y,L (n+1) x y=b (L n) x y) (c:B) (N:Nat) (P:Nat→Prop) {R : β→Prop}
  (step:∀ (i:Nat) (L':Int→B→Option β),i<N→(P i→Tot (L' ((i:Int)+1) c) R)→(∀ j,j<i→P j)→Tot (b L' (i:Int) c) R)
  (fin:∀ L',(∀ i,i<N→P i)→Tot (b L' (N:Int) c) R) {n:Nat} (hn:N<n):Tot (L n 0 c) R:=by
 refine l2_ (L:=L) (b:=b) hL (fun m q y=>y=c∧ ∃ i:Nat,q=i∧i+m=N∧ ∀ j,j<i→P j) (fun m x y L' hi k=>?_) hn ⟨rfl,0,rfl,by omega,fun j h=>by omega⟩
 obtain ⟨rfl,i,rfl,hm,ha⟩:=hi
 rcases Nat.lt_or_ge i N with h | h
 ·refine step i L' h (fun hp=>k (m-1) _ _ (by omega) ⟨rfl,i+1,by push_cast;rfl,by omega,fun j hj=>?_⟩) ha
  rcases Nat.lt_or_ge j i with h | h
  ·exact ha j h
  ·obtain rfl:j=i:=by omega
   exact hp
 ·obtain rfl:i=N:=by omega
  exact fin L' ha
theorem Tot.all2 {B C β : Type} {L:Nat→Int→B→C→Option β} {b:(Int→B→C→Option β)→Int→B→C→Option β} (hL:∀ n x y z,L (n+1) x y z=b (L n) x y z) (c:B) (d:C) (N:Nat) (P:Nat→Prop) {R : β→Prop}
  (step:∀ (i:Nat) (L':Int→B→C→Option β),i<N→(P i→Tot (L' ((i:Int)+1) c d) R)→(∀ j,j<i→P j)→Tot (b L' (i:Int) c d) R)
  (fin:∀ L',(∀ i,i<N→P i)→Tot (b L' (N:Int) c d) R) {n:Nat} (hn:N<n):Tot (L n 0 c d) R:=
 Tot.all1 (L:=fun n x (y:B×C)=>L n x y.1 y.2) (b:=fun L' x y=>b (fun x y z=>L' x (y,z)) x y.1 y.2) (fun n x y=>hL n x y.1 y.2) (c,d) N P
  (fun i L' hi k ha=>step i (fun x y z=>L' x (y,z)) hi k ha) (fun L' ha=>fin (fun x y z=>L' x (y,z)) ha) hn
def Srch (r:Int) (p:Prop):Prop:=(0≤r→ ¬ p)∧(r<0→p)
theorem Srch.is {r:Int} {p:Prop} (h:Srch r p):Is (!decide (r≥0)) p:=by
 by_cases hr:0≤r
 ·simp [Is,hr,h.1 hr]
 ·simp [Is,hr,h.2 (by omega)]
theorem Is.not {b:Bool} {p:Prop} (h:Is (!b) p):Is b (¬ p):=by
 cases b
 ·exact ⟨fun h=>absurd h (by decide),fun k=>absurd (h.1 rfl) k⟩
 ·exact ⟨fun _ hp=>absurd (h.2 hp) (by decide),fun _=>rfl⟩
theorem Is.neg {b:Bool} {p:Prop} (h:Is b p):Is (!b) (¬ p):=by
 cases b
 ·exact ⟨fun _ hp=>absurd (h.2 hp) (by decide),fun _=>rfl⟩
 ·exact ⟨fun h=>absurd h (by decide),fun k=>absurd (h.1 rfl) k⟩
theorem x_2 (x a b:Int):Tot (x_6 x a b) fun r=>Is r.1 (a≤x∧x≤b):=by
 unfold x_6
 refine ti (fun h=>tr ⟨fun h1=>⟨h,by simpa using h1⟩,fun h1=>by simpa using h1.2⟩) fun h=>tr (x_a fun h1=>h h1.1)
theorem x_gt (s:x_e):Tot (x_g4 s) fun r=>Is r.1 (SOk s):=by
 unfold x_g4
 refine tb (x_2 _ _ _) fun v1 h1=>tf h1 (fun a1=>?_) fun a=>tr (x_a fun h=>a h.1)
 refine tb (x_2 _ _ _) fun v2 h2=>tf h2 (fun a2=>?_) fun a=>tr (x_a fun h=>a h.2.1)
 refine tb (x_2 _ _ _) fun v3 h3=>tf h3 (fun a3=>?_) fun a=>tr (x_a fun h=>a h.2.2.1)
 exact tb (x_2 _ _ _) fun v4 h4=>tr ⟨fun h=>⟨a1,a2,a3,h4.1 h⟩,fun h=>h4.2 h.2.2.2⟩
theorem x_gl {K:Nat} (hK:2097152≤K) (b:ByteArray) (h:b.size<2097152):Tot (x_a3 K b) fun r=>Is r.1 (TxOk b):=by
 unfold x_a3 x_a3.b
 refine l1_ (L:=x_a3.l0 K b) (fun _ _=>rfl) (fun m q=> ∃ i:Nat,q=i∧i+m=b.size∧ ∀ j:Nat,j<i→okB (x_ei b j)) (fun m x L' hi k=>?_) (m:=b.size) (by omega) ⟨0,rfl,by omega,fun j hj=>by omega⟩
 obtain ⟨i,rfl,hm,ha⟩:=hi
 unfold x_a3.l0b
 have go:i<b.size→okB (x_ei b i)→Tot (L' (i6 ((i:Int)+1))) fun r=>Is r.1 (TxOk b):=fun h1 h2=>by
  rw [w6 (by omega) (by omega)]
  refine k (m-1) _ (by omega) ⟨i+1,by push_cast;rfl,by omega,fun j hj=>?_⟩
  rcases Nat.lt_or_ge j i with h | h
  ·exact ha j h
  ·obtain rfl:j=i:=by omega
   exact h2
 have no:i<b.size→ ¬ okB (x_ei b i)→Tot (some (false,())) fun r=>Is r.1 (TxOk b):=fun h1 h2=>tr (x_a fun h3=>h2 (h3.2 i h1))
 have hlt:((i:Nat):Int)<((b.size:Nat):Int)→i<b.size:=fun h=>by omega
 unfold okB at go no
 refine ti (fun h0=>tc (by omega) (tc h0 ?_)) fun h0=>tr ⟨fun h1=>⟨?_,fun j hj=>ha j (by omega)⟩,fun h1=>?_⟩
 ·repeat' (first | refine ti (fun _=>?_) (fun _=>?_) | refine tn (fun _=>?_) (fun _=>?_) | (refine tE ?_;omega))
  all_goals first | (refine go (by omega) ?_;omega) | (refine no (by omega) ?_;omega)
 ·have:=of_decide_eq_true h1;omega
 ·have:=h1.1;exact decide_eq_true (by omega)
theorem x_me {K:Nat} (hK:2097152≤K) (c:TCmd) (h:CSz c):Tot (x_ks K c) fun r=>Is r.1 (COk c):=by
 unfold x_ks
 refine ti (fun h1=>tr ?_) fun h1=>?_
 ·have:=x_gc eCmd c nobody (by decide)
  exact ⟨fun h=> .inl ⟨h1,this.1 h⟩,fun h=>this.2 (by rcases h with h | h;exact h.2;exact absurd h1 h.1)⟩
 have no:∀ {p:Prop},((c.1≠ -1∧(0≤c.1∧c.1≤3)∧(1≤c.2.1∧c.2.1≤100000)∧(1≤c.2.2.1∧c.2.2.1≤10)∧(0≤c.2.2.2.1∧c.2.2.2.1≤100000)∧(0≤c.2.2.2.2.1∧c.2.2.2.2.1≤100000)∧(0≤c.2.2.2.2.2.1∧c.2.2.2.2.2.1≤100000)∧TxOk c.2.2.2.2.2.2.1∧TxOk c.2.2.2.2.2.2.2)→p)→ ¬ p→ ¬ COk c:=fun k np h=>by
  rcases h with h | h
  ·exact h1 h.1
  ·exact np (k h)
 refine tb (x_2 _ _ _) fun v1 g1=>tf g1 (fun a1=>?_) fun a=>tr (x_a (no (fun h=>h.2.1) a))
 refine tb (x_2 _ _ _) fun v2 g2=>tf g2 (fun a2=>?_) fun a=>tr (x_a (no (fun h=>h.2.2.1) a))
 refine tb (x_2 _ _ _) fun v3 g3=>tf g3 (fun a3=>?_) fun a=>tr (x_a (no (fun h=>h.2.2.2.1) a))
 refine tb (x_2 _ _ _) fun v4 g4=>tf g4 (fun a4=>?_) fun a=>tr (x_a (no (fun h=>h.2.2.2.2.1) a))
 refine tb (x_2 _ _ _) fun v5 g5=>tf g5 (fun a5=>?_) fun a=>tr (x_a (no (fun h=>h.2.2.2.2.2.1) a))
 refine tb (x_2 _ _ _) fun v6 g6=>tf g6 (fun a6=>?_) fun a=>tr (x_a (no (fun h=>h.2.2.2.2.2.2.1) a))
 refine tb (x_gl hK _ h.1) fun v7 g7=>tf g7 (fun a7=>?_) fun a=>tr (x_a (no (fun h=>h.2.2.2.2.2.2.2.1) a))
 refine tb (x_gl hK _ h.2) fun v8 g8=>tr ⟨fun h=> .inr ⟨h1,a1,a2,a3,a4,a5,a6,a7,g8.1 h⟩,fun h=>?_⟩
 rcases h with h | h
 ·exact absurd h.1 h1
 ·exact g8.2 h.2.2.2.2.2.2.2.2
theorem ti_LastOf (l:TLog) (h:l.2.2.length<2097152) (hb : -9223372036854775808≤l.1∧l.1≤1000000):Tot (x_pm l) fun r=>r=(x_ey l,x_rs l,()):=by
 unfold x_pm x_ey x_rs x_tm
 refine ti (fun h1=>?_) fun h1=>tr ?_
 ·rw [w6 (n:=((l.2.2.length:Nat):Int)-1) (by omega) (by omega),w6 (n:=l.1+((l.2.2.length:Nat):Int)) (by omega) (by omega)]
  refine tc (by omega) (tc (by omega) (tr ?_))
  rw [if_neg (by omega),show Int.toNat (((l.2.2.length:Nat):Int)-1)=l.2.2.length-1 by omega]
 ·have h0:l.2.2.length=0:=by omega
  rw [if_pos h0,h0];simp
theorem ti_last (l:TLog) (h:l.2.2.length<2097152) (hb : -9223372036854775808≤l.1∧l.1≤1000000):Tot (i_last l) fun r=>r.1=x_ey l:=by
 unfold i_last x_ey
 rw [w6 (n:=l.1+((l.2.2.length:Nat):Int)) (by omega) (by omega)]
 exact tr rfl
theorem x_sc {K:Nat} (hK:2097152≤K) (l:TLog) (h:LSz l):Tot (x_d1 K l) fun r=>Is r.1 (LOk l):=by
 obtain ⟨hl,hs⟩:=h
 unfold x_d1 x_d1.b
 refine tb (x_2 _ _ _) fun v1 g1=>tg g1 (fun a=>tr (x_a fun h=>a h.1)) fun a1=>?_
 refine tb (x_2 _ _ _) fun v2 g2=>tg g2 (fun a=>tr (x_a fun h=>a h.2.1)) fun a2=>?_
 rw [w6 (by omega) (by omega)]
 refine ti (fun h3=>tr (x_a fun h=>by have:=h.2.2.1;omega)) fun h3=>?_
 refine l2_ (L:=x_d1.l0 K l) (fun _ _ _=>rfl) (fun m t x=> ∃ i:Nat,x=i∧i+m=l.2.2.length∧t=x_tm l i∧ ∀ j,j<i→EOk l j) (fun m t x L' hi k=>?_) (m:=l.2.2.length) (by omega) ⟨0,rfl,by omega,rfl,fun j h=>by omega⟩
 obtain ⟨i,rfl,hm,rfl,ha⟩:=hi
 unfold x_d1.l0b
 rw [Int.toNat_natCast]
 refine ti (fun h4=>?_) fun h4=>tr (x_d7 ⟨a1,a2,by omega,fun j hj=>ha j (by omega)⟩)
 have hi:i<l.2.2.length:=by omega
 refine tc (by omega) (tc h4 ?_)
 refine tb (x_2 _ _ _) fun v3 g3=>tg g3 (fun a=>tr (x_a fun h=>a (h.2.2.2 i hi).1)) fun a3=>?_
 refine tb (x_me hK _ (hs _ (x_ae hi))) fun v4 g4=>tg g4 (fun a=>tr (x_a fun h=>a (h.2.2.2 i hi).2)) fun a4=>?_
 rw [w6 (by omega) (by omega)]
 refine k (m-1) _ _ (by omega) ⟨i+1,by push_cast;rfl,by omega,by unfold x_tm;rw [if_neg (by omega),Nat.add_sub_cancel],fun j hj=>?_⟩
 rcases Nat.lt_or_ge j i with h | h
 ·exact ha j h
 ·obtain rfl:j=i:=by omega
  exact ⟨a3,a4⟩
theorem x_fz {K:Nat} (hK:2097152≤K) (l:List Int) (h:l.length<2097152) (a b:Int):Tot (x_el K l a b) fun r=>Is r.1 (∀ i,i<l.length→a≤l.getD i 0∧l.getD i 0≤b):=by
 unfold x_el x_cp x_i x_i.b
 have:Tot (x_i.l0 K l a b K 0 a b) fun r=>Srch r.1 (∀ i,i<l.length→a≤l.getD i 0∧l.getD i 0≤b):=by
  refine Tot.all2 (L:=x_i.l0 K l a b) (fun _ _ _ _=>rfl) a b l.length (fun i=>a≤l.getD i 0∧l.getD i 0≤b) (fun i L' hi k ha=>?_) (fun L' ha=>?_) (by omega)
  ·unfold x_i.l0b x_hv
   rw [Int.toNat_natCast,w6 (n:=(i:Int)+1) (by omega) (by omega)]
   refine ti (fun h1=>tc (by omega) (tc h1 ?_)) fun h1=>absurd (show (i:Int)<((l.length:Nat):Int) by omega) h1
   refine tb (Q:=fun v=>Is (!v.1) (a≤l.getD i 0∧l.getD i 0≤b)∧v.2=(a,b,())) (tb (x_2 _ _ _) fun v1 g1=>tr ⟨by simpa using g1,rfl⟩) fun v g=>?_
   obtain ⟨x,y⟩:=v
   obtain ⟨g1,rfl⟩:=g
   refine tf (Is.not g1) (fun a1=>tr ⟨fun _ h2=>a1 (h2 i hi),fun h2=>by omega⟩) fun a1=>k (Classical.not_not.1 a1)
  ·unfold x_i.l0b
   exact ti (fun h1=>absurd h1 (by omega)) fun h1=>tr ⟨fun h2=>absurd (show (0:Int)≤ -1 from h2) (by decide),fun _=>ha⟩
 refine tb (Q:=fun v=>Is (!v.1) (∀ i,i<l.length→a≤l.getD i 0∧l.getD i 0≤b)) (tb this fun v g=>tr g.is) fun v g=>tr g
theorem x_wi {K:Nat} (hK:2097152≤K) (m:x_am) (h:MkS m) (w:Int):Tot (x_b5 K m w) fun r=>Is r.1 (MOk m w):=by
 obtain ⟨hl,hq⟩:=h
 unfold x_b5 x_b5.b
 refine tb (x_2 _ _ _) fun v1 g1=>tg g1 (fun a=>tr (x_a fun h=>a h.2.2.2.2.1)) fun a1=>?_
 refine tb (x_2 _ _ _) fun v2 g2=>tg g2 (fun a=>tr (x_a fun h=>a h.2.2.2.2.2.1)) fun a2=>?_
 refine tb (x_2 _ _ _) fun v3 g3=>tg g3 (fun a=>tr (x_a fun h=>a h.2.2.2.2.2.2.1)) fun a3=>?_
 refine tb (x_2 _ _ _) fun v4 g4=>tg g4 (fun a=>tr (x_a fun h=>a h.2.2.2.2.2.2.2)) fun a4=>?_
 refine ti (fun a=>tr (x_a fun h=>by have:=h.2.1;omega)) fun a5=>?_
 have e6:Is (decide (m.2.2.2.1= -1) == decide ((m.2.2.2.2.length:Int)=0)) (m.2.2.2.1= -1↔m.2.2.2.2.length=0):=by
  unfold Is
  rw [beq_iff_eq,decide_eq_decide]
  omega
 refine tg e6 (fun a=>tr (x_a fun h=>a ?_)) fun a6=>?_
 ·have h3:=h.2.2.1
  have h4:=h.2.2.2.1
  omega
 refine tA (L:=x_b5.l0 K m w) (fun _ _=>rfl) m.2.2.2.2.length (KMark m) (fun i L' hi k ha=>?_) (fun L' ha=>?_) (by omega)
 ·unfold x_b5.l0b
  have no:¬ KMark m i→ ¬ MOk m w:=fun h1 h2=>h1 (h2.1 i hi)
  rw [Int.toNat_natCast,w6 (n:=(i:Int)+1) (by omega) (by omega),w6 (n:=m.2.2.2.1-((m.2.2.2.2.length:Nat):Int)) (by omega) (by omega),w6 (n:=m.2.2.2.1-((m.2.2.2.2.length:Nat):Int)+1) (by omega) (by omega),w6 (n:=m.2.2.2.1-((m.2.2.2.2.length:Nat):Int)+1+(i:Int)) (by omega) (by omega)]
  refine ti (fun h1=>tc (by omega) (tc h1 ?_)) fun h1=>absurd (show (i:Int)<((m.2.2.2.2.length:Nat):Int) by omega) h1
  refine tn (fun a=>tr (x_a (no fun h=>by have:=h.2.1;omega))) fun b1=>?_
  refine tb (x_2 _ _ _) fun v5 g5=>tg g5 (fun a=>tr (x_a (no fun h=>a h.1))) fun b2=>?_
  refine ti (fun h3=>?_) fun h3=>k ⟨b2,by omega,fun h=>by omega⟩
  rw [w6 (n:=(i:Int)-1) (by omega) (by omega),show Int.toNat ((i:Int)-1)=i-1 by omega]
  refine tc (by omega) (tc (by omega) ?_)
  exact ti (fun h4=>tr (x_a (no fun h=>by have:=h.2.2 (by omega);omega))) fun h4=>k ⟨b2,by omega,fun _=>by omega⟩
 ·unfold x_b5.l0b
  refine ti (fun h1=>absurd h1 (by omega)) fun h1=>tr (x_d7 ⟨ha,by omega,?_,fun h=>by omega,a1,a2,a3,a4⟩)
  rcases Nat.eq_zero_or_pos m.2.2.2.2.length with h0 | h0
  ·omega
  ·have h2:=(ha 0 h0).2.1
   have h3:=hq _ (x_ae (z:=x_io) h0)
   omega
theorem ti_RowOk {K:Nat} (hK:2097152≤K) (r:TRow) (h:RSz r):Tot (x_d8 K r) fun x=>Is x.1 (ROk r):=by
 obtain ⟨hl,hs⟩:=h
 unfold x_d8 x_d8.b
 refine tb (x_2 _ _ _) fun v1 g1=>tg g1 (fun a=>tr (x_a fun h=>a h.1)) fun a1=>?_
 refine ti (fun a=>tr (x_a fun h=>by have:=h.2.1;omega)) fun a2=>ti (fun a=>tr (x_a fun h=>by have:=h.2.2.1;omega)) fun a3=>?_
 refine tA (L:=x_d8.l0 K r) (fun _ _=>rfl) r.2.2.length (RIt r) (fun i L' hi k ha=>?_) (fun L' ha=>?_) (by omega)
 ·unfold x_d8.l0b
  have no:¬ RIt r i→ ¬ ROk r:=fun h1 h2=>h1 (h2.2.2.2 i hi)
  rw [Int.toNat_natCast,w6 (n:=(i:Int)+1) (by omega) (by omega),w6 (n:=r.2.1-1) (by omega) (by omega)]
  refine ti (fun h1=>tc (by omega) (tc h1 ?_)) fun h1=>absurd (show (i:Int)<((r.2.2.length:Nat):Int) by omega) h1
  refine tb (x_2 _ _ _) fun v2 g2=>tg g2 (fun a=>tr (x_a (no fun h=>a h.2.1))) fun b1=>?_
  have go:(0<i→(r.2.2.getD (i-1) x_cb).1<(r.2.2.getD i x_cb).1)→Tot ((x_a3 K (r.2.2.getD i x_cb).2.1).bind fun v3=>bif !v3.1 then some (false,()) else (x_a3 K (r.2.2.getD i x_cb).2.2.1).bind fun v4=>bif !v4.1 then some (false,()) else
    (x_6 (r.2.2.getD i x_cb).2.2.2.1 0 3).bind fun v5=>bif !v5.1 then some (false,()) else (x_6 (r.2.2.getD i x_cb).2.2.2.2 0 100000).bind fun v6=>bif !v6.1 then some (false,()) else L' ((i:Int)+1)) fun x=>Is x.1 (ROk r):=fun h3=>by
   refine tb (x_gl hK _ (hs _ (x_ae hi)).1) fun v3 g3=>tg g3 (fun a=>tr (x_a (no fun h=>a h.1.1))) fun b3=>?_
   refine tb (x_gl hK _ (hs _ (x_ae hi)).2) fun v4 g4=>tg g4 (fun a=>tr (x_a (no fun h=>a h.1.2.1))) fun b4=>?_
   refine tb (x_2 _ _ _) fun v5 g5=>tg g5 (fun a=>tr (x_a (no fun h=>a h.1.2.2.1))) fun b5=>?_
   exact tb (x_2 _ _ _) fun v6 g6=>tg g6 (fun a=>tr (x_a (no fun h=>a h.1.2.2.2))) fun b6=>k ⟨⟨b3,b4,b5,b6⟩,b1,h3⟩
  refine ti (fun h3=>?_) fun h3=>go fun h=>by omega
  rw [w6 (n:=(i:Int)-1) (by omega) (by omega),show Int.toNat ((i:Int)-1)=i-1 by omega]
  refine tc (by omega) (tc (by omega) ?_)
  exact ti (fun h4=>tr (x_a (no fun h=>by have:=h.2.2 (by omega);omega))) fun h4=>go fun _=>by omega
 ·unfold x_d8.l0b
  exact ti (fun h1=>absurd h1 (by omega)) fun h1=>tr (x_d7 ⟨a1,by omega,by omega,ha⟩)
theorem x_xh {K:Nat} (hK:2097152≤K) (g:x_ag) (h:GSz g) (rows:Int):Tot (x_by K g rows) fun r=>Is r.1 (GOk rows g):=by
 obtain ⟨hl,hb,ho⟩:=h
 unfold x_by x_by.b
 refine tA (L:=x_by.l0 K g rows) (fun _ _=>rfl) g.2.1.length (fun i=>(0≤g.2.1.getD i 0∧g.2.1.getD i 0≤3)∧(0<i→g.2.1.getD (i-1) 0<g.2.1.getD i 0)) (fun i L' hi k ha=>?_) (fun L' ha=>?_) (by omega)
 ·unfold x_by.l0b x_nc
  have no:¬ ((0≤g.2.1.getD i 0∧g.2.1.getD i 0≤3)∧(0<i→g.2.1.getD (i-1) 0<g.2.1.getD i 0))→ ¬ GOk rows g:=fun h1 h2=>h1 ⟨(h2.2.2.2.1 i hi).1,(h2.2.2.2.1 i hi).2.1⟩
  rw [Int.toNat_natCast,w6 (n:=(i:Int)+1) (by omega) (by omega)]
  refine ti (fun h1=>tc (by omega) (tc h1 ?_)) fun h1=>absurd (show (i:Int)<((g.2.1.length:Nat):Int) by omega) h1
  refine tb (Q:=fun v=>Is v.1 (0≤g.2.1.getD i 0∧g.2.1.getD i 0≤3)) (tb (x_2 _ _ _) fun v g=>tr g) fun v1 g1=>tg g1 (fun a=>tr (x_a (no fun h=>a h.1))) fun b1=>?_
  refine ti (fun h3=>?_) fun h3=>k ⟨b1,fun h=>by omega⟩
  rw [w6 (n:=(i:Int)-1) (by omega) (by omega),show Int.toNat ((i:Int)-1)=i-1 by omega]
  refine tc (by omega) (tc (by omega) ?_)
  exact ti (fun h4=>tr (x_a (no fun h=>by have:=h.2 (by omega);omega))) fun h4=>k ⟨b1,fun _=>by omega⟩
 ·unfold x_by.l0b
  refine ti (fun h1=>absurd h1 (by omega)) fun h1=>?_
  refine tb (x_2 _ _ _) fun v2 g2=>tf g2 (fun b1=>?_) fun a=>tr (x_a fun h=>a h.1)
  refine ti (fun b2=>?_) fun a=>tr (x_a fun h=>a (by have:=h.2.1;omega))
  have b2:g.2.2.1.length=g.2.1.length:=by omega
  refine tb (x_fz hK _ hb _ _) fun v3 g3=>tf g3 (fun b3=>?_) fun a=>tr (x_a fun h=>a fun i hi=>(h.2.2.2.1 i (by omega)).2.2)
  refine ti (fun b4=>?_) fun a=>tr (x_a fun h=>a h.2.2.1)
  exact tb (x_fz hK _ ho _ _) fun v4 g4=>tr ⟨fun h=>⟨b1,b2,b4,fun i hi=>⟨(ha i hi).1,(ha i hi).2,b3 i (by omega)⟩,g4.1 h⟩,fun h=>g4.2 h.2.2.2.2⟩
theorem x_vl {K:Nat} (hK:2097152≤K) (a:x_ct) (h:ASz a):Tot (x_jw K a) fun r=>Is r.1 (AOk a):=by
 unfold x_jw
 refine tb (x_2 _ _ _) fun v1 g1=>tf g1 (fun a1=>?_) fun a=>tr (x_a fun h=>a h.1)
 refine tb (x_2 _ _ _) fun v2 g2=>tf g2 (fun a2=>?_) fun a=>tr (x_a fun h=>a h.2.1)
 refine tb (x_gl hK _ h.1) fun v3 g3=>tf g3 (fun a3=>?_) fun a=>tr (x_a fun h=>a h.2.2.1)
 exact tb (x_gl hK _ h.2) fun v4 g4=>tr ⟨fun h=>⟨a1,a2,a3,g4.1 h⟩,fun h=>g4.2 h.2.2.2⟩
theorem cf_row {K:Nat} (hK:2097152≤K) (l:List TRow) (h:l.length<2097152) (hz:∀ r∈l,RSz r):Tot (x_bz K l) fun r=>Is (!r.1) (∀ i,i<l.length→ROk (l.getD i zRow)):=by
 unfold x_bz x_s x_s.b
 have:Tot (x_s.l0 K l K 0) fun r=>Srch r.1 (∀ i,i<l.length→ROk (l.getD i zRow)):=by
  refine tA (L:=x_s.l0 K l) (fun _ _=>rfl) l.length (fun i=>ROk (l.getD i zRow)) (fun i L' hi k ha=>?_) (fun L' ha=>?_) (by omega)
  ·unfold x_s.l0b x_ly
   rw [Int.toNat_natCast,w6 (n:=(i:Int)+1) (by omega) (by omega)]
   refine ti (fun h1=>tc (by omega) (tc h1 ?_)) fun h1=>absurd (show (i:Int)<((l.length:Nat):Int) by omega) h1
   refine tb (Q:=fun v=>Is v.1 (¬ ROk (l.getD i zRow))) (tb (ti_RowOk hK _ (hz _ (x_ae hi))) fun v1 g1=>tr (Is.neg g1)) fun v g=>?_
   exact tf g (fun a1=>tr ⟨fun _ h2=>a1 (h2 i hi),fun h2=>by omega⟩) fun a1=>k (Classical.not_not.1 a1)
  ·unfold x_s.l0b
   exact ti (fun h1=>absurd h1 (by omega)) fun h1=>tr ⟨fun h2=>absurd (show (0:Int)≤ -1 from h2) (by decide),fun _=>ha⟩
 exact tb this fun v g=>tr g.is
theorem cf_group {K:Nat} (hK:2097152≤K) (l:List x_ag) (h:l.length<2097152) (hz:∀ r∈l,GSz r) (s:x_e):Tot (x_b4 K l s) fun r=>Is (!r.1) (∀ i,i<l.length→GOk s.1 (l.getD i x_co)):=by
 unfold x_b4 x_u x_u.b
 have:Tot (x_u.l0 K l s K 0 s) fun r=>Srch r.1 (∀ i,i<l.length→GOk s.1 (l.getD i x_co)):=by
  refine Tot.all1 (L:=x_u.l0 K l s) (fun _ _ _=>rfl) s l.length (fun i=>GOk s.1 (l.getD i x_co)) (fun i L' hi k ha=>?_) (fun L' ha=>?_) (by omega)
  ·unfold x_u.l0b x_l4
   rw [Int.toNat_natCast,w6 (n:=(i:Int)+1) (by omega) (by omega)]
   refine ti (fun h1=>tc (by omega) (tc h1 ?_)) fun h1=>absurd (show (i:Int)<((l.length:Nat):Int) by omega) h1
   refine tb (Q:=fun v=>Is v.1 (¬ GOk s.1 (l.getD i x_co))∧v.2=(s,())) (tb (x_xh hK _ (hz _ (x_ae hi)) _) fun v1 g1=>tr ⟨(Is.neg g1),rfl⟩) fun v g=>?_
   obtain ⟨x,y⟩:=v
   obtain ⟨g,rfl⟩:=g
   exact tf g (fun a1=>tr ⟨fun _ h2=>a1 (h2 i hi),fun h2=>by omega⟩) fun a1=>k (Classical.not_not.1 a1)
  ·unfold x_u.l0b
   exact ti (fun h1=>absurd h1 (by omega)) fun h1=>tr ⟨fun h2=>absurd (show (0:Int)≤ -1 from h2) (by decide),fun _=>ha⟩
 exact tb this fun v g=>tr g.is
theorem cf_ans {K:Nat} (hK:2097152≤K) (l:List x_ct) (h:l.length<2097152) (hz:∀ r∈l,ASz r):Tot (x_b0 K l) fun r=>Is (!r.1) (∀ i,i<l.length→AOk (l.getD i x_cc)):=by
 unfold x_b0 x_v x_v.b
 have:Tot (x_v.l0 K l K 0) fun r=>Srch r.1 (∀ i,i<l.length→AOk (l.getD i x_cc)):=by
  refine tA (L:=x_v.l0 K l) (fun _ _=>rfl) l.length (fun i=>AOk (l.getD i x_cc)) (fun i L' hi k ha=>?_) (fun L' ha=>?_) (by omega)
  ·unfold x_v.l0b x_l2
   rw [Int.toNat_natCast,w6 (n:=(i:Int)+1) (by omega) (by omega)]
   refine ti (fun h1=>tc (by omega) (tc h1 ?_)) fun h1=>absurd (show (i:Int)<((l.length:Nat):Int) by omega) h1
   refine tb (Q:=fun v=>Is v.1 (¬ AOk (l.getD i x_cc))) (tb (x_vl hK _ (hz _ (x_ae hi))) fun v1 g1=>tr (Is.neg g1)) fun v g=>?_
   exact tf g (fun a1=>tr ⟨fun _ h2=>a1 (h2 i hi),fun h2=>by omega⟩) fun a1=>k (Classical.not_not.1 a1)
  ·unfold x_v.l0b
   exact ti (fun h1=>absurd h1 (by omega)) fun h1=>tr ⟨fun h2=>absurd (show (0:Int)≤ -1 from h2) (by decide),fun _=>ha⟩
 exact tb this fun v g=>tr g.is
theorem x_pf {K:Nat} (hK:2097152≤K) (s:x_e) (k:x_as) (h:KSz k):Tot (x_cs K s k) fun r=>Is r.1 (KOk s k):=by
 obtain ⟨z1,z2,z3,z4,z5,z6,z7,z8⟩:=h
 unfold x_cs x_cs.b
 refine tb (x_gt s) fun v1 g1=>tg g1 (fun a=>tr (x_a fun h=>a h.1)) fun a1=>?_
 refine tn (fun h=>tr (x_a fun k=>h k.2.1)) fun h2=>tn (fun h=>tr (x_a fun k=>h (by have:=k.2.2.1;omega))) fun h3=>?_
 refine tb (x_2 _ _ _) fun v2 g2=>tg g2 (fun a=>tr (x_a fun h=>a h.2.2.2.2.2.1)) fun a2=>?_
 refine tn (fun h=>tr (x_a fun k=>h (by have:=k.2.2.2.1;omega))) fun h4=>?_
 refine tb (x_fz hK _ z6 _ _) fun v3 g3=>tg g3 (fun a=>tr (x_a fun h=>a fun i hi=>(h.2.2.2.2.2.2.2.2.2 i (by have:=h.2.2.2.1;omega)).1)) fun a3=>?_
 refine tn (fun h=>tr (x_a fun k=>h (by have:=k.2.2.2.2.1;omega))) fun h5=>?_
 refine tA (L:=x_cs.l0 K s k) (fun _ _=>rfl) k.2.1.length (MaOk s k.2.1) (fun i L' hi kk ha=>?_) (fun L' ha=>?_) (by have:=z3.1;omega)
 ·unfold x_cs.l0b
  have no:¬ MaOk s k.2.1 i→ ¬ KOk s k:=fun h1 h2=>h1 (h2.2.2.2.2.2.2.1 i hi)
  have:=z3.1
  rw [Int.toNat_natCast,w6 (n:=(i:Int)+1) (by omega) (by omega)]
  refine ti (fun h1=>tc (by omega) (tc h1 ?_)) fun h1=>absurd (show (i:Int)<((k.2.1.length:Nat):Int) by omega) h1
  refine tb (x_wi hK _ (z3.2 _ (x_ae hi)) _) fun v4 g4=>tg g4 (fun a=>tr (x_a (no fun h=>a h.1))) fun b1=>?_
  refine ti (fun a=>tr (x_a (no fun h=>by have:=h.2.1;omega))) fun b2=>?_
  refine ti (fun h3=>?_) fun h3=>kk ⟨b1,by omega,fun h=>by omega⟩
  rw [w6 (n:=(i:Int)-1) (by omega) (by omega),show Int.toNat ((i:Int)-1)=i-1 by omega]
  refine tc (by omega) (tc (by omega) ?_)
  refine ti (fun a=>tr (x_a (no fun h=>by rcases h.2.2 (by omega) with h | h<;>omega))) fun b3=>tc (by omega) (tc (by omega) ?_)
  refine ti (fun b4=>tc (by omega) (tc (by omega) ?_)) fun b4=>kk ⟨b1,by omega,fun _=> .inl (by omega)⟩
  exact ti (fun a=>tr (x_a (no fun h=>by rcases h.2.2 (by omega) with h | h<;>omega))) fun b5=>kk ⟨b1,by omega,fun _=> .inr ⟨b4,by omega⟩⟩
 ·unfold x_cs.l0b
  refine ti (fun h1=>absurd h1 (by omega)) fun h1=>?_
  refine tb (cf_row hK _ z1 z2) fun v5 g5=>tb (cf_group hK _ z4 z5 s) fun v6 g6=>tb (cf_ans hK _ z7 z8) fun v7 g7=>?_
  have e6:k.2.2.1.length=2:=by omega
  have e7:k.2.2.2.2.2.length=4:=by omega
  have e8:k.2.2.2.2.1.length=4:=by omega
  refine tf g5 (fun b5=>tf g6 (fun b6=>tr ?_) fun a=>tr (x_a fun h=>a fun i hi=>h.2.2.2.2.2.2.2.2.1 i (by omega))) fun a=>tr (x_a fun h=>a h.2.2.2.2.2.2.2.1)
  exact ⟨fun h=>⟨a1,h2,e6,e8,e7,a2,ha,b5,fun i hi=>b6 i (by omega),fun i hi=>⟨a3 i (by omega),g7.1 h i (by omega)⟩⟩,fun h=>g7.2 fun i hi=>(h.2.2.2.2.2.2.2.2.2 i (by omega)).2⟩
theorem x_lp {K:Nat} (hK:2097152≤K) (p:x_e) (h:x_eh) (hz:HSw h):Tot (x_iw K p h) fun r=>Is r.1 (HOk p h):=by
 obtain ⟨z1,z2,z3⟩:=hz
 unfold x_iw
 refine tb (ti_LastOf _ z1.1 z2) fun v1 h1=>?_
 subst h1
 refine tb (x_2 _ _ _) fun v2 g2=>tf g2 (fun a2=>?_) fun a=>tr (x_a fun h=>a h.1)
 refine tb (x_2 _ _ _) fun v3 g3=>tf g3 (fun a3=>?_) fun a=>tr (x_a fun h=>a h.2.1)
 refine tb (x_sc hK _ z1) fun v4 g4=>tf g4 (fun a4=>?_) fun a=>tr (x_a fun h=>a h.2.2.1)
 refine ti (fun a5=>?_) fun a5=>tr (x_a fun h=>a5 h.2.2.2.1)
 exact tb (x_pf hK p _ z3) fun v5 g5=>tr ⟨fun h=>⟨a2,a3,a4,a5,g5.1 h⟩,fun h=>g5.2 h.2.2.2.2⟩
theorem cf_ents {K:Nat} (hK:2097152≤K) (r:TRpc) (h:RpSz r):Tot (x_cj K r.2.2.2.2.2.2.2.1 r) fun x=>Is (!x.1) (∀ i,i<r.2.2.2.2.2.2.2.1.length→(0≤(r.2.2.2.2.2.2.2.1.getD i x_at).1∧(r.2.2.2.2.2.2.2.1.getD i x_at).1≤r.2.2.2.1)∧COk (r.2.2.2.2.2.2.2.1.getD i x_at).2):=by
 obtain ⟨hl,hz⟩:=h
 unfold x_cj x_x x_x.b
 let P:Nat→Prop:=fun i=>(0≤(r.2.2.2.2.2.2.2.1.getD i x_at).1∧(r.2.2.2.2.2.2.2.1.getD i x_at).1≤r.2.2.2.1)∧COk (r.2.2.2.2.2.2.2.1.getD i x_at).2
 have:Tot (x_x.l0 K r.2.2.2.2.2.2.2.1 r K 0 r) fun x=>Srch x.1 (∀ i,i<r.2.2.2.2.2.2.2.1.length→P i):=by
  refine Tot.all1 (L:=x_x.l0 K r.2.2.2.2.2.2.2.1 r) (fun _ _ _=>rfl) r r.2.2.2.2.2.2.2.1.length P (fun i L' hi k ha=>?_) (fun L' ha=>?_) (by omega)
  ·unfold x_x.l0b x_oj
   rw [Int.toNat_natCast,w6 (n:=(i:Int)+1) (by omega) (by omega)]
   refine ti (fun h1=>tc (by omega) (tc h1 ?_)) fun h1=>absurd (show (i:Int)<((r.2.2.2.2.2.2.2.1.length:Nat):Int) by omega) h1
   refine tb (Q:=fun v=>Is v.1 (¬ P i)∧v.2=(r,())) (tb (x_2 _ _ _) fun v1 g1=>tg g1 (fun a=>tr ⟨x_d7 fun h=>a h.1,rfl⟩) fun a1=>tb (x_me hK _ (hz _ (x_ae hi))) fun v2 g2=>tr ⟨?_,rfl⟩) fun v g=>?_
   ·exact ⟨fun h hp=>(Is.neg g2).1 h hp.2,fun h=>(Is.neg g2).2 fun h2=>h ⟨a1,h2⟩⟩
   obtain ⟨x,y⟩:=v
   obtain ⟨g,rfl⟩:=g
   exact tf g (fun a1=>tr ⟨fun _ h2=>a1 (h2 i hi),fun h2=>by omega⟩) fun a1=>k (Classical.not_not.1 a1)
  ·unfold x_x.l0b
   exact ti (fun h1=>absurd h1 (by omega)) fun h1=>tr ⟨fun h2=>absurd (show (0:Int)≤ -1 from h2) (by decide),fun _=>ha⟩
 exact tb this fun v g=>tr g.is
theorem ti_RpcOk {K:Nat} (hK:2097152≤K) (r:TRpc) (n:Int) (h:RpSz r):Tot (x_th K r n) fun x=>Is x.1 (RpOk r n):=by
 unfold x_th
 refine tb (x_2 _ _ _) fun v2 g2=>tg g2 (fun a=>tr (x_a fun h=>a h.2.1)) fun a2=>?_
 refine tb (x_2 _ _ _) fun v1 g1=>tg g1 (fun a=>tr (x_a fun h=>a h.1)) fun a1=>?_
 rw [w6 (by omega) (by omega)]
 refine tb (x_2 _ _ _) fun v3 g3=>tg g3 (fun a=>tr (x_a fun h=>a h.2.2.1)) fun a3=>?_
 refine tb (x_2 _ _ _) fun v4 g4=>tg g4 (fun a=>tr (x_a fun h=>a h.2.2.2.1)) fun a4=>?_
 refine ti (fun h=>tr (x_a fun k=>k.2.2.2.2.1 h)) fun h5=>?_
 refine tb (x_2 _ _ _) fun v5 g5=>tg g5 (fun a=>tr (x_a fun h=>a h.2.2.2.2.2.1)) fun a5=>?_
 refine tb (x_2 _ _ _) fun v6 g6=>tg g6 (fun a=>tr (x_a fun h=>a h.2.2.2.2.2.2.1)) fun a6=>?_
 refine tb (x_2 _ _ _) fun v7 g7=>tg g7 (fun a=>tr (x_a fun h=>a h.2.2.2.2.2.2.2.1)) fun a7=>?_
 refine tb (x_2 _ _ _) fun v8 g8=>tg g8 (fun a=>tr (x_a fun h=>a h.2.2.2.2.2.2.2.2.1)) fun a8=>?_
 refine ti (fun a=>tr (x_a fun h=>by have:=h.2.2.2.2.2.2.2.2.2.1.2;omega)) fun b1=>ti (fun a=>tr (x_a fun h=>by have:=h.2.2.2.2.2.2.2.2.2.2;omega)) fun b2=>?_
 exact tb (cf_ents hK r h) fun v9 g9=>tr ⟨fun h=>⟨a1,a2,a3,a4,h5,a5,a6,a7,a8,⟨g9.1 h,by omega⟩,by omega⟩,fun h=>g9.2 h.2.2.2.2.2.2.2.2.2.1.1⟩
theorem ti_DiskOk (d:x_n4):Tot (x_oz d) fun x=>Is x.1 (DOk d):=by
 unfold x_oz
 refine ti (fun h=>?_) fun h=>tr (x_a fun k=>h (by have:=k.1;omega))
 exact tb (x_2 _ _ _) fun v g=>tr ⟨fun h1=>⟨by omega,g.1 h1⟩,fun h1=>g.2 h1.2⟩
theorem cf_held {K:Nat} (hK:2097152≤K) (n:x_cg) (size:Int) (hl:n.2.2.2.2.2.2.2.2.2.length<2097152) (hz:∀ r∈n.2.2.2.2.2.2.2.2.2,RpSz r):Tot (x_b7 K n.2.2.2.2.2.2.2.2.2 size n) fun x=>Is (!x.1) (∀ i,i<n.2.2.2.2.2.2.2.2.2.length→PHd n size i):=by
 unfold x_b7 x_t x_t.b
 have:Tot (x_t.l0 K n.2.2.2.2.2.2.2.2.2 size n K 0 size n) fun x=>Srch x.1 (∀ i,i<n.2.2.2.2.2.2.2.2.2.length→PHd n size i):=by
  refine Tot.all2 (L:=x_t.l0 K n.2.2.2.2.2.2.2.2.2 size n) (fun _ _ _ _=>rfl) size n n.2.2.2.2.2.2.2.2.2.length (PHd n size) (fun i L' hi k ha=>?_) (fun L' ha=>?_) (by omega)
  ·unfold x_t.l0b x_mo
   rw [Int.toNat_natCast,w6 (n:=(i:Int)+1) (by omega) (by omega)]
   refine ti (fun h1=>tc (by omega) (tc h1 ?_)) fun h1=>absurd (show (i:Int)<((n.2.2.2.2.2.2.2.2.2.length:Nat):Int) by omega) h1
   refine tb (Q:=fun v=>Is v.1 (¬ PHd n size i)∧v.2=(size,n,())) (tb (ti_RpcOk hK _ size (hz _ (x_ae hi))) fun v1 g1=>tg g1 (fun a=>tr ⟨x_d7 fun h=>a h.1,rfl⟩) fun a1=>tr ⟨?_,rfl⟩) fun v g=>?_
   ·refine ⟨fun h hp=>?_,fun h=>?_⟩
    ·rw [decide_eq_true hp.2] at h;exact bad h
    ·rw [decide_eq_false fun h2=>h ⟨a1,h2⟩];rfl
   obtain ⟨x,y⟩:=v
   obtain ⟨g,rfl⟩:=g
   exact tf g (fun a1=>tr ⟨fun _ h2=>a1 (h2 i hi),fun h2=>by omega⟩) fun a1=>k (Classical.not_not.1 a1)
  ·unfold x_t.l0b
   exact ti (fun h1=>absurd h1 (by omega)) fun h1=>tr ⟨fun h2=>absurd (show (0:Int)≤ -1 from h2) (by decide),fun _=>ha⟩
 exact tb this fun v g=>tr g.is
theorem x_k6 {K:Nat} (hK:2097152≤K) (p:x_e) (n:x_cg) (size:Int) (h:PSw n) (hn:n.2.2.2.2.1.length<2097152) (hm:n.2.2.2.2.2.1.length<2097152):Tot (x_kd K p n size) fun x=>Is x.1 (POk p n size):=by
 obtain ⟨z1,z2,z3,z4⟩:=h
 unfold x_kd
 refine tb (x_2 _ _ _) fun v1 g1=>tg g1 (fun a=>tr (x_a fun h=>a h.1)) fun a1=>?_
 rw [w6 (by omega) (by omega)]
 refine tb (x_2 _ _ _) fun v2 g2=>tg g2 (fun a=>tr (x_a fun h=>a h.2.1)) fun a2=>?_
 refine tb (x_lp hK p _ z1) fun v3 g3=>tg g3 (fun a=>tr (x_a fun h=>a h.2.2.1)) fun a3=>?_
 refine ti (fun a=>tr (x_a fun h=>by have:=h.2.2.2.1;omega)) fun a4=>?_
 refine tb (x_2 _ _ _) fun v4 g4=>tg g4 (fun a=>tr (x_a fun h=>a h.2.2.2.2.1)) fun a5=>?_
 refine tv (ti_last _ z1.1.1 z1.2.1) ?_
 have hlog:=a3.2.2.1
 have hln:0≤x_ey n.2.1.2.2.1∧x_ey n.2.1.2.2.1≤300:=by have:=hlog.1;have:=hlog.2.2.1;unfold x_ey;omega
 refine tn (fun a=>tr (x_a fun h=>a h.2.2.2.2.2.1)) fun a6=>tn (fun a=>tr (x_a fun h=>a h.2.2.2.2.2.2.1)) fun a7=>?_
 dsimp only
 rw [w6 (n:=x_ey n.2.1.2.2.1+1) (by omega) (by omega)]
 refine tb (x_fz hK _ hn _ _) fun v6 g6=>tg g6 (fun a=>tr (x_a fun h=>a fun i hi=>(h.2.2.2.2.2.2.2.2.1 i (by omega)).1)) fun b1=>?_
 refine tn (fun a=>tr (x_a fun h=>a h.2.2.2.2.2.2.2.1)) fun a8=>?_
 refine tb (x_fz hK _ hm _ _) fun v7 g7=>tg g7 (fun a=>tr (x_a fun h=>a fun i hi=>(h.2.2.2.2.2.2.2.2.1 i (by omega)).2)) fun b2=>?_
 refine tb (x_2 _ _ _) fun v8 g8=>tg g8 (fun a=>tr (x_a fun h=>a h.2.2.2.2.2.2.2.2.2.2.1)) fun b3=>?_
 refine tb (x_pf hK p _ z2) fun v9 g9=>tg g9 (fun a=>tr (x_a fun h=>a h.2.2.2.2.2.2.2.2.2.2.2.1)) fun b4=>?_
 refine tb (ti_DiskOk _) fun v10 g10=>tg g10 (fun a=>tr (x_a fun h=>a h.2.2.2.2.2.2.2.2.2.2.2.2.1)) fun b5=>?_
 refine ti (fun a=>tr (x_a fun h=>by have:=h.2.2.2.2.2.2.2.2.2.2.2.2.2;omega)) fun b6=>?_
 exact tb (cf_held hK n size z3 z4) fun v11 g11=>tr ⟨fun h=>⟨a1,a2,a3,by omega,a5,a6,a7,a8,fun i hi=>⟨b1 i (by omega),b2 i (by omega)⟩,g11.1 h,b3,b4,b5,by omega⟩,fun h=>g11.2 h.2.2.2.2.2.2.2.2.2.1⟩
variable {K N:Nat}
theorem u_l2Spoil {c:x_z} (h:x_cn c) (x:TCmd) (hx:CSz x):Tot (x_kz c x) fun r=>CSz r.1∧x_cn r.2.1:=by
 unfold x_kz
 refine tb (x_5 h 14 (by decide)) fun v1 g1=>?_
 have pk:∀ l:List Int,0<l.length→Tot (x_0 v1.2.1 l) fun r=>x_cn r.2.1:=fun l hl=>(x_ap g1.2.2 l hl).mono fun r g=>g.2
 refine ti (fun _=>tb (pk _ (by decide)) fun v g=>tr ⟨hx,g⟩) fun _=>ti (fun _=>tb (pk _ (by decide)) fun v g=>tr ⟨hx,g⟩) fun _=>ti (fun _=>tb (pk _ (by decide)) fun v g=>tr ⟨hx,g⟩) fun _=>ti (fun _=>tb (pk _ (by decide)) fun v g=>tr ⟨hx,g⟩) fun _=>ti (fun _=>tb (x_r0 g1.2.2 _ (by decide)) fun v g=>tr ⟨⟨?_,hx.2⟩,g.2⟩) fun _=>tr ⟨hx,g1.2.2⟩
 have e:=g.1
 simp only [mem_cons,List.not_mem_nil,or_false] at e
 show v.1.size<2097152
 rcases e with e | e<;>rw [e]<;>decide
theorem u_l3Draw (hK:2097152≤K) {c:x_z} (h:x_cn c):Tot (x_c3 K c) fun r=>RSz r.1∧x_cn r.2.1:=(t_l3Draw hK h).mono fun r g=>⟨⟨by have:=g.1.2.2.1;omega,fun x hx=>⟨by have:=(g.1.2.2.2 x hx).2.1;omega,by have:=(g.1.2.2.2 x hx).2.2.1;omega⟩⟩,g.2⟩
theorem u_l5Draw (hK:2097152≤K) {c:x_z} (h:x_cn c):Tot (x_mi K c) fun r=>GSz r.1∧x_cn r.2.2.1:=(t_l5Draw hK h).mono fun r g=>⟨⟨by have:=g.1.2.1;omega,by have:=g.1.2.2.1;omega,by have:=g.1.2.2.2.1;omega⟩,g.2⟩
def LSy (l:TLog):Prop:=LSz l∧(-9223372036854775808≤l.1∧l.1≤1000000)
def HSy (h:x_eh):Prop:=LSy h.2.2.1∧KSz h.2.2.2
theorem HSz.sy {h:x_eh} (k:HSz h):HSy h:=⟨⟨k.1,by have:=k.2.1;omega⟩,k.2.2⟩
def NSy (n:x_cg):Prop:=HSy n.2.1∧KSz n.2.2.2.2.2.2.2.1∧n.2.2.2.1.length<2097152∧n.2.2.2.2.1.length<2097152∧n.2.2.2.2.2.1.length<2097152∧(n.2.2.2.2.2.2.2.2.1.1.length≤2000000∧BOk n.2.2.2.2.2.2.2.2.1.1)∧n.2.2.2.2.2.2.2.2.2.length<2097152∧ ∀ r∈n.2.2.2.2.2.2.2.2.2,RpSz r
theorem NI.sy {p:x_e} {s:Int} {n:x_cg} (h:NI p s n):NSy n:=by
 obtain ⟨h1,h2,h3,h4,h5,h6,h7,h8⟩:=h
 exact ⟨h2.sz.sy,h5.sz (by decide),by omega,by omega,by omega,⟨by omega,h6.2⟩,by omega,h8⟩
theorem u_l8Draw (hK:2097152≤K) {c:x_z} (h:x_cn c):Tot (x_pq K c) fun r=>LSy r.1∧x_cn r.2.1:=by
 unfold x_pq x_hm
 refine tb (Q:=fun r=>LSy r.1∧r.1.2.2.length≤6∧x_cn r.2.1) ?_ fun v1 g1=>tb (x_5 g1.2.2 14 (by decide)) fun v2 g2=>?_
 ·refine tb (x_5 h 3 (by decide)) fun v1 g1=>tb (x_5 g1.2.2 2 (by decide)) fun v2 g2=>tb (x_gg hK g2.2.2 _ 6 (by decide)) fun v3 g3=>tr ⟨⟨⟨by show v3.1.length<_;omega,g3.2.1⟩,⟨by show -9223372036854775808≤v1.1;omega,by show v1.1≤1000000;omega⟩⟩,by show v3.1.length≤6;omega,g3.2.2⟩
 obtain ⟨⟨lz,lb⟩,l6,_⟩:=g1
 refine ti (fun _=>tb (x_ap g2.2.2 _ (by decide)) fun v3 g3=>tr ⟨⟨lz,?_⟩,g3.2⟩) fun _=>ti (fun _=>tb (x_ap g2.2.2 _ (by decide)) fun v3 g3=>tr ⟨⟨lz,lb⟩,g3.2⟩) fun _=>ti (fun _=>?_) fun _=>tr ⟨⟨lz,lb⟩,g2.2.2⟩
 ·have e:=g3.1
  simp only [mem_cons,List.not_mem_nil,or_false] at e
  show -9223372036854775808≤v3.1∧v3.1≤1000000
  omega
 ·refine tb (x_5 g2.2.2 5 (by decide)) fun v5 g5=>tb (x_f8 g5.2.2) fun v6 g6=>tb (u_l2Spoil g6.2 _ g6.1) fun v7 g7=>tc (by show _≤70368744177664;(try dsimp only);(try simp only [ll_]);omega) (tr ⟨⟨⟨?_,fun x hx=>?_⟩,lb⟩,g7.2⟩)
  ·show (v1.1.2.2++[_]).length<_
   rw [length_append,length_singleton];omega
  ·have hx:x∈v1.1.2.2++[_]:=hx
   rw [mem_append,mem_singleton] at hx
   rcases hx with hx | rfl
   ·exact lz.2 x hx
   ·exact g7.1
theorem u_l6Draw (hK:2097152≤K) {c:x_z} (h:x_cn c):Tot (x_og K c) fun r=>KSz r.2.1∧x_cn r.2.2.1:=by
 unfold x_og
 refine tb (x_hk hK h) fun v1 g1=>tb (x_5 g1.2.2 16 (by decide)) fun v2 g2=>?_
 have hr:=g1.2.1.2.1
 have hs:=g1.1.1
 have hg:=g1.2.1.2.2.1
 have hd:=g1.2.1.2.2.2.1
 have hl:=g1.2.1.2.2.2.2.1
 have hm:=g1.2.1.ms.1
 obtain ⟨z1,z2,z3,z4,z5,z6,z7,z8⟩:=g1.2.1.sz (by decide)
 have sz:KSz v1.2.1:=⟨z1,z2,z3,z4,z5,z6,z7,z8⟩
 have pk:∀ l:List Int,0<l.length→Tot (x_0 v2.2.1 l) fun r=>x_cn r.2.1:=fun l hl=>(x_ap g2.2.2 l hl).mono fun r g=>g.2
 refine ti (fun _=>tb (x_yj g2.2.2) fun v g=>tr ⟨sz,g⟩) fun _=>ti (fun _=>tb (u_l3Draw hK g2.2.2) fun v g=>tc (by omega) (tr ⟨⟨?_,fun r hr=>?_,z3,z4,z5,z6,z7,z8⟩,g.2⟩)) fun _=>ti (fun _=>tb (u_l4Draw hK g2.2.2) fun v g=>tc (by show _≤70368744177664;(try dsimp only);(try simp only [ll_]);omega) (tr ⟨⟨z1,z2,⟨?_,fun m hm=>?_⟩,z4,z5,z6,z7,z8⟩,g.2⟩)) fun _=>ti (fun _=>tb (u_l5Draw hK g2.2.2) fun v g=>tc (by omega) (tr ⟨⟨z1,z2,z3,?_,fun q hq=>?_,z6,z7,z8⟩,g.2⟩)) fun _=>ti (fun _=>tb (pk _ (by decide)) fun v g=>tc (by omega) (tr ⟨⟨z1,z2,z3,z4,z5,?_,z7,z8⟩,g⟩)) fun _=>ti (fun _=>tb (x_5 g2.2.2 12 (by decide)) fun v8 g8=>tb (x_ap g8.2.2 _ (by decide)) fun v9 g9=>tc (by omega) (tr ⟨⟨z1,z2,z3,z4,z5,z6,?_,fun a ha=>?_⟩,g9.2⟩)) fun _=>ti (fun _=>tb (pk _ (by decide)) fun v g=>tr ⟨⟨z1,z2,z3,z4,z5,z6,z7,z8⟩,g⟩) fun _=>tr ⟨sz,g2.2.2⟩
 ·show (v1.2.1.1.set 0 _).length<_
  rw [length_set];exact z1
 ·rcases x_qv hr with hr | rfl
  ·exact z2 r hr
  ·exact g.1
 ·show (v1.2.1.2.1++[_]).length<_
  rw [length_append,length_singleton];omega
 ·have hm:m∈v1.2.1.2.1++[_]:=hm
  rw [mem_append,mem_singleton] at hm
  rcases hm with hm | rfl
  ·exact z3.2 m hm
  ·exact g.1
 ·show (v1.2.1.2.2.1.set 0 _).length<_
  rw [length_set];exact z4
 ·rcases x_qv hq with hq | rfl
  ·exact z5 q hq
  ·exact g.1
 ·show (v1.2.1.2.2.2.2.1.set 0 _).length<_
  rw [length_set];exact z6
 ·show (v1.2.1.2.2.2.2.2.set 1 _).length<_
  rw [length_set];exact z7
 ·rcases x_qv ha with ha | rfl
  ·exact z8 a ha
  ·exact ⟨by show ByteArray.empty.size<_;decide,by show ByteArray.empty.size<_;decide⟩
theorem u_l11Draw (hK:2097152≤K) {c:x_z} (h:x_cn c):Tot (x_k2 K c) fun r=>HSy r.2.1∧x_cn r.2.2.1:=by
 unfold x_k2
 refine tb (x_o8 hK h) fun v1 g1=>tb (x_5 g1.2 14 (by decide)) fun v2 g2=>?_
 have ok:=g1.1.sz.sy
 exact ti (fun _=>tb (x_ap g2.2.2 _ (by decide)) fun v3 g3=>tr ⟨ok,g3.2⟩) fun _=>ti (fun _=>tb (x_ap g2.2.2 _ (by decide)) fun v3 g3=>tr ⟨ok,g3.2⟩) fun _=>ti (fun _=>tb (u_l8Draw hK g2.2.2) fun v g=>tr ⟨⟨g.1,ok.2⟩,g.2⟩) fun _=>ti (fun _=>tb (u_l6Draw hK g2.2.2) fun v g=>tr ⟨⟨ok.1,g.1⟩,g.2⟩) fun _=>tr ⟨ok,g2.2.2⟩
theorem x_qr (hK:2097152≤K) {c:x_z} (h:x_cn c):Tot (x_aq K c) fun r=>(r.1.length≤200000∧BOk r.1)∧x_cn r.2.1:=by
 unfold x_aq x_aq.b
 refine l3_ (L:=x_aq.l0 K c) (fun _ _ _ _=>rfl) (fun m q x y=>(∃ i:Nat,x=i∧i+m=4∧q.length≤34400*i)∧x_cn y∧BOk q) (fun m q x y L' hi kk=>?_) (m:=4) (by omega) ⟨⟨0,rfl,rfl,Nat.le_refl _⟩,h, .nil⟩
 obtain ⟨⟨i,rfl,hm,hq⟩,hy,hb⟩:=hi
 unfold x_aq.l0b
 refine tb (x_5 hy 4 (by decide)) fun v1 g1=>ti (fun a=>?_) fun _=>tr ⟨⟨by show q.length≤_;omega,hb⟩,g1.2.2⟩
 rw [w6 (n:=(i:Int)+1) (by omega) (by omega)]
 refine tb (x_qt hK g1.2.2) fun v2 g2=>tb (x_gu hK _ g2.1) fun v3 g3=>?_
 have g3l:=g3.2.2.2
 exact tc (by show _≤70368744177664;(try dsimp only);(try simp only [ll_]);omega) (kk (m-1) _ _ _ (by omega) ⟨⟨i+1,by push_cast;rfl,by omega,by rw [length_append];omega⟩,g2.2,hb.app g3.2.2.1⟩)
theorem u_l10Draw (hK:2097152≤K) {c:x_z} (h:x_cn c):Tot (x_lo K c) fun r=>(r.1.1.length≤2000000∧BOk r.1.1)∧x_cn r.2.1:=by
 unfold x_lo
 refine tb (x_qr hK h) fun v1 g1=>?_
 have hl:=g1.1.1
 have ok:v1.1.length≤2000000∧BOk v1.1:=⟨by omega,g1.1.2⟩
 rw [w6 (n:=((v1.1.length:Nat):Int)+1) (by omega) (by omega)]
 refine tb (x_5 g1.2 _ (by omega)) fun v2 g2=>tb (x_5 g2.2.2 14 (by decide)) fun v3 g3=>ti (fun _=>tb (x_ap g3.2.2 _ (by show (0:Nat)<2;decide)) fun v g=>tr ⟨ok,g.2⟩) fun _=>ti (fun _=>tb (x_5 g3.2.2 2 (by decide)) fun v5 g5=>?_) fun _=>tr ⟨ok,g3.2.2⟩
 rw [w6 (n:=80000+v5.1) (by omega) (by omega)]
 refine tc rfl (tc (by omega) (tc (by show _≤70368744177664;(try dsimp only);(try simp only [ll_]);omega) (tr ⟨⟨?_,fun x hx=>?_⟩,g5.2.2⟩)))
 ·show (List.replicate (Int.toNat (80000+v5.1)) (0:Int)).length≤_
  rw [length_replicate];omega
 ·rw [(List.mem_replicate.1 hx).2];decide
theorem x_rw (hK:2097152≤K) {c:x_z} (h:x_cn c):Tot (x_dl K c) fun r=>RpSz r.1∧x_cn r.2.1:=by
 unfold x_dl
 refine tb (x_5 h 5 (by decide)) fun v1 g1=>tb (x_5 g1.2.2 3 (by decide)) fun v2 g2=>tb (x_5 g2.2.2 3 (by decide)) fun v3 g3=>tb (x_5 g3.2.2 4 (by decide)) fun v4 g4=>tb (x_5 g4.2.2 5 (by decide)) fun v5 g5=>tb (x_5 g5.2.2 3 (by decide)) fun v6 g6=>tb (x_5 g6.2.2 4 (by decide)) fun v7 g7=>tb (x_j0 g7.2.2 _) fun v8 g8=>?_
 have j:∀ (u:x_z×Unit) l,x_cn u.1→EsSz l→Tot (x_dl.j0 K v1 u v2 v3 v4 v5 v6 v7 l v8) fun r=>RpSz r.1∧x_cn r.2.1:=fun u l hu hl=>by
  unfold x_dl.j0
  exact ti (fun _=>tb (x_hk hK hu) fun v12 g12=>tb (x_ie hK _ _ g12.2.1 (by decide)) fun v13 _=>tr ⟨hl,g12.2.2⟩) fun _=>tr ⟨hl,hu⟩
 exact ti (fun _=>tb (x_gg hK g8 _ 3 (by decide)) fun v9 g9=>j _ _ g9.2.2 ⟨by have:=g9.1;omega,g9.2.1⟩) fun _=>j _ _ g8 EsSz.nil
theorem x_t6 (hK:2097152≤K) {c:x_z} (h:x_cn c):Tot (x_jj K c) fun r=>(SOk r.1∧NSy r.2.1)∧x_cn r.2.2.2.1:=by
 unfold x_jj
 refine tb (x_p3 hK h) fun v1 g1=>?_
 have hs:=g1.1.2.2.1
 have hsz:=g1.1.2.1
 have hp:=g1.1.1
 refine ti (fun a=>by omega) fun _=>tb (x_5 g1.2 _ (by omega)) fun v2 g2=>tc (by omega) (tc (by omega) ?_)
 have hn:=g1.1.at (i:=Int.toNat v2.1) (by omega)
 refine tv (x_ev hK _ hn.nsz) (tb (x_5 g2.2.2 18 (by decide)) fun v4 g4=>?_)
 have ok:=hn.sy
 obtain ⟨n1,n2,n3,n4,n5,n6,n7,n8⟩:=hn.sy
 have hnx:=hn.2.2.1.2.1
 have pk:∀ l:List Int,0<l.length→Tot (x_0 v4.2.1 l) fun r=>x_cn r.2.1:=fun l hl=>(x_ap g4.2.2 l hl).mono fun r g=>g.2
 refine ti (fun _=>tb (pk _ (by decide)) fun v g=>tr ⟨⟨hp,ok⟩,g⟩) fun _=>ti (fun _=>tb (u_l11Draw hK g4.2.2) fun v g=>tr ⟨⟨hp,g.1,ok.2⟩,g.2⟩) fun _=>ti (fun _=>tb (pk _ (by decide)) fun v g=>tr ⟨⟨hp,ok⟩,g⟩) fun _=>ti (fun _=>tb (pk _ (by decide)) fun v g=>tc (by show (0:Int)<(((v1.1.2.2.1.getD (Int.toNat v2.1) x_d2).2.2.2.2.1.length:Nat):Int);omega) (tr ⟨⟨hp,n1,n2,n3,?_,n5,n6,n7,n8⟩,g⟩)) fun _=>ti (fun _=>tb (u_l10Draw hK g4.2.2) fun v g=>tr ⟨⟨hp,n1,n2,n3,n4,n5,g.1,n7,n8⟩,g.2⟩) fun _=>ti (fun _=>tb (x_5 g4.2.2 5 (by decide)) fun v g=>tr ⟨⟨hp,ok⟩,g.2.2⟩) fun _=>ti (fun _=>tb (x_rw hK g4.2.2) fun v g=>tc (by show _≤70368744177664;(try dsimp only);(try simp only [ll_]);omega) (tr ⟨⟨hp,n1,n2,n3,n4,n5,n6,?_,fun r hr=>?_⟩,g.2⟩)) fun _=>tr ⟨⟨hp,ok⟩,g4.2.2⟩
 ·show ((v1.1.2.2.1.getD (Int.toNat v2.1) x_d2).2.2.2.2.1.set 0 _).length<_
  rw [length_set];exact n4
 ·show ((v1.1.2.2.1.getD (Int.toNat v2.1) x_d2).2.2.2.2.2.2.2.2.2++[_]).length<_
  have:=hn.2.2.2.2.2.2.1
  rw [length_append,length_singleton];omega
 ·have hr:r∈(v1.1.2.2.1.getD (Int.toNat v2.1) x_d2).2.2.2.2.2.2.2.2.2++[_]:=hr
  rw [mem_append,mem_singleton] at hr
  rcases hr with hr | rfl
  ·exact n8 r hr
  ·exact g.1
def WSy (w:x_a0):Prop:=SOk w.1∧w.2.2.1.length<2097152∧(∀ n∈w.2.2.1,NSy n)∧w.2.2.2.1.length<2097152∧(∀ r∈w.2.2.2.1,RpSz r)∧(w.2.2.2.2.1.length<2097152∧ ∀ c∈w.2.2.2.2.1,CSz c)∧w.2.2.2.2.2.1.length<2097152∧(w.2.2.2.2.2.2.1.length<2097152∧ ∀ h∈w.2.2.2.2.2.2.1,ASz h.2.2.1)∧w.2.2.2.2.2.2.2.length<2097152∧ ∀ c∈w.2.2.2.2.2.2.2,CSz c
theorem GI.sy {w:x_a0} (h:GI w):WSy w:=by
 obtain ⟨h1,h2,h3,h4,h5,h6,h7,h8,h9⟩:=h
 exact ⟨h1,by omega,fun n hn=>(h4 n hn).sy,by omega,fun r hr=>(h5.2 r hr).sz,⟨by omega,h6.2⟩,by omega,⟨by omega,h8.2⟩,by omega,h9.2⟩
theorem bv8 {x:Int} (h:0≤x∧x≤255):(BitVec.ofInt (IntKind.bits .u8) x).toNat=x.toNat:=by
 show (BitVec.ofInt 8 x).toNat=_
 rw [BitVec.toNat_ofInt]
 congr 1
 rw [Int.emod_eq_of_lt h.1]
 show x<((2 ^ 8:Nat):Int)
 omega
theorem bv64 {x:Int} (h:0≤x∧x<34359738368):(BitVec.ofInt (IntKind.bits .i64) x).toNat=x.toNat:=by
 show (BitVec.ofInt 64 x).toNat=_
 rw [BitVec.toNat_ofInt]
 congr 1
 rw [Int.emod_eq_of_lt h.1]
 show x<((2 ^ 64:Nat):Int)
 omega
theorem and127 (n:Nat):n &&& 127=n % 128:=Nat.and_two_pow_sub_one_eq_mod n 7
theorem u8_and {x:Int} (h:0≤x∧x≤255):IntKind.u8.wrap ((BitVec.ofInt (IntKind.bits .u8) x &&& BitVec.ofInt (IntKind.bits .u8) 127).toNat:Int)=x % 128:=by
 rw [BitVec.toNat_and,bv8 h,bv8 (by decide),show (127:Int).toNat=127 from rfl,and127,w8 (by omega) (by omega)]
 omega
theorem u8_or {x:Int} (h:0≤x∧x≤127):IntKind.u8.wrap ((BitVec.ofInt (IntKind.bits .u8) x ||| BitVec.ofInt (IntKind.bits .u8) 128).toNat:Int)=x+128:=by
 have e:x.toNat ||| 128=128+x.toNat:=by
  rw [Nat.or_comm]
  have:=Nat.two_pow_add_eq_or_of_lt (i:=7) (b:=x.toNat) (by omega) 1
  simpa using this.symm
 rw [BitVec.toNat_or,bv8 (by omega),bv8 (by decide),show (128:Int).toNat=128 from rfl,e,w8 (by omega) (by omega)]
 omega
theorem ban_127 {x:Int} (h:0≤x∧x<34359738368):ban x 127=x % 128:=by
 show ((BitVec.ofInt (IntKind.bits .i64) x &&& BitVec.ofInt (IntKind.bits .i64) 127).toNat:Int)=_
 rw [BitVec.toNat_and,bv64 h,bv64 (by decide),show (127:Int).toNat=127 from rfl,and127]
 omega
theorem bor_add {x d:Int} {s:Nat} (hs:s≤28) (hx:0≤x∧x<2 ^ s) (hd:0≤d∧d<128):bor x (d*2 ^ s)=x+d*2 ^ s∧0≤d*2 ^ s∧d*2 ^ s<34359738368:=by
 obtain ⟨m,rfl⟩:=Int.eq_ofNat_of_zero_le hx.1
 obtain ⟨e,rfl⟩:=Int.eq_ofNat_of_zero_le hd.1
 have hp:(2:Nat) ^ s≤2 ^ 28:=Nat.pow_le_pow_right (by decide) hs
 have hx2:m<2 ^ s:=by have:=hx.2;exact_mod_cast this
 have hde:((e:Int)*2 ^ s)=((2 ^ s*e:Nat):Int):=by push_cast;rw [Int.mul_comm]
 have hle:2 ^ s*e<34359738368:=by
  have:2 ^ s*e≤2 ^ 28*127:=Nat.mul_le_mul hp (by omega)
  omega
 have hm:m<34359738368:=by omega
 refine ⟨?_,by rw [hde];omega,by rw [hde];omega⟩
 show ((BitVec.ofInt (IntKind.bits .i64) (m:Int) ||| BitVec.ofInt (IntKind.bits .i64) ((e:Int)*2 ^ s)).toNat:Int)=_
 rw [hde,BitVec.toNat_or,bv64 (by omega),bv64 (by omega),Int.toNat_natCast,Int.toNat_natCast,Nat.or_comm, ←Nat.two_pow_add_eq_or_of_lt hx2]
 push_cast;omega
theorem x_us {K:Nat} (hK:2097152≤K) (n:Int):Tot (x_c5 K n) fun x=>x.1=encN n:=by
 unfold x_c5 x_c5.b encN
 refine tb (x_2 _ _ _) fun v1 g1=>tg g1 (fun a=>tr (by rw [if_neg a])) fun a=>?_
 rw [if_pos a]
 refine l2_ (L:=x_c5.l0 K n) (fun _ _ _=>rfl) (fun m x q=>0≤x∧x≤2147483647∧q.length+m≤100∧q++x_f1 x.toNat=x_f1 n.toNat∧x.toNat<128 ^ m) (fun m x q L' hi kk=>?_) (m:=5) (by omega) ⟨a.1,a.2,by simp,rfl,by omega⟩
 obtain ⟨h0,h1,hm,he,hp⟩:=hi
 unfold x_c5.l0b
 refine ti (fun h2=>?_) fun h2=>?_
 ·have hm0:0<m:=by
   rcases Nat.eq_zero_or_pos m with h | h
   ·subst h;simp at hp;omega
   ·exact h
  rw [ban_127 (by omega),w6 (n:=x % 128) (by omega) (by omega),w8 (n:=x % 128) (by omega) (by omega),u8_or (by omega)]
  have ed:Int.fdiv x (2 ^ 7)=x / 128:=by rw [Int.fdiv_eq_ediv_of_nonneg _ (by decide)];rfl
  rw [ed]
  refine tc (by show _≤70368744177664;(try dsimp only);(try simp only [ll_]);omega) (kk (m-1) _ _ (by omega) ⟨by omega,by omega,by simp;omega,?_,?_⟩)
  ·rw [←he,List.append_assoc]
   congr 1
   conv=>rhs;rw [x_f1]
   rw [if_neg (by omega)]
   have e1:(x / 128).toNat=x.toNat / 128:=by omega
   have e2:x % 128+128=((x.toNat % 128+128:Nat):Int):=by omega
   rw [e1,e2];rfl
  ·obtain ⟨m,rfl⟩ : ∃ k,m=k+1:=⟨m-1,by omega⟩
   rw [Nat.pow_succ] at hp
   have e1:(x / 128).toNat=x.toNat / 128:=by omega
   rw [e1,Nat.add_sub_cancel]
   omega
 ·rw [w8 (by omega) (by omega)]
  refine tc (by show _≤70368744177664;(try dsimp only);(try simp only [ll_]);omega) (tr ?_)
  show q++[x]=_
  rw [←he]
  congr 1
  rw [x_f1,if_pos (by omega),show ((x.toNat:Nat):Int)=x by omega]
theorem x_uc {K:Nat} (hK:2097152≤K) (l:List Int) (h:l.length<200000):Tot (x_fo K l) fun x=>x.1=x_kq l:=by
 unfold x_fo x_fo.b
 refine l2_ (L:=x_fo.l0 K l) (fun _ _ _=>rfl) (fun m q x=> ∃ i:Nat,x=i∧i+m=l.length∧q=(l.take i).flatMap encN∧q.length≤5*i) (fun m q x L' hi kk=>?_) (m:=l.length) (by omega) ⟨0,rfl,by omega,rfl,by simp⟩
 obtain ⟨i,rfl,hm,rfl,hq⟩:=hi
 unfold x_fo.l0b
 rw [Int.toNat_natCast]
 refine ti (fun h1=>tc (by omega) (tc h1 ?_)) fun h1=>tr ?_
 ·have hi:i<l.length:=by omega
  have he:=(x_dr (l.getD i 0)).2
  refine tv (x_us hK _) (tc (by show _≤70368744177664;(try dsimp only);(try simp only [ll_]);omega) ?_)
  rw [w6 (by omega) (by omega)]
  exact kk (m-1) _ _ (by omega) ⟨i+1,by push_cast;rfl,by omega,x_ja hi,by show (_++encN (l.getD i 0)).length≤_;rw [length_append];omega⟩
 ·rw [List.take_of_length_le (show l.length≤i by omega)];rfl
theorem x_l8 {K:Nat} (hK:2097152≤K) (s:ByteArray) (h:s.size<200000):Tot (x_h5 K s) fun x=>x.1=encT s:=by
 unfold x_h5
 have h1:=(x_dr s.size).2
 have k:=(x_fy s).2
 exact tv (x_us hK _) (tc (by show _≤70368744177664;(try dsimp only);(try simp only [ll_]);omega) (tr rfl))
theorem x_l0 {l:List (List Int)} {i:Nat}:((l.take i).flatMap fun x=>x).length≤(l.flatMap fun x=>x).length:=by
 conv=>rhs;rw [←List.take_append_drop i l,List.flatMap_append,length_append]
 omega
theorem x_p5 {K:Nat} (hK:2097152≤K) (l:List (List Int)) (h:l.length<2000000) (hs:(l.flatMap fun x=>x).length<2000000):Tot (x_ah K l) fun x=>x.1=l.flatMap fun x=>x:=by
 unfold x_ah x_ah.b
 refine l2_ (L:=x_ah.l0 K l) (b:=fun L'=>x_ah.l0b K l L' (x_ah.l1 K l K)) (fun _ _ _=>rfl) (fun m x q=> ∃ i:Nat,q=i∧i+m=l.length∧x=(((l.take i).flatMap fun x=>x).length:Int)) (fun m x q L' hi kk=>?_) (m:=l.length) (by omega) ⟨0,rfl,by omega,rfl⟩
 obtain ⟨i,rfl,hm,rfl⟩:=hi
 unfold x_ah.l0b
 rw [Int.toNat_natCast]
 have fl:∀ j,j<l.length→((l.take j).flatMap fun x=>x).length+(l.getD j []).length≤(l.flatMap fun x=>x).length∧((l.take j).flatMap fun x=>x)++l.getD j []=(l.take (j+1)).flatMap fun x=>x:=fun j hj=>by
  have e:=x_ja (f:=fun x:List Int=>x) (z:=([]:List Int)) hj
  refine ⟨?_,e⟩
  have:=congrArg List.length e
  rw [length_append] at this
  have:=x_l0 (l:=l) (i:=j+1)
  omega
 refine ti (fun h1=>tc (by omega) (tc h1 ?_)) fun h1=>?_
 ·have hi:i<l.length:=by omega
  obtain ⟨f1,f2⟩:=fl i hi
  rw [w6 (by omega) (by omega)]
  refine ti (fun a=>by omega) fun _=>?_
  rw [w6 (by omega) (by omega)]
  exact kk (m-1) _ _ (by omega) ⟨i+1,by push_cast;rfl,by omega,by rw [←f2,length_append];push_cast;rfl⟩
 ·have hll:=x_l0 (l:=l) (i:=i)
  refine tv (a:=[]) ?_ ?_
  ·unfold x_x8
   refine ti (fun a=>by omega) fun _=>?_
   rw [w6 (by omega) (by omega)]
   refine ti (fun a=>tc (by omega) (tc (by show _≤70368744177664;simp only [length_replicate,length_nil];omega) (tc (by omega) (tr ?_)))) fun _=>tr rfl
   simp
  ·refine l2_ (L:=x_ah.l1 K l) (fun _ _ _=>rfl) (fun m q x=> ∃ i:Nat,x=i∧i+m=l.length∧q=(l.take i).flatMap fun x=>x) (fun m q x L' hi kk=>?_) (m:=l.length) (by omega) ⟨0,rfl,by omega,rfl⟩
   obtain ⟨i,rfl,hm,rfl⟩:=hi
   unfold x_ah.l1b
   rw [Int.toNat_natCast]
   refine ti (fun h1=>tc (by omega) (tc h1 ?_)) fun h1=>tr ?_
   ·obtain ⟨f1,f2⟩:=fl i (by omega)
    refine tc (by show _≤70368744177664;omega) ?_
    rw [w6 (by omega) (by omega)]
    exact kk (m-1) _ _ (by omega) ⟨i+1,by push_cast;rfl,by omega,f2⟩
   ·rw [List.take_of_length_le (show l.length≤i by omega)]
theorem x_vi {K:Nat} (hK:2097152≤K) (c:TCmd) (h:CSz c):Tot (x_jn K c) fun x=>(COk c→x.1=encC c)∧(¬ COk c→x.1=[]):=by
 unfold x_jn
 refine tb (x_me hK c h) fun v g=>tg g (fun a=>tr ⟨fun k=>absurd k a,fun _=>rfl⟩) fun a=>?_
 have hw:=a.who
 have h1:=(x_gd [c.1+1,c.2.1,c.2.2.1,c.2.2.2.1,c.2.2.2.2.1,c.2.2.2.2.2.1]).2
 have h2:=(x_hh c.2.2.2.2.2.2.1).2
 have h3:=(x_hh c.2.2.2.2.2.2.2).2
 have h4:=a.tx
 simp only [length_cons,length_nil] at h1
 rw [w6 (n:=c.1+1) (by omega) (by omega)]
 refine tv (x_uc hK _ (by simp)) (tv (x_l8 hK _ (by omega)) (tv (x_l8 hK _ (by omega)) ?_))
 refine tv (x_p5 hK _ (by simp) (by simp only [List.flatMap_cons,List.flatMap_nil,length_append,length_nil];omega)) (tr ⟨fun _=>?_,fun k=>absurd a k⟩)
 unfold encC
 simp only [List.flatMap_cons,List.flatMap_nil,List.append_nil,List.append_assoc]
theorem x_tx (l:List Int) (x:Int):sumL (l++[x])=(((sumL l).1+x) % 65521,((sumL l).2+((sumL l).1+x) % 65521) % 65521):=by
 unfold sumL
 rw [List.foldl_append];rfl
theorem ti_SumOf {K:Nat} (hK:2097152≤K) (l:List Int) (h:l.length<200000) (hb:BOk l):Tot (x_ek K l) fun x=>x.1=(sumL l).2*65536+(sumL l).1:=by
 unfold x_ek x_ek.b
 refine l3_ (L:=x_ek.l0 K l) (fun _ _ _ _=>rfl) (fun m x y q=> ∃ i:Nat,q=i∧i+m=l.length∧x=(sumL (l.take i)).1∧y=(sumL (l.take i)).2) (fun m x y q L' hi kk=>?_) (m:=l.length) (by omega) ⟨0,rfl,by omega,rfl,rfl⟩
 obtain ⟨i,rfl,hm,rfl,rfl⟩:=hi
 unfold x_ek.l0b
 rw [Int.toNat_natCast]
 have hx:=x_qs (l.take i) fun x hx=>hb x (List.mem_of_mem_take hx)
 refine ti (fun h1=>tc (by omega) (tc h1 ?_)) fun h1=>tr ?_
 ·have hi:i<l.length:=by omega
  have hd:=hb _ (x_ae (z:=(0:Int)) hi)
  have e:=x_tx (l.take i) (l.getD i 0)
  rw [x_dz hi] at e
  rw [w6 (n:=l.getD i 0) (by omega) (by omega),w6 (n:=(sumL (l.take i)).1+l.getD i 0) (by omega) (by omega),Int.tmod_eq_emod_of_nonneg (by omega),w6 (n:=(sumL (l.take i)).2+((sumL (l.take i)).1+l.getD i 0) % 65521) (by omega) (by omega),Int.tmod_eq_emod_of_nonneg (by omega),w6 (n:=(i:Int)+1) (by omega) (by omega)]
  exact kk (m-1) _ _ _ (by omega) ⟨i+1,by push_cast;rfl,by omega,by rw [e],by rw [e]⟩
 ·rw [List.take_of_length_le (show l.length≤i by omega)] at hx ⊢
  show i6 (i6 ((sumL l).2*65536)+(sumL l).1)=_
  rw [w6 (n:=(sumL l).2*65536) (by omega) (by omega),w6 (by omega) (by omega)]
theorem cf_note {K:Nat} (hK:2097152≤K) (l:List x_cf) (h:EsSz l):Tot (x_b2 K l) fun x=>Is (!x.1) (∀ i,i<l.length→(0≤(l.getD i x_at).1∧(l.getD i x_at).1≤300)∧COk (l.getD i x_at).2):=by
 obtain ⟨hl,hz⟩:=h
 unfold x_b2 x_r x_r.b
 let P:Nat→Prop:=fun i=>(0≤(l.getD i x_at).1∧(l.getD i x_at).1≤300)∧COk (l.getD i x_at).2
 have:Tot (x_r.l0 K l K 0) fun x=>Srch x.1 (∀ i,i<l.length→P i):=by
  refine tA (L:=x_r.l0 K l) (fun _ _=>rfl) l.length P (fun i L' hi k ha=>?_) (fun L' ha=>?_) (by omega)
  ·unfold x_r.l0b x_mh
   rw [Int.toNat_natCast,w6 (n:=(i:Int)+1) (by omega) (by omega)]
   refine ti (fun h1=>tc (by omega) (tc h1 ?_)) fun h1=>absurd (show (i:Int)<((l.length:Nat):Int) by omega) h1
   refine tb (Q:=fun v=>Is v.1 (¬ P i)) (tb (x_2 _ _ _) fun v1 g1=>tg g1 (fun a=>tr (x_d7 fun h=>a h.1)) fun a1=>tb (x_me hK _ (hz _ (x_ae hi))) fun v2 g2=>tr ?_) fun v g=>?_
   ·exact ⟨fun h hp=>(Is.neg g2).1 h hp.2,fun h=>(Is.neg g2).2 fun h2=>h ⟨a1,h2⟩⟩
   exact tf g (fun a1=>tr ⟨fun _ h2=>a1 (h2 i hi),fun h2=>by omega⟩) fun a1=>k (Classical.not_not.1 a1)
  ·unfold x_r.l0b
   exact ti (fun h1=>absurd h1 (by omega)) fun h1=>tr ⟨fun h2=>absurd (show (0:Int)≤ -1 from h2) (by decide),fun _=>ha⟩
 exact tb this fun v g=>tr g.is
theorem x_o4 {K:Nat} (hK:2097152≤K) (r:x_cw) (h:EsSz r.2.2.2.2.1):Tot (x_j3 K r) fun x=>Is x.1 (NtOk r):=by
 unfold x_j3
 refine tb (x_2 _ _ _) fun v1 g1=>tg g1 (fun a=>tr (x_a fun h=>a h.1)) fun a1=>?_
 refine tb (x_2 _ _ _) fun v2 g2=>tg g2 (fun a=>tr (x_a fun h=>a h.2.1)) fun a2=>?_
 refine ti (fun a=>tr (x_a fun h=>by have:=h.2.2.1.2;omega)) fun a3=>ti (fun a=>tr (x_a fun h=>by have:=h.2.2.2.1;omega)) fun a4=>?_
 refine tb (cf_note hK _ h) fun v3 g3=>tf (Is.not g3) (fun a=>tr (x_a fun h=>a h.2.2.1.1)) fun a5=>?_
 have a5:=Classical.not_not.1 a5
 have hl:EsOk r.2.2.2.2.1 300:=⟨a5,by omega⟩
 have kind:∀ {q:Prop},NtOk r→((r.1=1∧(-1≤r.2.2.1∧r.2.2.1≤4)∧r.2.2.2.1=0∧r.2.2.2.2.1=[]∧r.2.2.2.2.2=ByteArray.empty)∨(r.1=2∧r.2.2.1=0∧r.2.2.2.2.2=ByteArray.empty)∨(r.1=3∧r.2.2.1=0∧r.2.2.2.2.1=[])→q)→q:=fun h k=>k h.2.2.2.2
 have e0:∀ {l:List x_cf},(l.length:Int)=0↔l=[]:=fun {l} =>⟨fun h=>List.length_eq_zero_iff.1 (by omega),fun h=>by rw [h];rfl⟩
 refine ti (fun k1=>?_) fun k1=>ti (fun k2=>?_) fun k2=>ti (fun k3=>?_) fun k3=>tr (x_a fun h=>kind h fun h=>by rcases h with h | h | h<;>omega)
 ·refine tb (x_2 _ _ _) fun v4 g4=>tf g4 (fun b1=>?_) fun a=>tr (x_a fun h=>kind h fun h=>by rcases h with h | h | h;exact a h.2.1;omega;omega)
  refine ti (fun b2=>ti (fun b3=>tr ?_) fun a=>tr (x_a fun h=>kind h fun h=>by rcases h with h | h | h;exact a (e0.2 h.2.2.2.1);omega;omega)) fun a=>tr (x_a fun h=>kind h fun h=>by rcases h with h | h | h;exact a h.2.2.1;omega;omega)
  exact ⟨fun h=>⟨a1,a2,hl,by omega, .inl ⟨k1,b1,b2,e0.1 b3,(x_l7 _).1 h⟩⟩,fun h=>(x_l7 _).2 (kind h fun h=>by rcases h with h | h | h;exact h.2.2.2.2;omega;omega)⟩
 ·refine ti (fun b1=>tr ?_) fun a=>tr (x_a fun h=>kind h fun h=>by rcases h with h | h | h;omega;exact a h.2.1;omega)
  exact ⟨fun h=>⟨a1,a2,hl,by omega, .inr (.inl ⟨k2,b1,(x_l7 _).1 h⟩)⟩,fun h=>(x_l7 _).2 (kind h fun h=>by rcases h with h | h | h;omega;exact h.2.2;omega)⟩
 ·refine ti (fun b1=>tr ?_) fun a=>tr (x_a fun h=>kind h fun h=>by rcases h with h | h | h;omega;omega;exact a h.2.1)
  exact ⟨fun h=>⟨a1,a2,hl,by omega, .inr (.inr ⟨k3,b1,e0.1 (of_decide_eq_true h)⟩)⟩,fun h=>decide_eq_true (e0.2 (kind h fun h=>by rcases h with h | h | h;omega;omega;exact h.2.2))⟩
theorem fsh {x:Int} (h:0≤x) (k:Nat):Int.fdiv x (2 ^ k)=x / 2 ^ k:=Int.fdiv_eq_ediv_of_nonneg _ (Int.le_of_lt (Int.pow_pos (by decide)))
theorem u8_mod {x:Int} (h:0≤x∧x<4294967296):IntKind.u8.wrap x=x % 256:=by
 simp only [IntKind.wrap,IntKind.bits,IntKind.signed]
 simp
theorem x_uq {a b:Int} (ha:0≤a∧a<65521) (hb:0≤b∧b<65521):[IntKind.u8.wrap (b*65536+a),IntKind.u8.wrap ((b*65536+a) / 256),IntKind.u8.wrap ((b*65536+a) / 65536),IntKind.u8.wrap ((b*65536+a) / 16777216)]=[a % 256,a / 256,b % 256,b / 256]:=by
 rw [u8_mod (by omega),u8_mod (by omega),u8_mod (by omega),u8_mod (by omega)]
 have e1:(b*65536+a) % 256=a % 256:=by omega
 have e2:(b*65536+a) / 256 % 256=a / 256:=by omega
 have e3:(b*65536+a) / 65536 % 256=b % 256:=by omega
 have e4:(b*65536+a) / 16777216 % 256=b / 256:=by omega
 rw [e1,e2,e3,e4]
theorem x_sn {K:Nat} (hK:2097152≤K) (r:x_cw) (h:EsSz r.2.2.2.2.1):Tot (x_a8 K r) fun x=>(NtOk r→x.1=noteB r)∧(¬ NtOk r→x.1=[]):=by
 unfold x_a8 x_a8.b
 refine tb (x_o4 hK r h) fun v1 g1=>tg g1 (fun a=>tr ⟨fun k=>absurd k a,fun _=>rfl⟩) fun a=>?_
 have hk:0≤r.1∧r.1≤3:=by rcases a.2.2.2.2 with h | h | h<;>omega
 have hv : -1≤r.2.2.1∧r.2.2.1≤4:=by rcases a.2.2.2.2 with h | h | h<;>omega
 have hl:=a.2.2.1.2
 have hc:=a.2.2.1.cok
 have hs:=a.2.2.2.1
 rw [w6 (n:=r.2.2.1+1) (by omega) (by omega)]
 refine tb (x_uc hK _ (by simp)) fun v2 g2=>?_
 have h0:=(x_gd [r.1,r.2.1,r.2.2.1+1,r.2.2.2.1,(r.2.2.2.2.1.length:Int)]).2
 simp only [length_cons,length_nil] at h0
 refine l2_ (L:=x_a8.l0 K r) (fun _ _ _=>rfl) (fun m q x=> ∃ i:Nat,x=i∧i+m=r.2.2.2.2.1.length∧q.1=x_kq [r.1,r.2.1,r.2.2.1+1,r.2.2.2.1,(r.2.2.2.2.1.length:Int)]++(r.2.2.2.2.1.take i).flatMap encE) (fun m q x L' hi kk=>?_) (m:=r.2.2.2.2.1.length) (by omega) ⟨0,rfl,by omega,by rw [g2];simp⟩
 obtain ⟨i,rfl,hm,hq⟩:=hi
 have ht:=(x_ot (l:=r.2.2.2.2.1.take i) fun e he=>hc e (List.mem_of_mem_take he)).2
 rw [length_take] at ht
 unfold x_a8.l0b
 rw [Int.toNat_natCast]
 refine ti (fun h1=>tc (by omega) (tc h1 ?_)) fun h1=>?_
 ·have hi:i<r.2.2.2.2.1.length:=by omega
  have hci:=hc _ (x_ae (z:=x_at) hi)
  have he:=(x_gd [(r.2.2.2.2.1.getD i x_at).1]).2
  have hb:=(x_v3 hci).2
  simp only [length_cons,length_nil] at he
  refine tv (x_uc hK _ (by simp)) (tb (x_vi hK _ (h.2 _ (x_ae hi))) fun v4 g4=>?_)
  have g4:=g4.1 hci
  refine tb (x_p5 hK _ (by simp) (by simp only [List.flatMap_cons,List.flatMap_nil,length_append,length_nil,hq,g4];omega)) fun v5 g5=>?_
  rw [w6 (by omega) (by omega)]
  refine kk (m-1) _ _ (by omega) ⟨i+1,by push_cast;rfl,by omega,?_⟩
  rw [g5, ←x_ja (f:=encE) (z:=x_at) hi]
  simp only [List.flatMap_cons,List.flatMap_nil,List.append_nil,hq,g4,List.append_assoc]
  unfold encE x_kq
  simp only [List.flatMap_cons,List.flatMap_nil,List.append_nil]
 ·have hz:=(x_hh r.2.2.2.2.2).2
  rw [List.take_of_length_le (show r.2.2.2.2.1.length≤i by omega)] at hq
  have hB:q.1++encT r.2.2.2.2.2=x_ej r:=by
   rw [hq]
   unfold x_ej x_kq
   simp only [List.flatMap_cons,List.flatMap_nil,List.append_nil,List.append_assoc]
  have hbo:=x_rb a
  have hbl:=hbo.2
  refine tv (x_l8 hK _ (by omega)) (tc (by show (q.1.length+(encT r.2.2.2.2.2).length)*2≤70368744177664;have:=congrArg List.length hB;rw [length_append] at this;omega) ?_)
  dsimp only
  rw [hB]
  have hin:=x_qs (x_ej r) hbo.1
  refine tv (ti_SumOf hK _ (by omega) hbo.1) (tv (x_uc hK _ (by simp)) ?_)
  have hn:=(x_gd [((x_ej r).length:Int)]).2
  simp only [length_cons,length_nil] at hn
  refine tv (x_p5 hK _ (by simp) (by simp only [List.flatMap_cons,List.flatMap_nil,length_append,length_nil,length_cons];omega)) (tr ⟨fun _=>?_,fun k=>absurd a k⟩)
  dsimp only
  rw [fsh (by omega),fsh (by omega),fsh (by omega)]
  have e:=x_uq hin.1 hin.2
  unfold noteB sum4
  rw [←e]
  unfold x_kq
  simp only [List.flatMap_cons,List.flatMap_nil,List.append_nil,List.append_assoc]
  rfl
def GN (b:List Int) (a:Int) (o:Int×Int×Bool×Unit):Prop:=match decN (b.drop a.toNat) with
 | some q=>o=(q.1,(b.length:Int)-(q.2.length:Int),true,())
 | none=>o=(0,0,false,())
def GJ (b:List Int) (a k v:Nat):Prop:=v<2 ^ (7*k)∧decF 5 true (b.drop a)=(decF (5-k) (decide (k=0)) (b.drop (a+k))).map fun r=>(v+2 ^ (7*k)*r.1,r.2)
theorem GJ.zero (b:List Int) (a:Nat):GJ b a 0 0:=by
 refine ⟨by decide,?_⟩
 show decF 5 true (b.drop a)=(decF 5 true (b.drop (a+0))).map _
 rw [Nat.add_zero]
 cases decF 5 true (b.drop a) with
 | none=>rfl
 | some r=>simp
theorem GN.no {b:List Int} {a:Int} (h:decN (b.drop a.toNat)=none):GN b a (0,0,false,()):=by
 unfold GN;rw [h]
theorem GJ.fin {b:List Int} {a k v:Nat} (h:GJ b a k v) (hk:5≤k∨b.length≤a+k):GN b (a:Int) (0,0,false,()):=by
 refine GN.no ?_
 unfold decN
 rw [Int.toNat_natCast,h.2]
 have:decF (5-k) (decide (k=0)) (b.drop (a+k))=none:=by
  rcases hk with hk | hk
  ·rw [show 5-k=0 by omega];rfl
  ·rw [List.drop_of_length_le hk]
   cases 5-k<;>rfl
 rw [this];rfl
theorem dropc {b:List Int} {n:Nat} (h:n<b.length):b.drop n=b.getD n 0::b.drop (n+1):=by
 rw [x_aw h];exact List.drop_eq_getElem_cons h
theorem GJ.at {b:List Int} {a k v:Nat} (h:GJ b a k v) (hk:k<5) (hl:a+k<b.length) (hx:b.getD (a+k) 0<128):decN (b.drop a)=if k≠0∧b.getD (a+k) 0=0 then none else if v+2 ^ (7*k)*(b.getD (a+k) 0).toNat≤2147483647 then some (((v+2 ^ (7*k)*(b.getD (a+k) 0).toNat:Nat):Int),b.drop (a+k+1)) else none:=by
 unfold decN
 rw [h.2,dropc hl]
 obtain ⟨f,hf⟩ : ∃ f,5-k=f+1:=⟨4-k,by omega⟩
 rw [hf]
 unfold decF
 rw [if_pos hx]
 by_cases h0:k≠0∧b.getD (a+k) 0=0
 ·rw [if_pos h0,if_pos ⟨by simp [h0.1],h0.2⟩];rfl
 ·rw [if_neg h0,if_neg (fun h=>h0 ⟨by simpa using h.1,h.2⟩)];rfl
theorem GJ.yes {b:List Int} {a k v:Nat} (h:GJ b a k v) (hk:k<5) (hl:a+k<b.length) (hx:b.getD (a+k) 0<128) (h0:¬ (k≠0∧b.getD (a+k) 0=0)) {w e:Int} (hw:w=((v+2 ^ (7*k)*(b.getD (a+k) 0).toNat:Nat):Int)) (hm:w≤2147483647) (he:e=(a:Int)+(k:Int)+1):GN b (a:Int) (w,e,true,()):=by
 unfold GN
 rw [Int.toNat_natCast,h.at hk hl hx,if_neg h0,if_pos (by omega)]
 show _=(_,_,true,())
 rw [hw,he,length_drop]
 congr 2
 omega
theorem GJ.nul {b:List Int} {a k v:Nat} (h:GJ b a k v) (hk:k<5) (hl:a+k<b.length) (hx:b.getD (a+k) 0<128) (h0:k≠0∧b.getD (a+k) 0=0):GN b (a:Int) (0,0,false,()):=
 GN.no (by rw [Int.toNat_natCast,h.at hk hl hx,if_pos h0])
theorem GJ.big {b:List Int} {a k v:Nat} (h:GJ b a k v) (hk:k<5) (hl:a+k<b.length) (hx:b.getD (a+k) 0<128) (hw:2147483647<((v+2 ^ (7*k)*(b.getD (a+k) 0).toNat:Nat):Int)):GN b (a:Int) (0,0,false,()):=by
 refine GN.no ?_
 rw [Int.toNat_natCast,h.at hk hl hx]
 split
 ·rfl
 ·rw [if_neg (by omega)]
theorem GJ.step {b:List Int} {a k v:Nat} (h:GJ b a k v) (hk:k<5) (hl:a+k<b.length) (hx:128≤b.getD (a+k) 0) (hx2:b.getD (a+k) 0≤255):GJ b a (k+1) (v+2 ^ (7*k)*(b.getD (a+k) 0-128).toNat):=by
 have hp:(2:Nat) ^ (7*(k+1))=2 ^ (7*k)*128:=by rw [Nat.mul_add,Nat.pow_add]
 refine ⟨?_,?_⟩
 ·have h1:=h.1
  have:2 ^ (7*k)*(b.getD (a+k) 0-128).toNat≤2 ^ (7*k)*127:=Nat.mul_le_mul_left _ (by omega)
  rw [hp];omega
 ·rw [h.2,dropc hl]
  obtain ⟨f,hf⟩ : ∃ f,5-k=f+1:=⟨4-k,by omega⟩
  rw [hf,show 5-(k+1)=f by omega,show a+(k+1)=a+k+1 by omega,hp]
  conv=>lhs;unfold decF
  rw [if_neg (by omega),show decide (k+1=0)=false by simp,Option.map_map]
  congr 1
  funext r
  show (_,_)=(_,_)
  congr 1
  show v+2 ^ (7*k)*((b.getD (a+k) 0-128).toNat+128*r.1)=_
  rw [Nat.mul_add,Nat.mul_assoc];omega
theorem GJ.orv {v x k:Nat} (hk:k<5) (hv:v<2 ^ (7*k)) (hx:x<128):i6 (bor (v:Int) (i6 ((x:Int)*2 ^ (7*k))))=((v+2 ^ (7*k)*x:Nat):Int):=by
 obtain ⟨h1,h2,h3⟩:=bor_add (x:=(v:Int)) (d:=(x:Int)) (s:=7*k) (by omega) ⟨by omega,by exact_mod_cast hv⟩ ⟨by omega,by omega⟩
 have hv2:v<2 ^ 28:=Nat.lt_of_lt_of_le hv (Nat.pow_le_pow_right (by decide) (by omega))
 rw [w6 (n:=(x:Int)*2 ^ (7*k)) (by omega) (by omega),h1,w6 (by omega) (by omega)]
 push_cast
 rw [Int.mul_comm]
theorem x_oh {K:Nat} (hK:2097152≤K) (b:List Int) (hb:BSt b) (a:Int) (ha:0≤a∧a≤4000000):Tot (x_cy K b a) fun o=>GN b a o:=by
 obtain ⟨n,rfl⟩:=Int.eq_ofNat_of_zero_le ha.1
 have hn:n≤4000000:=by omega
 have hl:=hb.2
 unfold x_cy x_cy.b
 refine ti (fun h=>by omega) fun _=>?_
 refine l2_ (L:=x_cy.l0 K b (n:Int)) (fun _ _ _=>rfl) (fun m x q=> ∃ k v:Nat,q=(n:Int)+(k:Int)∧x=(v:Int)∧k+m=5∧GJ b n k v) (fun m x q L' hi kk=>?_) (m:=5) (by omega) ⟨0,0,by simp,rfl,rfl,GJ.zero b n⟩
 obtain ⟨k,v,rfl,rfl,hm,hg⟩:=hi
 unfold x_cy.l0b
 rw [w6 (n:=(n:Int)+5) (by omega) (by omega),w6 (n:=(n:Int)+(k:Int)-(n:Int)) (by omega) (by omega),show (n:Int)+(k:Int)-(n:Int)=(k:Int) by omega,w6 (n:=7*(k:Int)) (by omega) (by omega),show ((n:Int)+(k:Int)).toNat=n+k by omega]
 refine ti (fun h1=>ti (fun h2=>?_) fun h2=>tr (hg.fin (by omega))) fun h1=>tr (hg.fin (by omega))
 have hlt:n+k<b.length:=by omega
 have hk:k<5:=by omega
 have hd:=hb.1 _ (x_ae (z:=(0:Int)) hlt)
 rw [show min (7*(k:Int)).toNat 64=7*k by omega,u8_and hd]
 have em:b.getD (n+k) 0 % 128=(((b.getD (n+k) 0) % 128).toNat:Int):=by omega
 rw [em,w6 (n:=(((b.getD (n+k) 0) % 128).toNat:Int)) (by omega) (by omega),hg.1|>fun hv=>GJ.orv hk hv (x:=((b.getD (n+k) 0) % 128).toNat) (by omega)]
 refine tc (by omega) (tc (by omega) (tc (by omega) (tc (by omega) (tc (by omega) ?_))))
 refine ti (fun h3=>?_) fun h3=>?_
 ·have e3:((b.getD (n+k) 0) % 128).toNat=(b.getD (n+k) 0).toNat:=by omega
  rw [e3,w6 (n:=(n:Int)+(k:Int)+1) (by omega) (by omega)]
  refine ti (fun h4=>tr (hg.big hk hlt h3 (by omega))) fun h4=>ti (fun h5=>tc (by omega) (tc (by omega) ?_)) fun h5=>tr (hg.yes hk hlt h3 (fun h=>by omega) rfl (by omega) rfl)
  exact ti (fun h6=>tr (hg.nul hk hlt h3 ⟨by omega,h6⟩)) fun h6=>tr (hg.yes hk hlt h3 (fun h=>h6 h.2) rfl (by omega) rfl)
 ·have e3:((b.getD (n+k) 0) % 128).toNat=(b.getD (n+k) 0-128).toNat:=by omega
  rw [e3,w6 (n:=(n:Int)+(k:Int)+1) (by omega) (by omega)]
  exact kk (m-1) _ _ (by omega) ⟨k+1,_,by push_cast;omega,rfl,by omega,hg.step hk hlt (by omega) hd.2⟩
theorem x_om {K:Nat} (hK:2097152≤K) (b:List Int) (hb:BSt b) (a:Int) (ha:0≤a∧a≤4000000):Tot (x_bw K b a) fun o=>GN b a o:=by
 obtain ⟨n,rfl⟩:=Int.eq_ofNat_of_zero_le ha.1
 have hn:n≤4000000:=by omega
 have hl:=hb.2
 unfold x_bw x_bw.b
 refine l2_ (L:=x_bw.l0 K b (n:Int)) (fun _ _ _=>rfl) (fun m x q=> ∃ k v:Nat,q=(k:Int)∧x=(v:Int)∧k+m=5∧GJ b n k v) (fun m x q L' hi kk=>?_) (m:=5) (by omega) ⟨0,0,by simp,rfl,rfl,GJ.zero b n⟩
 obtain ⟨k,v,rfl,rfl,hm,hg⟩:=hi
 unfold x_bw.l0b
 refine ti (fun h1=>?_) fun h1=>tr (hg.fin (by omega))
 refine ti (fun h2=>by omega) fun h2=>?_
 rw [w6 (n:=((b.length:Nat):Int)-(k:Int)) (by omega) (by omega)]
 refine ti (fun h3=>tr (hg.fin (by omega))) fun h3=>?_
 have hlt:n+k<b.length:=by omega
 have hk:k<5:=by omega
 have hd:=hb.1 _ (x_ae (z:=(0:Int)) hlt)
 rw [w6 (n:=(n:Int)+(k:Int)) (by omega) (by omega),show ((n:Int)+(k:Int)).toNat=n+k by omega,w6 (n:=b.getD (n+k) 0) (by omega) (by omega),w6 (n:=7*(k:Int)) (by omega) (by omega),w6 (n:=(n:Int)+(k:Int)+1) (by omega) (by omega),show min (7*(k:Int)).toNat 64=7*k by omega,Int.tmod_eq_emod_of_nonneg hd.1]
 have em:b.getD (n+k) 0 % 128=(((b.getD (n+k) 0) % 128).toNat:Int):=by omega
 rw [em,GJ.orv hk hg.1 (x:=((b.getD (n+k) 0) % 128).toNat) (by omega)]
 refine tc (by omega) (tc (by omega) (tc (by omega) ?_))
 refine ti (fun h4=>?_) fun h4=>?_
 ·have e3:((b.getD (n+k) 0) % 128).toNat=(b.getD (n+k) 0).toNat:=by omega
  rw [e3]
  refine ti (fun h5=>ti (fun h6=>tr (hg.nul hk hlt h4 ⟨by omega,h6⟩)) fun h6=>ti (fun h7=>tr (hg.big hk hlt h4 (by omega))) fun h7=>tr (hg.yes hk hlt h4 (fun h=>h6 h.2) rfl (by omega) rfl)) fun h5=>?_
  exact ti (fun h7=>tr (hg.big hk hlt h4 (by omega))) fun h7=>tr (hg.yes hk hlt h4 (fun h=>by omega) rfl (by omega) rfl)
 ·have e3:((b.getD (n+k) 0) % 128).toNat=(b.getD (n+k) 0-128).toNat:=by omega
  rw [e3,w6 (n:=(k:Int)+1) (by omega) (by omega)]
  exact kk (m-1) _ _ (by omega) ⟨k+1,_,by push_cast;rfl,rfl,by omega,hg.step hk hlt (by omega) hd.2⟩
structure Rd {α : Type} (s:Nat) (dec:List Int→Option (α×List Int)) (b:List Int) (a0:Int) (f0:Bool) (v : α) (a1:Int) (f1:Bool):Prop where
 in_:a0≤a1∧0≤a1∧a1≤(b.length:Int)
 bad:f0=true→f1=true
 ok:f0=false→match dec (b.drop a0.toNat) with
  | some q=>f1=false∧v=q.1∧q.2=b.drop a1.toNat
  | none=>f1=true
 st:f1=false→a0+(s:Int)≤a1
theorem Rd.mono {α : Type} {s t:Nat} {dec:List Int→Option (α×List Int)} {b:List Int} {a0 a1:Int} {f0 f1:Bool} {v : α} (h:Rd s dec b a0 f0 v a1 f1) (ht:t≤s):Rd t dec b a0 f0 v a1 f1:=
 ⟨h.in_,h.bad,h.ok,fun k=>by have:=h.st k;omega⟩
theorem Rd.yes {α : Type} {s:Nat} {dec:List Int→Option (α×List Int)} {b:List Int} {a0 a1:Int} {f0:Bool} {v : α} (h:Rd s dec b a0 f0 v a1 false):f0=false∧dec (b.drop a0.toNat)=some (v,b.drop a1.toNat):=by
 have h0:f0=false:=by
  cases f0 with
  | false=>rfl
  | true=>exact bad' (h.bad rfl).symm
 refine ⟨h0,?_⟩
 have:=h.ok h0
 split at this
 ·rename_i q hq
  obtain ⟨_,h1,h2⟩:=this
  rw [hq,h1, ←h2]
 ·cases this
theorem Rd.of_some {α : Type} {s:Nat} {dec:List Int→Option (α×List Int)} {b:List Int} {a0 a1:Int} {f1:Bool} {v : α} {q : α×List Int} (h:Rd s dec b a0 false v a1 f1) (hq:dec (b.drop a0.toNat)=some q):f1=false∧v=q.1∧q.2=b.drop a1.toNat:=by
 have:=h.ok rfl
 rw [hq] at this
 exact this
theorem Rd.pr {α β : Type} {s t:Nat} {c:List Int→Option (α×List Int)} {d:List Int→Option (β×List Int)} {b:List Int} {a0 a1 a2:Int} {f0 f1 f2:Bool} {v : α} {w : β} (h:Rd s c b a0 f0 v a1 f1) (k:Rd t d b a1 f1 w a2 f2) :
  Rd (s+t) (fun l=>(c l).bind fun r=>(d r.2).map fun s=>((r.1,s.1),s.2)) b a0 f0 (v,w) a2 f2:=by
 refine ⟨⟨Int.le_trans h.in_.1 k.in_.1,k.in_.2⟩,fun h0=>k.bad (h.bad h0),fun h0=>?_,fun h2=>?_⟩
 ·have h1:=h.ok h0
  cases hc:c (b.drop a0.toNat) with
  | none=>rw [hc] at h1;exact k.bad h1
  | some q=>
   rw [hc] at h1
   obtain ⟨e1,e2,e3⟩:=h1
   have h2:=k.ok e1
   rw [←e3] at h2
   simp only [Option.bind_some]
   cases hd:d q.2 with
   | none=>rw [hd] at h2;exact h2
   | some s=>
    rw [hd] at h2
    obtain ⟨g1,g2,g3⟩:=h2
    exact ⟨g1,by rw [e2,g2],g3⟩
 ·have h1:f1=false:=by
   cases f1 with
   | false=>rfl
   | true=>rw [k.bad rfl] at h2;exact bad' h2
  have:=h.st h1
  have:=k.st h2
  push_cast
  omega
theorem Rd.map {α β : Type} {s:Nat} {c:List Int→Option (α×List Int)} {b:List Int} {a0 a1:Int} {f0 f1:Bool} {v : α} (f : α→β) (h:Rd s c b a0 f0 v a1 f1):Rd s (fun l=>(c l).map fun r=>(f r.1,r.2)) b a0 f0 (f v) a1 f1:=by
 refine ⟨h.in_,h.bad,fun h0=>?_,h.st⟩
 have h1:=h.ok h0
 cases hc:c (b.drop a0.toNat) with
 | none=>rw [hc] at h1;exact h1
 | some q=>
  rw [hc] at h1
  obtain ⟨e1,e2,e3⟩:=h1
  exact ⟨e1,by rw [e2],e3⟩
theorem x_p0 {α : Type} {d:List Int→Option (α×List Int)}:∀ (n:Nat) (l:List Int),decR d (n+1) l=(decR d n l).bind fun r=>(d r.2).map fun s=>(r.1++[s.1],s.2)
 | 0,l=>by
  show (d l).bind _=_
  cases h:d l with
  | none=>simp [decR,h]
  | some q=>simp [decR,h]
 | n+1,l=>by
  show (d l).bind (fun r=>(decR d (n+1) r.2).map fun s=>(r.1::s.1,s.2))=((d l).bind fun r=>(decR d n r.2).map fun s=>(r.1::s.1,s.2)).bind _
  cases h:d l with
  | none=>rfl
  | some q=>
   simp only [Option.bind_some]
   rw [x_p0 n q.2]
   cases h2:decR d n q.2 with
   | none=>rfl
   | some r=>
    simp only [Option.bind_some,Option.map_some]
    cases h3:d r.2 with
    | none=>rfl
    | some s=>rfl
theorem x_up {α : Type} {d:List Int→Option (α×List Int)} {n:Nat} {l:List Int} (h:decR d n l=none):∀ k,decR d (n+k) l=none
 | 0=>h
 | k+1=>by
  show decR d (n+k+1) l=none
  rw [x_p0,x_up h k];rfl
theorem Rd.nil {α : Type} {d:List Int→Option (α×List Int)} {b:List Int} {a:Int} {f:Bool} (ha:0≤a∧a≤(b.length:Int)):Rd 0 (decR d 0) b a f ([]:List α) a f:=
 ⟨⟨Int.le_refl _,ha⟩,id,fun h=>⟨h,rfl,rfl⟩,fun _=>by simp⟩
theorem Rd.snoc {α : Type} {s t n:Nat} {d:List Int→Option (α×List Int)} {b:List Int} {a0 a1 a2:Int} {f0 f1 f2:Bool} {xs:List α} {x : α} (h:Rd s (decR d n) b a0 f0 xs a1 f1) (k:Rd t d b a1 f1 x a2 f2):Rd (s+t) (decR d (n+1)) b a0 f0 (xs++[x]) a2 f2:=by
 have:=(h.pr k).map fun z=>z.1++[z.2]
 have e:(fun l=>((decR d n l).bind fun r=>(d r.2).map fun s=>((r.1,s.1),s.2)).map fun r:(List α×α)×List Int=>(r.1.1++[r.1.2],r.2))=decR d (n+1):=by
  funext l
  rw [x_p0]
  cases decR d n l with
  | none=>rfl
  | some r=>
   simp only [Option.bind_some]
   cases d r.2<;>rfl
 rwa [←e]
theorem Rd.stop {α : Type} {s n m:Nat} {d:List Int→Option (α×List Int)} {b:List Int} {a0 a1:Int} {f0:Bool} {xs:List α} (h:Rd s (decR d n) b a0 f0 xs a1 true) (hm:n≤m):Rd 0 (decR d m) b a0 f0 xs a1 true:=by
 refine ⟨h.in_,h.bad,fun h0=>?_,fun k=>bad' k⟩
 have h1:=h.ok h0
 have:decR d n (b.drop a0.toNat)=none:=by
  split at h1
  ·exact bad' h1.1
  ·assumption
 have h2:=x_up this (m-n)
 rw [show n+(m-n)=m by omega] at h2
 rw [h2]
def CB (b:List Int) (r:List Int×Int×Bool):Prop:=r.1=b∧0≤r.2.1∧r.2.1≤(b.length:Int)
theorem x_gb {C X Y β : Type} (cur:C→List Int×Int×Bool) (fl:Bool→Bool) (W:Y→List X→Prop) {dec:List Int→Option (X×List Int)} {b:List Int} (hb:b.length≤2000000) {n:Int} {L:Nat→Int→C→Y→Option β} {B:(Int→C→Y→Option β)→Int→C→Y→Option β}
  (hL:∀ k x c y,L (k+1) x c y=B (L k) x c y) {Q : β→Prop} (c0:C) (h0:CB b (cur c0)) {y0:Y} (hw0:W y0 [])
  (step:∀ (L':Int→C→Y→Option β) (i:Nat) (c:C) (y:Y) (xs:List X),W y xs→CB b (cur c)→(i:Int)<n→fl (cur c).2.2=false→i≤2000000→xs.length≤2000000→
   (∀ (c':C) (y':Y) (x:X),W y' (xs++[x])→(cur c').1=b→Rd 1 dec b (cur c).2.1 (fl (cur c).2.2) x (cur c').2.1 (fl (cur c').2.2)→Tot (L' ((i:Int)+1) c' y') Q)→Tot (B L' (i:Int) c y) Q)
  (fin:∀ (L':Int→C→Y→Option β) (i:Nat) (c:C) (y:Y) (xs:List X),W y xs→xs.length≤2000001→CB b (cur c)→((i:Int)<n→fl (cur c).2.2=true)→Rd 0 (decR dec n.toNat) b (cur c0).2.1 (fl (cur c0).2.2) xs (cur c).2.1 (fl (cur c).2.2)→Tot (B L' (i:Int) c y) Q)
  {k:Nat} (hk:2000002≤k):Tot (L k 0 c0 y0) Q:=by
 refine l3_ (L:=L) (b:=B) hL (fun m x c y=> ∃ (i:Nat) (xs:List X),W y xs∧(xs.length=i∧i≤2000001)∧x=i∧CB b (cur c)∧Rd i (decR dec i) b (cur c0).2.1 (fl (cur c0).2.2) xs (cur c).2.1 (fl (cur c).2.2)∧(i:Int)≤max n 0∧(m:Int)=if fl (cur c).2.2=true then 0 else (b.length:Int)-(cur c).2.1+1) (fun m x c y L' hi kk=>?_)
  (m:=(if fl (cur c0).2.2=true then 0 else (b.length:Int)-(cur c0).2.1+1).toNat) (by have:=h0.2;split<;>omega) ⟨0,[],hw0,⟨rfl,by omega⟩,rfl,h0,Rd.nil h0.2,by omega,by have:=h0.2;split<;>omega⟩
 obtain ⟨i,xs,hw,⟨hxl,hil⟩,rfl,hc,hr,hi,hm⟩:=hi
 cases hfl:fl (cur c).2.2 with
 | true=>
  rw [hfl] at hr
  refine fin L' i c y xs hw (by omega) hc (fun _=>hfl) ?_
  rw [hfl]
  exact hr.stop (by omega)
 | false=>
  rw [hfl] at hr hm
  simp only [Bool.false_eq_true,if_false] at hm
  have h1:=hr.st rfl
  have h2:=h0.2.1
  have h3:=hc.2.2
  by_cases h:(i:Int)<n
  ·refine step L' i c y xs hw hc h hfl (by omega) (by omega) fun c' y' x hw' hb' hx=>?_
   rw [hfl] at hx
   have hs:=hr.snoc hx
   have hcb:CB b (cur c'):=⟨hb',hs.in_.2⟩
   have hmono:=hx.in_.1
   cases hfl':fl (cur c').2.2 with
   | true=>exact kk 0 _ _ _ (by omega) ⟨i+1,_,hw',⟨by simp [hxl],by omega⟩,by push_cast;rfl,hcb,hs,by omega,by simp [hfl']⟩
   | false=>
    have h4:=hx.st hfl'
    have h5:=hcb.2.2
    exact kk ((b.length:Int)-(cur c').2.1+1).toNat _ _ _ (by omega) ⟨i+1,_,hw',⟨by simp [hxl],by omega⟩,by push_cast;rfl,hcb,hs,by omega,by rw [hfl'];simp only [Bool.false_eq_true,if_false];omega⟩
  ·refine fin L' i c y xs hw (by omega) hc (fun h'=>by omega) ?_
   rw [hfl]
   have:n.toNat=i:=by omega
   rw [this]
   exact hr.mono (Nat.zero_le _)
theorem suf {b p r:List Int} {a:Nat} (ha:a≤b.length) (h:b.drop a=p++r):r=b.drop (b.length-r.length)∧a+p.length+r.length=b.length:=by
 have hl:=congrArg List.length h
 rw [length_drop,length_append] at hl
 have e:b=b.take a++(p++r):=by rw [←h,List.take_append_drop]
 refine ⟨?_,by omega⟩
 conv=>rhs;rw [e]
 rw [←List.append_assoc,List.drop_left']
 rw [length_append,length_take]
 simp only [length_append,length_take]
 omega
theorem encN_pos {n:Int} (h:0≤n∧n≤2147483647):1≤(encN n).length:=by
 unfold encN
 rw [if_pos h,x_f1]
 split<;>simp
theorem BOk.drop {b:List Int} (h:BOk b) (n:Nat):BOk (b.drop n):=fun x hx=>h x (List.mem_of_mem_drop hx)
theorem GN.rd {b:List Int} (hb:BSt b) {a:Int} (ha:0≤a∧a≤(b.length:Int)) {o:Int×Int×Bool×Unit} (h:GN b a o):(o.2.2.1=true→Rd 1 decN b a false o.1 o.2.1 false∧0≤o.1∧o.1≤2147483647)∧(o.2.2.1=false→o=(0,0,false,())∧decN (b.drop a.toNat)=none):=by
 unfold GN at h
 split at h
 ·rename_i q hq
  subst h
  obtain ⟨h1,h2⟩:=x_n3 (n:=q.1) (r:=q.2) (hb.1.drop _) hq
  obtain ⟨h3,h4⟩:=suf (by omega) h1
  have h5:=encN_pos h2
  refine ⟨fun _=>⟨⟨?_,fun h=>bad h,fun _=>?_,fun _=>?_⟩,h2⟩,fun h=>bad' h⟩
  ·show a≤(b.length:Int)-_∧0≤(b.length:Int)-_∧(b.length:Int)-_≤_
   omega
  ·rw [hq]
   refine ⟨rfl,rfl,?_⟩
   show q.2=b.drop ((b.length:Int)-(q.2.length:Int)).toNat
   rw [show ((b.length:Int)-(q.2.length:Int)).toNat=b.length-q.2.length by omega]
   exact h3
  ·show a+((1:Nat):Int)≤(b.length:Int)-_
   omega
 ·rename_i hq
  subst h
  exact ⟨fun h=>bad h,fun _=>⟨rfl,hq⟩⟩
theorem Rd.fail {α : Type} {s:Nat} {dec:List Int→Option (α×List Int)} {b:List Int} {a:Int} {f:Bool} {v : α} (ha:0≤a∧a≤(b.length:Int)) (h:f=false→dec (b.drop a.toNat)=none):Rd s dec b a f v a true:=
 ⟨⟨Int.le_refl _,ha⟩,fun _=>rfl,fun h0=>by rw [h h0],fun h=>bad' h⟩
def RO {α : Type} (s:Nat) (fl:Bool→Bool) (dec:List Int→Option (α×List Int)) (b:List Int) (r:List Int×Int×Bool) (o : α×(List Int×Int×Bool)×Unit):Prop:=o.2.1.1=b∧Rd s dec b r.2.1 (fl r.2.2) o.1 o.2.1.2.1 (fl o.2.1.2.2)
theorem RO.cb {α : Type} {s:Nat} {fl:Bool→Bool} {dec:List Int→Option (α×List Int)} {b:List Int} {r:List Int×Int×Bool} {o : α×(List Int×Int×Bool)×Unit} (h:RO s fl dec b r o):CB b o.2.1:=⟨h.1,h.2.in_.2⟩
theorem x_dp {K:Nat} (hK:2097152≤K) {b:List Int} (hb:BSt b) (r:x_g) (h:CB b r):Tot (x_y K r) fun o=>RO 1 id decN b r o∧0≤o.1∧o.1≤2147483647:=by
 obtain ⟨b',a,f⟩:=r
 obtain ⟨h1,h2⟩:=h
 simp only at h1 h2
 subst h1
 have hl:=hb.2
 unfold x_y
 refine tb (x_oh hK b' hb a (by omega)) fun v g=>?_
 have g:=g.rd hb h2
 refine tB (fun e=>tr ⟨⟨rfl,?_⟩,by show (0:Int)≤0∧(0:Int)≤_;decide⟩) fun e=>tN (fun e2=>tr ⟨⟨rfl,?_⟩,by show (0:Int)≤0∧(0:Int)≤_;decide⟩) fun e2=>tr ⟨⟨rfl,?_⟩,(g.1 e2).2⟩
 ·exact Rd.fail h2 fun h=>by have e:f=true:=e;have h:f=false:=h;rw [e] at h;exact bad' h
 ·exact Rd.fail h2 fun _=>(g.2 e2).2
 ·have e:f=false:=e
  subst e
  exact (g.1 e2).1
theorem x_do {K:Nat} (hK:2097152≤K) {b:List Int} (hb:BSt b) (r:x_g) (h:CB b r):Tot (x_bk K r) fun o=>RO 1 Bool.not decN b r o∧0≤o.1∧o.1≤2147483647:=by
 obtain ⟨b',a,f⟩:=r
 obtain ⟨h1,h2⟩:=h
 simp only at h1 h2
 subst h1
 have hl:=hb.2
 unfold x_bk
 refine tb (x_om hK b' hb a (by omega)) fun v g=>?_
 have g:=g.rd hb h2
 refine tN (fun e2=>tr ⟨⟨rfl,?_⟩,by show (0:Int)≤0∧(0:Int)≤_;decide⟩) fun e2=>tN (fun e=>tr ⟨⟨rfl,?_⟩,by show (0:Int)≤0∧(0:Int)≤_;decide⟩) fun e=>tr ⟨⟨rfl,?_⟩,(g.1 e2).2⟩
 ·exact Rd.fail h2 fun _=>(g.2 e2).2
 ·exact Rd.fail h2 fun h=>by have e:f=false:=e;have h:(!f)=false:=h;rw [e] at h;exact bad' h
 ·have e:f=true:=e
  subst e
  exact (g.1 e2).1
def GT (b:List Int) (a:Int) (o:ByteArray×Int×Bool×Unit):Prop:=(o.2.2.1=true→Rd 1 decT b a false o.1 o.2.1 false)∧(o.2.2.1=false→decT (b.drop a.toNat)=none)∧o.1.size≤b.length
theorem gt_of {b:List Int} (hb:BSt b) {a:Int} (ha:0≤a∧a≤(b.length:Int)) {v:Int×Int×Bool×Unit} (g:GN b a v):(v.2.2.1=false→GT b a (ByteArray.empty,0,false,()))∧(v.2.2.1=true→((b.length:Int)-v.2.1<v.1→GT b a (ByteArray.empty,0,false,()))∧
  (v.1≤(b.length:Int)-v.2.1→0≤v.2.1∧0≤v.1∧v.1≤2147483647∧v.2.1≤(b.length:Int)∧GT b a (x_jp ((b.take (v.2.1+v.1).toNat).drop v.2.1.toNat),v.2.1+v.1,true,()))):=by
 have g:=g.rd hb ha
 have e0:ByteArray.empty.size=0:=rfl
 refine ⟨fun h=>⟨fun h=>bad h,fun _=>?_,by show ByteArray.empty.size≤_;omega⟩,fun h=>?_⟩
 ·unfold decT;rw [(g.2 h).2];rfl
 obtain ⟨h1,h2,h3⟩:=g.1 h
 have hi:=h1.in_
 have hd:=h1.yes.2
 refine ⟨fun h4=>⟨fun h=>bad h,fun _=>?_,by show ByteArray.empty.size≤_;omega⟩,fun h4=>⟨hi.2.1,h2,h3,hi.2.2,fun _=>⟨?_,fun h=>bad h,fun _=>?_,fun _=>?_⟩,fun h=>bad' h,?_⟩⟩
 ·unfold decT
  rw [hd]
  simp only [Option.bind_some]
  rw [if_neg]
  rw [length_drop];omega
 ·show a≤v.2.1+v.1∧0≤v.2.1+v.1∧v.2.1+v.1≤_
  omega
 ·unfold decT
  rw [hd]
  simp only [Option.bind_some]
  rw [if_pos (by rw [length_drop];omega)]
  refine ⟨by trivial,?_,?_⟩
  ·show x_jp _=x_jp _
   congr 1
   rw [List.drop_take]
   congr 1
   omega
  ·show (b.drop v.2.1.toNat).drop v.1.toNat=b.drop (v.2.1+v.1).toNat
   rw [List.drop_drop]
   congr 1
   omega
 ·have:=h1.st rfl
  show a+((1:Nat):Int)≤v.2.1+v.1
  omega
 ·show (x_jp _).size≤_
  rw [←x_lj,x_jk,length_map,length_drop,length_take]
  omega
theorem x_xo {K:Nat} (hK:2097152≤K) (b:List Int) (hb:BSt b) (a:Int) (ha:0≤a∧a≤(b.length:Int)):Tot (x_lc K b a) fun o=>GT b a o:=by
 have hl:=hb.2
 unfold x_lc
 refine tb (x_oh hK b hb a (by omega)) fun v g=>?_
 obtain ⟨g1,g2⟩:=gt_of hb ha g
 have g3:=g.rd hb ha
 refine tN (fun e=>tr (g1 e)) fun e=>?_
 have hi:=(g3.1 e).1.in_
 have hv:=(g3.1 e).2
 rw [w6 (n:=((b.length:Nat):Int)-v.2.1) (by omega) (by omega),w6 (n:=v.2.1+v.1) (by omega) (by omega)]
 refine ti (fun h=>tr ((g2 e).1 (by omega))) fun h=>?_
 obtain ⟨k1,k2,k3,k4,k5⟩:=(g2 e).2 (by omega)
 exact tc rfl (tc (by omega) (tc (by omega) (tc (by omega) (tr k5))))
theorem x_wj {K:Nat} (hK:2097152≤K) (b:List Int) (hb:BSt b) (a:Int) (ha:0≤a∧a≤(b.length:Int)):Tot (x_if K b a) fun o=>GT b a o:=by
 have hl:=hb.2
 unfold x_if
 refine tb (x_om hK b hb a (by omega)) fun v g=>?_
 obtain ⟨g1,g2⟩:=gt_of hb ha g
 have g3:=g.rd hb ha
 refine tN (fun e=>tr (g1 e)) fun e=>?_
 have hi:=(g3.1 e).1.in_
 have hv:=(g3.1 e).2
 rw [w6 (n:=((b.length:Nat):Int)-v.2.1) (by omega) (by omega),w6 (n:=v.2.1+v.1) (by omega) (by omega)]
 refine ti (fun h=>tr ((g2 e).1 (by omega))) fun h=>?_
 obtain ⟨k1,k2,k3,k4,k5⟩:=(g2 e).2 (by omega)
 exact tc rfl (tc (by omega) (tc (by omega) (tc (by omega) (tr k5))))
theorem x_l9 {K:Nat} (hK:2097152≤K) {b:List Int} (hb:BSt b) (r:x_g) (h:CB b r):Tot (x_cq K r) fun o=>RO 1 id decT b r o∧o.1.size≤b.length:=by
 obtain ⟨b',a,f⟩:=r
 obtain ⟨h1,h2⟩:=h
 simp only at h1 h2
 subst h1
 have e0:ByteArray.empty.size=0:=rfl
 unfold x_cq
 refine tb (x_xo hK b' hb a h2) fun v g=>?_
 refine tB (fun e=>tr ⟨⟨rfl,?_⟩,by show ByteArray.empty.size≤_;omega⟩) fun e=>tN (fun e2=>tr ⟨⟨rfl,?_⟩,by show ByteArray.empty.size≤_;omega⟩) fun e2=>tr ⟨⟨rfl,?_⟩,g.2.2⟩
 ·exact Rd.fail h2 fun h=>by have e:f=true:=e;have h:f=false:=h;rw [e] at h;exact bad' h
 ·exact Rd.fail h2 fun _=>g.2.1 e2
 ·have e:f=false:=e
  subst e
  exact g.1 e2
theorem x_m6 {K:Nat} (hK:2097152≤K) {b:List Int} (hb:BSt b) (r:x_g) (h:CB b r):Tot (x_ed K r) fun o=>RO 1 Bool.not decT b r o∧o.1.size≤b.length:=by
 obtain ⟨b',a,f⟩:=r
 obtain ⟨h1,h2⟩:=h
 simp only at h1 h2
 subst h1
 have e0:ByteArray.empty.size=0:=rfl
 unfold x_ed
 refine tb (x_wj hK b' hb a h2) fun v g=>?_
 refine tN (fun e2=>tr ⟨⟨rfl,?_⟩,by show ByteArray.empty.size≤_;omega⟩) fun e2=>tN (fun e=>tr ⟨⟨rfl,?_⟩,by show ByteArray.empty.size≤_;omega⟩) fun e=>tr ⟨⟨rfl,?_⟩,g.2.2⟩
 ·exact Rd.fail h2 fun _=>g.2.1 e2
 ·exact Rd.fail h2 fun h=>by have e:f=false:=e;have h:(!f)=false:=h;rw [e] at h;exact bad' h
 ·have e:f=true:=e
  subst e
  exact g.1 e2
open Classical in
noncomputable def flt {α : Type} (d:List Int→Option (α×List Int)) (P : α→Prop) (l:List Int):Option (α×List Int):=(d l).bind fun q=>if P q.1 then some q else none
def prD {α β : Type} (c:List Int→Option (α×List Int)) (d:List Int→Option (β×List Int)) (l:List Int):Option ((α×β)×List Int):=(c l).bind fun r=>(d r.2).map fun s=>((r.1,s.1),s.2)
noncomputable def x_gk {α : Type} (d:List Int→Option (α×List Int)) (l:List Int):Option (List α×List Int):=(decN l).bind fun r=>decR d r.1.toNat r.2
open Classical in
theorem Rd.flt {α : Type} {s:Nat} {d:List Int→Option (α×List Int)} {b:List Int} {a0 a1:Int} {f0 f1:Bool} {v : α} (h:Rd s d b a0 f0 v a1 f1) (P : α→Prop) {f2:Bool} (h2:f1=true→f2=true) (h3:f1=false→(f2=false↔P v)):Rd s (flt d P) b a0 f0 v a1 f2:=by
 refine ⟨h.in_,fun h0=>h2 (h.bad h0),fun h0=>?_,fun k=>?_⟩
 ·have h1:=h.ok h0
  change match (d (b.drop a0.toNat)).bind (fun q=>if P q.1 then some q else none) with | some q=>f2=false∧v=q.1∧q.2=b.drop a1.toNat | none=>f2=true
  cases hd:d (b.drop a0.toNat) with
  | none=>rw [hd] at h1;exact h2 h1
  | some q=>
   rw [hd] at h1
   obtain ⟨e1,e2,e3⟩:=h1
   simp only [Option.bind_some]
   by_cases hp:P q.1
   ·rw [if_pos hp]
    exact ⟨(h3 e1).2 (by rw [e2];exact hp),e2,e3⟩
   ·rw [if_neg hp]
    cases hf:f2 with
    | true=>rfl
    | false=>exact absurd (by rw [←e2];exact (h3 e1).1 hf) hp
 ·have:f1=false:=by
   cases f1 with
   | false=>rfl
   | true=>rw [h2 rfl] at k;cases k
  exact h.st this
theorem Rd.list {α : Type} {s t:Nat} {d:List Int→Option (α×List Int)} {b:List Int} {a0 a1 a2:Int} {f0 f1 f2:Bool} {n:Int} {xs:List α} (h:Rd s decN b a0 f0 n a1 f1) (k:Rd t (decR d n.toNat) b a1 f1 xs a2 f2):Rd s (x_gk d) b a0 f0 xs a2 f2:=by
 refine ⟨⟨Int.le_trans h.in_.1 k.in_.1,k.in_.2⟩,fun h0=>k.bad (h.bad h0),fun h0=>?_,fun h2=>?_⟩
 ·have h1:=h.ok h0
  unfold x_gk
  cases hc:decN (b.drop a0.toNat) with
  | none=>rw [hc] at h1;exact k.bad h1
  | some q=>
   rw [hc] at h1
   obtain ⟨e1,e2,e3⟩:=h1
   have h2:=k.ok e1
   rw [←e3,e2] at h2
   simp only [Option.bind_some]
   exact h2
 ·have h1:f1=false:=by
   cases f1 with
   | false=>rfl
   | true=>rw [k.bad rfl] at h2;cases h2
  have:=h.st h1
  have:=k.in_.1
  omega
theorem ti_cmd {K:Nat} (hK:2097152≤K) {b:List Int} (hb:BSt b) (r:x_g) (h:CB b r):Tot (x_g3 K r) fun o=>RO 8 id (flt cC.dec COk) b r o∧CSz o.1:=by
 have hl:=hb.2
 unfold x_g3
 refine tb (x_dp hK hb r h) fun v1 g1=>tb (x_dp hK hb _ g1.1.cb) fun v2 g2=>tb (x_dp hK hb _ g2.1.cb) fun v3 g3=>tb (x_dp hK hb _ g3.1.cb) fun v4 g4=>tb (x_dp hK hb _ g4.1.cb) fun v5 g5=>tb (x_dp hK hb _ g5.1.cb) fun v6 g6=>tb (x_l9 hK hb _ g6.1.cb) fun v7 g7=>tb (x_l9 hK hb _ g7.1.cb) fun v8 g8=>?_
 rw [w6 (n:=v1.1-1) (by omega) (by omega)]
 have e:Rd 8 cC.dec b r.2.1 r.2.2 (v1.1-1,v2.1,v3.1,v4.1,v5.1,v6.1,v7.1,v8.1) v8.2.1.2.1 v8.2.1.2.2:=((g1.1.2.map (fun n=>n-1)).pr (g2.1.2.pr (g3.1.2.pr (g4.1.2.pr (g5.1.2.pr (g6.1.2.pr (g7.1.2.pr g8.1.2)))))))
 have hs:CSz (v1.1-1,v2.1,v3.1,v4.1,v5.1,v6.1,v7.1,v8.1):=⟨by show v7.1.size<_;have:=g7.2;omega,by show v8.1.size<_;have:=g8.2;omega⟩
 refine tB (fun e1=>tr ⟨⟨g8.1.1,?_⟩,hs⟩) fun e1=>tb (x_me hK _ hs) fun v9 g9=>tr ⟨⟨g8.1.1,?_⟩,hs⟩
 ·exact e.flt COk (fun _=>rfl) fun h=>by rw [e1] at h;cases h
 ·refine e.flt COk (fun h=>by rw [e1] at h;cases h) fun _=>?_
  show (!v9.1)=false↔_
  cases hv:v9.1 with
  | true=>exact ⟨fun _=>g9.1 hv,fun _=>rfl⟩
  | false=>exact ⟨fun h=>bad' h,fun h=>by rw [g9.2 h] at hv;cases hv⟩
theorem t2_cmd {K:Nat} (hK:2097152≤K) {b:List Int} (hb:BSt b) (r:x_g) (h:CB b r):Tot (x_of K r) fun o=>RO 8 Bool.not cC.dec b r o∧CSz o.1:=by
 have hl:=hb.2
 unfold x_of
 refine tb (x_do hK hb r h) fun v1 g1=>tb (x_do hK hb _ g1.1.cb) fun v2 g2=>tb (x_do hK hb _ g2.1.cb) fun v3 g3=>tb (x_do hK hb _ g3.1.cb) fun v4 g4=>tb (x_do hK hb _ g4.1.cb) fun v5 g5=>tb (x_do hK hb _ g5.1.cb) fun v6 g6=>tb (x_m6 hK hb _ g6.1.cb) fun v7 g7=>tb (x_m6 hK hb _ g7.1.cb) fun v8 g8=>tr ?_
 rw [w6 (n:=v1.1-1) (by omega) (by omega)]
 have e:Rd 8 cC.dec b r.2.1 (!r.2.2) (v1.1-1,v2.1,v3.1,v4.1,v5.1,v6.1,v7.1,v8.1) v8.2.1.2.1 (!v8.2.1.2.2):=((g1.1.2.map (fun n=>n-1)).pr (g2.1.2.pr (g3.1.2.pr (g4.1.2.pr (g5.1.2.pr (g6.1.2.pr (g7.1.2.pr g8.1.2)))))))
 exact ⟨⟨g8.1.1,e⟩,by show v7.1.size<_;have:=g7.2;omega,by show v8.1.size<_;have:=g8.2;omega⟩
noncomputable def dEp:List Int→Option (x_cf×List Int):=prD decN (flt cC.dec COk)
theorem ti_eachE {K:Nat} (hK:2097152≤K) {b:List Int} (hb:BSt b) (r:x_g) (h:CB b r) (k1 k2 k3 k4:Int) (s:ByteArray):Tot (x_q K r (k1,k2,k3,k4,[],s)) fun o=> ∃ xs:List x_cf,o.2.1=(k1,k2,k3,k4,xs,s)∧EsSz xs∧RO 1 id (x_gk dEp) b r (xs,o.1,()):=by
 have hl:=hb.2
 unfold x_q x_q.b
 refine tb (x_dp hK hb r h) fun v1 g1=>?_
 refine x_gb (C:=x_g×Unit) (fun c=>c.1) id (fun (y:x_cw) xs=>y=(k1,k2,k3,k4,xs,s)∧ ∀ x∈xs,CSz x.2) (dec:=dEp) hl (n:=v1.1) (L:=fun k x c y=>x_q.l0 K r (k1,k2,k3,k4,[],s) k v1 x c y)
  (B:=fun L' x c y=>x_q.l0b K r (k1,k2,k3,k4,[],s) (fun _ x c y=>L' x c y) v1 x c y) (fun _ _ _ _=>rfl) v1.2 g1.1.cb ⟨rfl,fun x h=>by simp at h⟩ (fun L' i c y xs hw hc hi hf hi2 hx kk=>?_) (fun L' i c y xs hw hxl hc hi hr=>?_) (by omega)
 ·obtain ⟨rfl,hw⟩:=hw
  unfold x_q.l0b x_mm
  refine ti (fun _=>tN (fun _=>?_) fun e=>by rw [show c.1.2.2=false from hf] at e;cases e) fun h=>absurd hi h
  refine tb (Q:=fun o=> ∃ x:x_cf,o.1=(k1,k2,k3,k4,xs++[x],s)∧CSz x.2∧RO 1 id dEp b c.1 (x,o.2)) (tb (x_dp hK hb _ hc) fun w1 e1=>tb (ti_cmd hK hb _ e1.1.cb) fun w2 e2=>tc (by show _≤70368744177664;(try dsimp only);(try simp only [ll_]);omega) (tr ⟨(w1.1,w2.1),rfl,e2.2,e2.1.1,?_⟩)) fun w e=>?_
  ·have:=(e1.1.2.pr e2.1.2).mono (t:=1) (by omega)
   exact this
  ·obtain ⟨x,e1,e2,e3⟩:=e
   rw [w6 (by omega) (by omega)]
   exact kk w.2 w.1 x ⟨e1,fun z hz=>(mem_append.1 hz).elim (hw z) fun hz=>by rw [mem_singleton.1 hz];exact e2⟩ e3.1 e3.2
 ·obtain ⟨rfl,hw⟩:=hw
  unfold x_q.l0b
  have fin:Tot (some (c.1,(k1,k2,k3,k4,xs,s),())) fun o=> ∃ xs:List x_cf,o.2.1=(k1,k2,k3,k4,xs,s)∧EsSz xs∧RO 1 id (x_gk dEp) b r (xs,o.1,()):=tr ⟨xs,rfl,⟨by omega,hw⟩,hc.1,g1.1.2.list hr⟩
  refine ti (fun h1=>tN (fun e=>by rw [show c.1.2.2=true from hi h1] at e;cases e) fun _=>fin) fun _=>fin
theorem flt_iff {α : Type} {d:List Int→Option (α×List Int)} {P : α→Prop} {l:List Int} {q : α×List Int}:flt d P l=some q↔d l=some q∧P q.1:=by
 unfold flt
 cases d l with
 | none=>simp
 | some x=>
  simp only [Option.bind_some]
  constructor
  ·intro h
   split at h
   ·rename_i hp
    simp only [Option.some.injEq] at h
    subst h
    exact ⟨rfl,hp⟩
   ·cases h
  ·rintro ⟨h,hp⟩
   simp only [Option.some.injEq] at h
   subst h
   rw [if_pos hp]
theorem prD_r {α β : Type} {c:List Int→Option (α×List Int)} {d e:List Int→Option (β×List Int)} {P : β→Prop} (h:∀ l q,d l=some q↔e l=some q∧P q.1) (l:List Int) (q:(α×β)×List Int):prD c d l=some q↔prD c e l=some q∧P q.1.2:=by
 unfold prD
 simp only [Option.bind_eq_some_iff,Option.map_eq_some_iff]
 constructor
 ·rintro ⟨r,h1,s,h2,rfl⟩
  exact ⟨⟨r,h1,s,((h _ _).1 h2).1,rfl⟩,((h _ _).1 h2).2⟩
 ·rintro ⟨⟨r,h1,s,h2,rfl⟩,hp⟩
  exact ⟨r,h1,s,(h _ _).2 ⟨h2,hp⟩,rfl⟩
theorem prD_l {α β : Type} {c:List Int→Option (α×List Int)} {d e:List Int→Option (β×List Int)} {P : β→Prop} (h:∀ l q,d l=some q↔e l=some q∧P q.1) (l:List Int) (q:(β×α)×List Int):prD d c l=some q↔prD e c l=some q∧P q.1.1:=by
 unfold prD
 simp only [Option.bind_eq_some_iff,Option.map_eq_some_iff]
 constructor
 ·rintro ⟨r,h1,s,h2,rfl⟩
  exact ⟨⟨r,((h _ _).1 h1).1,s,h2,rfl⟩,((h _ _).1 h1).2⟩
 ·rintro ⟨⟨r,h1,s,h2,rfl⟩,hp⟩
  exact ⟨r,(h _ _).2 ⟨h1,hp⟩,s,h2,rfl⟩
theorem decR_P {α : Type} {d e:List Int→Option (α×List Int)} {P : α→Prop} (h:∀ l q,d l=some q↔e l=some q∧P q.1):∀ (n:Nat) (l:List Int) (q:List α×List Int),decR d n l=some q↔decR e n l=some q∧ ∀ x∈q.1,P x
 | 0,l,q=>by
  simp only [decR,Option.some.injEq]
  constructor
  ·rintro rfl;exact ⟨rfl,fun x hx=>by simp at hx⟩
  ·rintro ⟨rfl,_⟩;rfl
 | n+1,l,q=>by
  simp only [decR,Option.bind_eq_some_iff,Option.map_eq_some_iff]
  constructor
  ·rintro ⟨r,h1,s,h2,rfl⟩
   have h1:=(h _ _).1 h1
   have h2:=(decR_P h n _ _).1 h2
   exact ⟨⟨r,h1.1,s,h2.1,rfl⟩,fun x hx=>by
    rcases mem_cons.1 hx with rfl | hx
    ·exact h1.2
    ·exact h2.2 x hx⟩
  ·rintro ⟨⟨r,h1,s,h2,rfl⟩,hp⟩
   exact ⟨r,(h _ _).2 ⟨h1,hp _ (by simp)⟩,s,(decR_P h n _ _).2 ⟨h2,fun x hx=>hp x (by simp [hx])⟩,rfl⟩
theorem listD_P {α : Type} {d e:List Int→Option (α×List Int)} {P : α→Prop} (h:∀ l q,d l=some q↔e l=some q∧P q.1) (l:List Int) (q:List α×List Int):x_gk d l=some q↔x_gk e l=some q∧ ∀ x∈q.1,P x:=by
 unfold x_gk
 cases decN l with
 | none=>simp
 | some r=>exact decR_P h _ _ _
noncomputable def decM (l:List Int):Option (Int×List Int):=(decN l).map fun r=>(r.1-1,r.2)
noncomputable def dNp (dl:List Int→Option (List x_cf×List Int)):List Int→Option (x_cw×List Int):=prD decN (prD decN (prD decM (prD decN (prD dl decT))))
theorem cNote_dec:x_ni.dec=dNp (x_gk cE.dec):=rfl
theorem dNp_iff (l:List Int) (q:x_cw×List Int):dNp (x_gk dEp) l=some q↔x_ni.dec l=some q∧ ∀ e∈q.1.2.2.2.2.1,COk e.2:=by
 rw [cNote_dec]
 have h0:∀ l q,dEp l=some q↔cE.dec l=some q∧COk q.1.2:=fun l q=>prD_r (c:=decN) (fun l q=>flt_iff) l q
 have h1:=listD_P (d:=dEp) (e:=cE.dec) (P:=fun x:x_cf=>COk x.2) h0
 have h2:=prD_l (c:=decT) (d:=x_gk dEp) (e:=x_gk cE.dec) (P:=fun y:List x_cf=> ∀ x∈y,COk x.2) h1
 have h3:=prD_r (c:=decN) (d:=prD (x_gk dEp) decT) (e:=prD (x_gk cE.dec) decT) (P:=fun y:List x_cf×ByteArray=> ∀ x∈y.1,COk x.2) h2
 have h4:=prD_r (c:=decM) (d:=prD decN (prD (x_gk dEp) decT)) (e:=prD decN (prD (x_gk cE.dec) decT)) (P:=fun y:Int×List x_cf×ByteArray=> ∀ x∈y.2.1,COk x.2) h3
 have h5:=prD_r (c:=decN) (d:=prD decM (prD decN (prD (x_gk dEp) decT))) (e:=prD decM (prD decN (prD (x_gk cE.dec) decT))) (P:=fun y:Int×Int×List x_cf×ByteArray=> ∀ x∈y.2.2.1,COk x.2) h4
 exact prD_r (c:=decN) (d:=prD decN (prD decM (prD decN (prD (x_gk dEp) decT)))) (e:=prD decN (prD decM (prD decN (prD (x_gk cE.dec) decT)))) (P:=fun y:Int×Int×Int×List x_cf×ByteArray=> ∀ x∈y.2.2.2.1,COk x.2) h5 l q
theorem ti_noteIn {K:Nat} (hK:2097152≤K) {b:List Int} (hb:BSt b):Tot (x_o1 K b) fun o=>(o.2.1=true→x_ni.dec b=some (o.1,[])∧NtOk o.1)∧(∀ x,x_ni.dec b=some (x,[])→NtOk x→o.2.1=true∧o.1=x)∧EsSz o.1.2.2.2.2.1:=by
 have hl:=hb.2
 unfold x_o1
 have h0:CB b ((b,0,false):x_g):=⟨rfl,Int.le_refl _,by show (0:Int)≤_;omega⟩
 refine tb (x_dp hK hb _ h0) fun v1 g1=>tb (x_dp hK hb _ g1.1.cb) fun v2 g2=>tb (x_dp hK hb _ g2.1.cb) fun v3 g3=>tb (x_dp hK hb _ g3.1.cb) fun v4 g4=>?_
 rw [w6 (n:=v3.1-1) (by omega) (by omega)]
 refine tb (ti_eachE hK hb _ g4.1.cb _ _ _ _ _) fun v5 g5=>?_
 obtain ⟨xs,hx,hz,g5⟩:=g5
 refine tb (x_l9 hK hb _ g5.cb) fun v6 g6=>?_
 rw [hx]
 have e:Rd 0 (dNp (x_gk dEp)) b 0 false (v1.1,v2.1,v3.1-1,v4.1,xs,v6.1) v6.2.1.2.1 v6.2.1.2.2:=(g1.1.2.pr (g2.1.2.pr ((g3.1.2.map (fun n=>n-1)).pr (g4.1.2.pr (g5.2.pr g6.1.2))))).mono (Nat.zero_le _)
 have hin:=e.in_
 have no:∀ {f:Bool},f=false→(∀ x,x_ni.dec b=some (x,[])→NtOk x→False)→Tot (some ((v1.1,v2.1,v3.1-1,v4.1,xs,v6.1),f,())) fun o=>(o.2.1=true→x_ni.dec b=some (o.1,[])∧NtOk o.1)∧(∀ x,x_ni.dec b=some (x,[])→NtOk x→o.2.1=true∧o.1=x)∧EsSz o.1.2.2.2.2.1:=fun hf h=>tr ⟨fun k=>by rw [show _=false from hf] at k;exact bad k,fun x h1 h2=>(h x h1 h2).elim,hz⟩
 have back:∀ x,x_ni.dec b=some (x,[])→NtOk x→v6.2.1.2.2=false∧v6.2.1.2.1=(b.length:Int)∧(v1.1,v2.1,v3.1-1,v4.1,xs,v6.1)=x:=fun x h1 h2=>by
  obtain ⟨k1,k2,k3⟩:=e.of_some (q:=(x,[])) ((dNp_iff b (x,[])).2 ⟨h1,h2.2.2.1.cok⟩)
  refine ⟨k1,?_,k2⟩
  have:=congrArg List.length k3
  rw [length_drop] at this
  simp only [length_nil] at this
  omega
 refine tN (fun e1=>?_) fun e1=>no rfl fun x h1 h2=>by rw [(back x h1 h2).1] at e1;exact bad e1
 refine ti (fun e2=>tb (x_o4 hK _ hz) fun v7 g7=>?_) fun e2=>no rfl fun x h1 h2=>e2 (back x h1 h2).2.1
 rw [e1] at e
 have hd:=(dNp_iff _ _).1 e.yes.2
 refine tr ⟨fun k=>⟨?_,g7.1 k⟩,fun x h1 h2=>⟨g7.2 (by rw [(back x h1 h2).2.2];exact h2),(back x h1 h2).2.2⟩,hz⟩
 have:=hd.1
 rw [e2] at this
 rw [show b.drop (0:Int).toNat=b from rfl,show ((b.length:Nat):Int).toNat=b.length by omega,List.drop_length] at this
 exact this
theorem x_px {a b:List Int} (ha:BOk a) (hb:BOk b) (h:(x_jp a).data.toList=(x_jp b).data.toList):a=b:=by
 have:=ba_ext h
 rw [←x_ga ha, ←x_ga hb,this]
def NOP (b:List Int) (a:Int) (o:x_cw×Int×Bool×Unit):Prop:=match x_ff (b.drop a.toNat) with
 | some q=>o=(q.1,(b.length:Int)-(q.2.length:Int),true,())
 | none=>o=((0,0,0,0,[],ByteArray.empty),0,false,())
theorem x_t2 {b:List Int} (hb:BSt b) {a:Int} (ha:0≤a∧a≤(b.length:Int)) {v:Int×Int×Bool×Unit} (g:GN b a v):(v.2.2.1=false→x_ff (b.drop a.toNat)=none)∧(v.2.2.1=true→(0≤v.1∧v.1≤2147483647)∧(a≤v.2.1∧v.2.1≤(b.length:Int))∧b.drop a.toNat=encN v.1++b.drop v.2.1.toNat∧decN (b.drop a.toNat)=some (v.1,b.drop v.2.1.toNat)∧(a:Int)+(encN v.1).length=v.2.1):=by
 have g:=g.rd hb ha
 refine ⟨fun h=>by unfold x_ff;rw [(g.2 h).2];rfl,fun h=>?_⟩
 obtain ⟨h1,h2⟩:=g.1 h
 have hd:=h1.yes.2
 obtain ⟨h3,_⟩:=x_n3 (n:=v.1) (r:=b.drop v.2.1.toNat) (hb.1.drop _) hd
 have hi:=h1.in_
 refine ⟨h2,⟨hi.1,hi.2.2⟩,h3,hd,?_⟩
 have:=congrArg List.length h3
 rw [length_append,length_drop,length_drop] at this
 omega
theorem bodyOf {b:List Int} {n s:Int} (h:0≤s∧0≤n):(b.take (s+n).toNat).drop s.toNat=(b.drop s.toNat).take n.toNat:=by
 rw [List.drop_take]
 congr 1
 omega
theorem BOk.take {b:List Int} (h:BOk b) (n:Nat):BOk (b.take n):=fun x hx=>h x (List.mem_of_mem_take hx)
theorem ti_NoteOf {K:Nat} (hK:2097152≤K) (b:List Int) (hb:BSt b) (a:Int) (ha:0≤a∧a≤(b.length:Int)):Tot (x_pu K b a) fun o=>NOP b a o:=by
 have hl:=hb.2
 have no:x_ff (b.drop a.toNat)=none→Tot (some (((0,0,0,0,[],ByteArray.empty):x_cw),(0:Int),false,())) fun o=>NOP b a o:=fun h=>tr (by unfold NOP;rw [h])
 unfold x_pu
 refine tb (x_oh hK b hb a (by omega)) fun v g=>?_
 obtain ⟨g1,g2⟩:=x_t2 hb ha g
 refine tN (fun e=>no (g1 e)) fun e=>?_
 obtain ⟨hv,hf,hs,hd,hlen⟩:=g2 e
 rw [w6 (n:=((b.length:Nat):Int)-v.2.1) (by omega) (by omega),w6 (n:=((b.length:Nat):Int)-v.2.1-4) (by omega) (by omega),w6 (n:=v.2.1+v.1) (by omega) (by omega)]
 refine ti (fun h=>no ?_) fun h=>?_
 ·unfold x_ff
  rw [hd]
  simp only [Option.bind_some]
  cases x_ni.dec ((b.drop v.2.1.toNat).take v.1.toNat) with
  | none=>rfl
  | some x=>
   simp only [Option.bind_some]
   rw [if_neg]
   intro k
   have:=k.1
   rw [length_drop] at this
   omega
 rw [w6 (n:=v.2.1+v.1+4) (by omega) (by omega),bodyOf (by omega)]
 refine tc rfl (tc (by omega) (tc (by omega) (tc (by omega) ?_)))
 have hbb:BSt ((b.drop v.2.1.toNat).take v.1.toNat):=⟨(hb.1.drop _).take _,by rw [length_take,length_drop];omega⟩
 have hbl:((b.drop v.2.1.toNat).take v.1.toNat).length=v.1.toNat:=by rw [length_take,length_drop];omega
 have hcond:v.1+4≤((b.drop v.2.1.toNat).length:Int):=by rw [length_drop];omega
 refine tb (ti_noteIn hK hbb) fun w gw=>?_
 refine tN (fun e2=>no ?_) fun e2=>?_
 ·unfold x_ff
  rw [hd]
  simp only [Option.bind_some]
  cases hc:x_ni.dec ((b.drop v.2.1.toNat).take v.1.toNat) with
  | none=>rfl
  | some x=>
   simp only [Option.bind_some]
   rw [if_neg]
   rintro ⟨_,k2,k3,_⟩
   obtain ⟨x1,x2⟩:=x
   simp only at k2
   subst k2
   rw [(gw.2.1 x1 hc k3).1] at e2
   exact bad' e2
 obtain ⟨hc,hn⟩:=gw.1 e2
 refine tb (x_sn hK _ gw.2.2) fun u gu=>?_
 have gu:=gu.1 hn
 refine tc rfl (tc (by omega) (tc (by omega) (tc (by omega) ?_)))
 have he:=(x_ni.ed _ _ _ hbb.1 hc).1
 rw [x_s3,List.append_nil] at he
 have hall:(b.take (v.2.1+v.1+4).toNat).drop a.toNat=(encN v.1++(b.drop v.2.1.toNat).take v.1.toNat)++((b.drop v.2.1.toNat).drop v.1.toNat).take 4:=by
  rw [List.drop_take,hs,show (v.2.1+v.1+4).toNat-a.toNat=(encN v.1).length+(v.1.toNat+4) by omega,List.take_append,List.take_of_length_le (by omega),Nat.add_sub_cancel_left,List.append_assoc]
  congr 1
  rw [List.take_add]
 have hB:noteB w.1=(encN v.1++(b.drop v.2.1.toNat).take v.1.toNat)++sum4 ((b.drop v.2.1.toNat).take v.1.toNat):=by
  unfold noteB
  rw [←he,hbl,show ((v.1.toNat:Nat):Int)=v.1 by omega]
 have hval:x_ff (b.drop a.toNat)=if ((b.drop v.2.1.toNat).drop v.1.toNat).take 4=sum4 ((b.drop v.2.1.toNat).take v.1.toNat) then some (w.1,(b.drop v.2.1.toNat).drop (v.1.toNat+4)) else none:=by
  unfold x_ff
  rw [hd]
  simp only [Option.bind_some,hc]
  by_cases hq:((b.drop v.2.1.toNat).drop v.1.toNat).take 4=sum4 ((b.drop v.2.1.toNat).take v.1.toNat)
  ·rw [if_pos ⟨hcond,rfl,hn,hq⟩,if_pos hq]
  ·rw [if_neg (fun k=>hq k.2.2.2),if_neg hq]
 rw [hall,gu,hB]
 have hbo:BOk ((encN v.1++(b.drop v.2.1.toNat).take v.1.toNat)++sum4 ((b.drop v.2.1.toNat).take v.1.toNat)):=((x_dr _).1.app hbb.1).app (sum4_ok _ hbb.1)
 have hbo2:BOk ((encN v.1++(b.drop v.2.1.toNat).take v.1.toNat)++((b.drop v.2.1.toNat).drop v.1.toNat).take 4):=((x_dr _).1.app hbb.1).app (((hb.1.drop _).drop _).take _)
 refine tn (fun h2=>no ?_) fun h2=>tr ?_
 ·rw [hval,if_neg]
  intro k
  exact h2 (by rw [k])
 ·have:=List.append_cancel_left (x_px hbo hbo2 h2)
  unfold NOP
  rw [hval,if_pos this.symm]
  show (w.1,v.2.1+v.1+4,true,())=_
  congr 2
  rw [length_drop,length_drop]
  omega
theorem x_r8 {x:Bool} (h:(!x)=false):x=true:=by
 cases x with
 | true=>rfl
 | false=>exact h.symm
theorem t2_SumOf {K:Nat} (hK:2097152≤K) (l:List Int) (h:l.length<2000001) (hb:BOk l):Tot (x_dn K l) fun x=>x.1=(sumL l).2*65536+(sumL l).1:=by
 unfold x_dn x_dn.b
 refine l3_ (L:=x_dn.l0 K l) (fun _ _ _ _=>rfl) (fun m x y q=> ∃ i:Nat,q=i∧i+m=l.length∧x=(sumL (l.take i)).1∧y=(sumL (l.take i)).2) (fun m x y q L' hi kk=>?_) (m:=l.length) (by omega) ⟨0,rfl,by omega,rfl,rfl⟩
 obtain ⟨i,rfl,hm,rfl,rfl⟩:=hi
 unfold x_dn.l0b
 rw [Int.toNat_natCast]
 have hx:=x_qs (l.take i) fun x hx=>hb x (List.mem_of_mem_take hx)
 refine ti (fun h1=>tc (by omega) (tc h1 ?_)) fun h1=>tr ?_
 ·have hi:i<l.length:=by omega
  have hd:=hb _ (x_ae (z:=(0:Int)) hi)
  have e:=x_tx (l.take i) (l.getD i 0)
  rw [x_dz hi] at e
  rw [w6 (n:=l.getD i 0) (by omega) (by omega),w6 (n:=(sumL (l.take i)).1+l.getD i 0) (by omega) (by omega),Int.tmod_eq_emod_of_nonneg (by omega),w6 (n:=(sumL (l.take i)).2+((sumL (l.take i)).1+l.getD i 0) % 65521) (by omega) (by omega),Int.tmod_eq_emod_of_nonneg (by omega),w6 (n:=(i:Int)+1) (by omega) (by omega)]
  exact kk (m-1) _ _ _ (by omega) ⟨i+1,by push_cast;rfl,by omega,by rw [e],by rw [e]⟩
 ·rw [List.take_of_length_le (show l.length≤i by omega)] at hx ⊢
  show i6 (i6 ((sumL l).2*65536)+(sumL l).1)=_
  rw [w6 (n:=(sumL l).2*65536) (by omega) (by omega),w6 (by omega) (by omega)]
theorem t2_l9Sum {K:Nat} (hK:2097152≤K) (l:List Int) (h:l.length<2000001) (hb:BOk l):Tot (x_ne K l) fun x=>x.1=sum4 l:=by
 unfold x_ne
 refine tb (t2_SumOf hK l h hb) fun v g=>tr ?_
 have hin:=x_qs l hb
 rw [g]
 dsimp only
 rw [fsh (by omega),fsh (by omega),fsh (by omega)]
 have e:=x_uq hin.1 hin.2
 unfold sum4
 rw [←e]
 rfl
theorem t2_l9Read {K:Nat} (hK:2097152≤K) {b:List Int} (hb:BSt b) (r:x_g) (h:CB b r):Tot (x_bs K r) fun o=>RO 0 Bool.not x_ni.dec b r o∧EsSz o.1.2.2.2.2.1:=by
 have hl:=hb.2
 unfold x_bs x_bs.b
 refine tb (x_do hK hb r h) fun v1 g1=>tb (x_do hK hb _ g1.1.cb) fun v2 g2=>tb (x_do hK hb _ g2.1.cb) fun v3 g3=>tb (x_do hK hb _ g3.1.cb) fun v4 g4=>tb (x_do hK hb _ g4.1.cb) fun v5 g5=>?_
 have fin:∀ (c:x_g×Unit) (xs:List x_cf),CB b c.1→Rd 1 (x_gk cE.dec) b v4.2.1.2.1 (!v4.2.1.2.2) xs c.1.2.1 (!c.1.2.2)→EsSz xs→Tot ((x_ed K c.1).bind fun v9=>some (((v1.1,v2.1,i6 (v3.1-1),v4.1,xs,v9.1):x_cw),v9.2.1,())) fun o=>RO 0 Bool.not x_ni.dec b r o∧EsSz o.1.2.2.2.2.1:=fun c xs hc hr hs=>tb (x_m6 hK hb _ hc) fun v9 g9=>tr (by
  rw [w6 (n:=v3.1-1) (by omega) (by omega)]
  exact ⟨⟨g9.1.1,(g1.1.2.pr (g2.1.2.pr ((g3.1.2.map (fun n=>n-1)).pr (g4.1.2.pr (hr.pr g9.1.2))))).mono (Nat.zero_le _)⟩,hs⟩)
 refine x_gb (C:=x_g×Unit) (fun c=>c.1) Bool.not (fun (y:List x_cf) xs=>y=xs∧ ∀ x∈xs,CSz x.2) (dec:=cE.dec) hl (n:=v5.1) (L:=fun k x c y=>x_bs.l0 K r k v5 x c v1 v2 v3 v4 y)
  (B:=fun L' x c y=>x_bs.l0b K r (fun _ x c _ _ _ _ y=>L' x c y) v5 x c v1 v2 v3 v4 y) (fun _ _ _ _=>rfl) v5.2 g5.1.cb ⟨rfl,fun x h=>by simp at h⟩ (fun L' i c y xs hw hc hi hf hi2 hx kk=>?_) (fun L' i c y xs hw hxl hc hi hr=>?_) (by omega)
 ·obtain ⟨rfl,hw⟩:=hw
  unfold x_bs.l0b
  refine ti (fun _=>tB (fun _=>?_) fun e=>by rw [x_r8 hf] at e;cases e) fun h=>absurd hi h
  refine tb (x_do hK hb _ hc) fun w1 e1=>tb (t2_cmd hK hb _ e1.1.cb) fun w2 e2=>tc (by show _≤70368744177664;(try dsimp only);(try simp only [ll_]);omega) ?_
  rw [w6 (by omega) (by omega)]
  have:=(e1.1.2.pr e2.1.2).mono (t:=1) (by omega)
  exact kk w2.2 _ (w1.1,w2.1) ⟨rfl,fun z hz=>(mem_append.1 hz).elim (hw z) fun hz=>by rw [mem_singleton.1 hz];exact e2.2⟩ e2.1.1 this
 ·obtain ⟨rfl,hw⟩:=hw
  unfold x_bs.l0b
  refine ti (fun h1=>tB (fun e=>by have:=hi h1;rw [show c.1.2.2=true from e] at this;cases this) fun _=>fin c _ hc (g5.1.2.list hr) ⟨by omega,hw⟩) fun _=>fin c _ hc (g5.1.2.list hr) ⟨by omega,hw⟩
theorem t2_NoteOf {K:Nat} (hK:2097152≤K) (b:List Int) (hb:BSt b) (a:Int) (ha:0≤a∧a≤(b.length:Int)):Tot (x_kc K b a) fun o=>NOP b a o:=by
 have hl:=hb.2
 have no:x_ff (b.drop a.toNat)=none→Tot (some (((0,0,0,0,[],ByteArray.empty):x_cw),(0:Int),false,())) fun o=>NOP b a o:=fun h=>tr (by unfold NOP;rw [h])
 unfold x_kc
 refine tb (x_om hK b hb a (by omega)) fun v g=>?_
 obtain ⟨g1,g2⟩:=x_t2 hb ha g
 refine tN (fun e=>no (g1 e)) fun e=>?_
 obtain ⟨hv,hf,hs,hd,hlen⟩:=g2 e
 rw [w6 (n:=((b.length:Nat):Int)-v.2.1) (by omega) (by omega),w6 (n:=((b.length:Nat):Int)-v.2.1-4) (by omega) (by omega),w6 (n:=v.2.1+v.1) (by omega) (by omega)]
 refine ti (fun h=>no ?_) fun h=>?_
 ·unfold x_ff
  rw [hd]
  simp only [Option.bind_some]
  cases x_ni.dec ((b.drop v.2.1.toNat).take v.1.toNat) with
  | none=>rfl
  | some x=>
   simp only [Option.bind_some]
   rw [if_neg]
   intro k
   have:=k.1
   rw [length_drop] at this
   omega
 rw [w6 (n:=v.2.1+v.1+4) (by omega) (by omega),bodyOf (by omega),bodyOf (s:=v.2.1+v.1) (by omega)]
 refine tc rfl (tc (by omega) (tc (by omega) (tc (by omega) ?_)))
 have hbb:BSt ((b.drop v.2.1.toNat).take v.1.toNat):=⟨(hb.1.drop _).take _,by rw [length_take,length_drop];omega⟩
 have hbl:((b.drop v.2.1.toNat).take v.1.toNat).length=v.1.toNat:=by rw [length_take,length_drop];omega
 have hcond:v.1+4≤((b.drop v.2.1.toNat).length:Int):=by rw [length_drop];omega
 have h4:(b.drop (v.2.1+v.1).toNat).take (4:Int).toNat=((b.drop v.2.1.toNat).drop v.1.toNat).take 4:=by
  rw [List.drop_drop,show v.2.1.toNat+v.1.toNat=(v.2.1+v.1).toNat by omega];rfl
 have hval:∀ {w:x_cw},x_ni.dec ((b.drop v.2.1.toNat).take v.1.toNat)=some (w,[])→NtOk w→((b.drop v.2.1.toNat).drop v.1.toNat).take 4=sum4 ((b.drop v.2.1.toNat).take v.1.toNat)→x_ff (b.drop a.toNat)=some (w,(b.drop v.2.1.toNat).drop (v.1.toNat+4)):=fun hc hn hq=>by
  unfold x_ff
  rw [hd]
  simp only [Option.bind_some,hc]
  rw [if_pos ⟨hcond,rfl,hn,hq⟩]
 have hno:(∀ w:x_cw,x_ni.dec ((b.drop v.2.1.toNat).take v.1.toNat)=some (w,[])→NtOk w→((b.drop v.2.1.toNat).drop v.1.toNat).take 4=sum4 ((b.drop v.2.1.toNat).take v.1.toNat)→False)→x_ff (b.drop a.toNat)=none:=fun k=>by
  unfold x_ff
  rw [hd]
  simp only [Option.bind_some]
  cases hc:x_ni.dec ((b.drop v.2.1.toNat).take v.1.toNat) with
  | none=>rfl
  | some x=>
   simp only [Option.bind_some]
   rw [if_neg]
   rintro ⟨_,k2,k3,k4⟩
   obtain ⟨x1,x2⟩:=x
   simp only at k2
   subst k2
   exact k x1 hc k3 k4
 refine tv (t2_l9Sum hK _ (by omega) hbb.1) (tc rfl (tc (by omega) (tc (by omega) (tc (by omega) ?_))))
 rw [h4]
 have hbo2:BOk (((b.drop v.2.1.toNat).drop v.1.toNat).take 4):=((hb.1.drop _).drop _).take _
 refine tn (fun h2=>no (hno fun w _ _ h3=>h2 (by rw [h3]))) fun h2=>?_
 have h2:=x_px (sum4_ok _ hbb.1) hbo2 h2
 refine tb (t2_l9Read hK hbb (((b.drop v.2.1.toNat).take v.1.toNat,0,true):x_g) ⟨rfl,Int.le_refl _,by show (0:Int)≤_;omega⟩) fun w gw=>?_
 obtain ⟨⟨gw1,gw⟩,gs⟩:=gw
 have hdr:(((b.drop v.2.1.toNat).take v.1.toNat).drop (0:Int).toNat)=(b.drop v.2.1.toNat).take v.1.toNat:=rfl
 refine tN (fun e3=>no (hno fun x hc _ _=>?_)) fun e3=>?_
 ·have k:false=true:=(Rd.of_some gw (q:=(x,[])) (by rw [hdr];exact hc)).1.symm.trans (by rw [e3];rfl)
  cases k
 have gy:=gw
 rw [e3] at gy
 have gy:=Rd.yes gy
 refine tn (fun e4=>no (hno fun x hc _ _=>?_)) fun e4=>?_
 ·have k:=(Rd.of_some gw (q:=(x,[])) (by rw [hdr];exact hc)).2.2
  have k:=congrArg List.length k
  have hi:=gw.in_
  rw [length_drop] at k
  simp only [length_nil] at k
  exact e4 (by omega)
 have hc:x_ni.dec ((b.drop v.2.1.toNat).take v.1.toNat)=some (w.1,[]):=by
  have k:=gy.2
  rw [hdr,e4,Int.toNat_natCast,List.drop_length] at k
  exact k
 refine tb (x_kg hK _ gs) fun u gu=>tg gu (fun n=>no (hno fun x hx hn _=>n ?_)) fun n=>tr ?_
 ·rw [hc] at hx
  simp only [Option.some.injEq,Prod.mk.injEq,and_true] at hx
  rw [hx];exact hn
 ·unfold NOP
  rw [hval hc n h2.symm]
  show (w.1,v.2.1+v.1+4,true,())=_
  congr 2
  rw [length_drop,length_drop]
  omega
theorem x_nv:∀ (f g:Nat) (l:List Int),BOk l→l.length<f→l.length<g→x_mw f l=x_mw g l
 | f+1,g+1,l,hb,hf,hg=>by
  unfold x_mw
  cases h:x_ff l with
  | none=>rfl
  | some q=>
   obtain ⟨h1,_⟩:=x_uu (r:=q.1) (rest:=q.2) hb h
   have h2:=x_te q.1
   have h3:=congrArg List.length h1
   rw [length_append] at h3
   simp only
   rw [x_nv f g q.2 (fun x hx=>hb x (by rw [h1];simp [hx])) (by omega) (by omega)]
noncomputable def ntsOf (b:List Int):List x_cw×List Int:=x_mw (b.length+1) b
def NTP (b:List Int) (o:List x_cw×Int×Unit):Prop:=o.1=(ntsOf b).1∧o.2.1=(b.length:Int)-((ntsOf b).2.length:Int)∧(∀ r∈o.1,NtOk r)∧o.1.length≤b.length∧0≤o.2.1∧o.2.1≤(b.length:Int)
structure NTI (b:List Int) (m:Nat) (q:List x_cw) (x:Int):Prop where
 xx:0≤x∧x≤(b.length:Int)
 mm:(m:Int)=b.length-x
 qq:(q.length:Int)≤x
 o:∀ r∈q,NtOk r
 e:ntsOf b=(q++(x_mw (b.length+1) (b.drop x.toNat)).1,(x_mw (b.length+1) (b.drop x.toNat)).2)
theorem NTI.fin {b:List Int} {m:Nat} {q:List x_cw} {x:Int} (h:NTI b m q x) (hn:x_ff (b.drop x.toNat)=none):NTP b (q,x,()):=by
 have e:=h.e
 have hx:=h.xx
 unfold x_mw at e
 rw [hn] at e
 simp only [List.append_nil] at e
 refine ⟨by rw [e],?_,h.o,by have:=h.qq;show q.length≤_;omega,h.xx⟩
 rw [e]
 show x=_
 rw [length_drop]
 omega
theorem NTI.go {b:List Int} (hb:BOk b) {m:Nat} {q:List x_cw} {x:Int} (h:NTI b m q x) {r:x_cw×List Int} (hn:x_ff (b.drop x.toNat)=some r):NTI b ((b.length:Int)-((b.length:Int)-r.2.length)).toNat (q++[r.1]) ((b.length:Int)-r.2.length)∧((b.length:Int)-((b.length:Int)-r.2.length)).toNat<m:=by
 obtain ⟨h1,h2⟩:=x_uu (r:=r.1) (rest:=r.2) (hb.drop _) hn
 have h3:=x_te r.1
 have h4:=congrArg List.length h1
 have hx:=h.xx
 have hq:=h.qq
 have hm:=h.mm
 rw [length_append,length_drop] at h4
 have h5:b.drop ((b.length:Int)-r.2.length).toNat=r.2:=by
  have h6:=congrArg (List.drop (noteB r.1).length) h1
  rw [List.drop_left' rfl,List.drop_drop] at h6
  rw [show ((b.length:Int)-r.2.length).toNat=x.toNat+(noteB r.1).length by omega]
  exact h6
 refine ⟨⟨by omega,by omega,by rw [length_append,length_singleton];push_cast;omega,fun z hz=>?_,?_⟩,by omega⟩
 ·rw [mem_append,mem_singleton] at hz
  rcases hz with hz | rfl
  ·exact h.o z hz
  ·exact h2
 ·rw [h.e,h5]
  conv=>lhs;unfold x_mw
  rw [hn]
  simp only [List.append_assoc,List.singleton_append]
  rw [x_nv b.length (b.length+1) r.2 (fun x hx=>hb.drop _ x (by rw [h1];simp [hx])) (by omega) (by omega)]
theorem NTI.ini (b:List Int):NTI b b.length [] 0:=⟨by omega,by omega,by show ((0:Nat):Int)≤0;decide,fun r hr=>by simp at hr,rfl⟩
theorem ti_Notes {K:Nat} (hK:2097152≤K) (b:List Int) (hb:BSt b):Tot (x_ep K b) fun o=>NTP b o:=by
 have hl:=hb.2
 unfold x_ep x_ep.b
 refine l2_ (L:=x_ep.l0 K b) (fun _ _ _=>rfl) (NTI b) (fun m q x L' hi kk=>?_) (m:=b.length) (by omega) (NTI.ini b)
 unfold x_ep.l0b
 refine tb (ti_NoteOf hK b hb x hi.xx) fun v g=>?_
 have hx:=hi.xx
 have hq:=hi.qq
 unfold NOP at g
 cases hn:x_ff (b.drop x.toNat) with
 | none=>
  rw [hn] at g
  simp only at g
  subst g
  exact tr (hi.fin hn)
 | some r=>
  rw [hn] at g
  simp only at g
  subst g
  have:=hi.go hb.1 hn
  exact tc (by show _≤70368744177664;(try dsimp only);(try simp only [ll_]);omega) (kk _ _ _ this.2 this.1)
theorem t2_Notes {K:Nat} (hK:2097152≤K) (b:List Int) (hb:BSt b):Tot (x_dh K b) fun o=>NTP b o:=by
 have hl:=hb.2
 unfold x_dh x_dh.b
 refine l2_ (L:=x_dh.l0 K b) (fun _ _ _=>rfl) (NTI b) (fun m q x L' hi kk=>?_) (m:=b.length) (by omega) (NTI.ini b)
 unfold x_dh.l0b
 have hx:=hi.xx
 have hq:=hi.qq
 refine ti (fun _=>tb (t2_NoteOf hK b hb x hi.xx) fun v g=>?_) fun h=>tr (hi.fin ?_)
 ·unfold NOP at g
  cases hn:x_ff (b.drop x.toNat) with
  | none=>
   rw [hn] at g
   simp only at g
   subst g
   exact tr (hi.fin hn)
  | some r=>
   rw [hn] at g
   simp only at g
   subst g
   have:=hi.go hb.1 hn
   exact tc (by show _≤70368744177664;(try dsimp only);(try simp only [ll_]);omega) (kk _ _ _ this.2 this.1)
 ·rw [List.drop_eq_nil_of_le (by omega)]
  exact x_qg
theorem x_o6 {C X Y β : Type} (cur:C→List Int×Int×Bool) (fl:Bool→Bool) (W:Y→List X→Prop) {dec:List Int→Option (X×List Int)} {b:List Int} {n:Int} (hn:0≤n∧n≤1000) {L:Nat→Int→C→Y→Option β} {B:(Int→C→Y→Option β)→Int→C→Y→Option β}
  (hL:∀ k x c y,L (k+1) x c y=B (L k) x c y) {Q : β→Prop} (c0:C) (h0:CB b (cur c0)) {y0:Y} (hw0:W y0 [])
  (step:∀ (L':Int→C→Y→Option β) (i:Nat) (c:C) (y:Y) (xs:List X),W y xs→CB b (cur c)→(i:Int)<n→xs.length=i→i≤1000→
   (∀ (c':C) (y':Y) (x:X),W y' (xs++[x])→(cur c').1=b→Rd 0 dec b (cur c).2.1 (fl (cur c).2.2) x (cur c').2.1 (fl (cur c').2.2)→Tot (L' ((i:Int)+1) c' y') Q)→Tot (B L' (i:Int) c y) Q)
  (fin:∀ (L':Int→C→Y→Option β) (c:C) (y:Y) (xs:List X),W y xs→CB b (cur c)→xs.length=n.toNat→Rd 0 (decR dec n.toNat) b (cur c0).2.1 (fl (cur c0).2.2) xs (cur c).2.1 (fl (cur c).2.2)→Tot (B L' n c y) Q)
  {k:Nat} (hk:2000002≤k):Tot (L k 0 c0 y0) Q:=by
 refine l3_ (L:=L) (b:=B) hL (fun m x c y=> ∃ (i:Nat) (xs:List X),W y xs∧xs.length=i∧x=i∧i+m=n.toNat∧CB b (cur c)∧Rd 0 (decR dec i) b (cur c0).2.1 (fl (cur c0).2.2) xs (cur c).2.1 (fl (cur c).2.2)) (fun m x c y L' hi kk=>?_) (m:=n.toNat) (by omega) ⟨0,[],hw0,rfl,rfl,by omega,h0,Rd.nil h0.2⟩
 obtain ⟨i,xs,hw,hxl,rfl,hm,hc,hr⟩:=hi
 by_cases h:(i:Int)<n
 ·refine step L' i c y xs hw hc h hxl (by omega) fun c' y' x hw' hb' hx=>?_
  have hs:=hr.snoc hx
  exact kk (m-1) _ _ _ (by omega) ⟨i+1,_,hw',by simp [hxl],by push_cast;rfl,by omega,⟨hb',hs.in_.2⟩,hs.mono (Nat.zero_le _)⟩
 ·have e:n=(i:Int):=by omega
  subst e
  refine fin L' c y xs hw hc (by omega) ?_
  rw [Int.toNat_natCast]
  exact hr
theorem ti_eachI {K:Nat} (hK:2097152≤K) {b:List Int} (hb:BSt b) (r:x_g) (h:CB b r) (k1 k2:Int):Tot (x_f K r (k1,k2,[])) fun o=> ∃ xs:List x_lg,o.2.1=(k1,k2,xs)∧(xs.length<2097152∧ ∀ x∈xs,ISz x)∧RO 1 id (x_gk cItem.dec) b r (xs,o.1,()):=by
 have hl:=hb.2
 unfold x_f x_f.b
 refine tb (x_dp hK hb r h) fun v1 g1=>?_
 refine x_gb (C:=x_g×Unit) (fun c=>c.1) id (fun (y:TRow) xs=>y=(k1,k2,xs)∧ ∀ x∈xs,ISz x) (dec:=cItem.dec) hl (n:=v1.1) (L:=fun k x c y=>x_f.l0 K r (k1,k2,[]) k v1 x c y)
  (B:=fun L' x c y=>x_f.l0b K r (k1,k2,[]) (fun _ x c y=>L' x c y) v1 x c y) (fun _ _ _ _=>rfl) v1.2 g1.1.cb ⟨rfl,fun x h=>by simp at h⟩ (fun L' i c y xs hw hc hi hf hi2 hx kk=>?_) (fun L' i c y xs hw hxl hc hi hr=>?_) (by omega)
 ·obtain ⟨rfl,hw⟩:=hw
  unfold x_f.l0b x_g6
  refine ti (fun _=>tN (fun _=>?_) fun e=>by rw [show c.1.2.2=false from hf] at e;cases e) fun h=>absurd hi h
  refine tb (Q:=fun o=> ∃ x:x_lg,o.1=(k1,k2,(xs++[x]))∧ISz x∧RO 1 id cItem.dec b c.1 (x,o.2)) (tb (x_dp hK hb _ hc) fun w1 e1=>tb (x_l9 hK hb _ e1.1.cb) fun w2 e2=>tb (x_l9 hK hb _ e2.1.cb) fun w3 e3=>tb (x_dp hK hb _ e3.1.cb) fun w4 e4=>tb (x_dp hK hb _ e4.1.cb) fun w5 e5=>tc (by show _≤70368744177664;(try dsimp only);(try simp only [ll_]);omega) (tr ⟨(w1.1,w2.1,w3.1,w4.1,w5.1),rfl,⟨by show w2.1.size<_;have:=e2.2;omega,by show w3.1.size<_;have:=e3.2;omega⟩,e5.1.1,?_⟩)) fun w e=>?_
  ·exact (e1.1.2.pr (e2.1.2.pr (e3.1.2.pr (e4.1.2.pr e5.1.2)))).mono (t:=1) (by omega)
  obtain ⟨x,e1,e2,e3⟩:=e
  rw [w6 (by omega) (by omega)]
  exact kk w.2 w.1 x ⟨e1,fun z hz=>(mem_append.1 hz).elim (hw z) fun hz=>by first | (rw [mem_singleton.1 hz];exact e2) | trivial⟩ e3.1 e3.2
 ·obtain ⟨rfl,hw⟩:=hw
  unfold x_f.l0b
  have fin:Tot (some (c.1,((k1,k2,xs):TRow),())) fun o=> ∃ xs:List x_lg,o.2.1=(k1,k2,xs)∧(xs.length<2097152∧ ∀ x∈xs,ISz x)∧RO 1 id (x_gk cItem.dec) b r (xs,o.1,()):=tr ⟨xs,rfl,⟨by omega,hw⟩,hc.1,g1.1.2.list hr⟩
  refine ti (fun h1=>tN (fun e=>by rw [show c.1.2.2=true from hi h1] at e;cases e) fun _=>fin) fun _=>fin
theorem ti_eachM {K:Nat} (hK:2097152≤K) {b:List Int} (hb:BSt b) (r:x_g) (h:CB b r) (k1 k2 k3 k4:Int):Tot (x_d K r (k1,k2,k3,k4,[])) fun o=> ∃ xs:List x_pv,o.2.1=(k1,k2,k3,k4,xs)∧(xs.length<2097152∧ ∀ x∈xs,0≤x.1)∧RO 1 id (x_gk cMark.dec) b r (xs,o.1,()):=by
 have hl:=hb.2
 unfold x_d x_d.b
 refine tb (x_dp hK hb r h) fun v1 g1=>?_
 refine x_gb (C:=x_g×Unit) (fun c=>c.1) id (fun (y:x_am) xs=>y=(k1,k2,k3,k4,xs)∧ ∀ x∈xs,0≤x.1) (dec:=cMark.dec) hl (n:=v1.1) (L:=fun k x c y=>x_d.l0 K r (k1,k2,k3,k4,[]) k v1 x c y)
  (B:=fun L' x c y=>x_d.l0b K r (k1,k2,k3,k4,[]) (fun _ x c y=>L' x c y) v1 x c y) (fun _ _ _ _=>rfl) v1.2 g1.1.cb ⟨rfl,fun x h=>by simp at h⟩ (fun L' i c y xs hw hc hi hf hi2 hx kk=>?_) (fun L' i c y xs hw hxl hc hi hr=>?_) (by omega)
 ·obtain ⟨rfl,hw⟩:=hw
  unfold x_d.l0b x_fj
  refine ti (fun _=>tN (fun _=>?_) fun e=>by rw [show c.1.2.2=false from hf] at e;cases e) fun h=>absurd hi h
  refine tb (Q:=fun o=> ∃ x:x_pv,o.1=(k1,k2,k3,k4,(xs++[x]))∧0≤x.1∧RO 1 id cMark.dec b c.1 (x,o.2)) (tb (x_dp hK hb _ hc) fun w1 e1=>tb (x_dp hK hb _ e1.1.cb) fun w2 e2=>tc (by show _≤70368744177664;(try dsimp only);(try simp only [ll_]);omega) (tr ⟨(w1.1,w2.1),rfl,by first | exact e1.2.1 | exact e2.2.1,e2.1.1,?_⟩)) fun w e=>?_
  ·exact (e1.1.2.pr e2.1.2).mono (t:=1) (by omega)
  obtain ⟨x,e1,e2,e3⟩:=e
  rw [w6 (by omega) (by omega)]
  exact kk w.2 w.1 x ⟨e1,fun z hz=>(mem_append.1 hz).elim (hw z) fun hz=>by first | (rw [mem_singleton.1 hz];exact e2) | trivial⟩ e3.1 e3.2
 ·obtain ⟨rfl,hw⟩:=hw
  unfold x_d.l0b
  have fin:Tot (some (c.1,((k1,k2,k3,k4,xs):x_am),())) fun o=> ∃ xs:List x_pv,o.2.1=(k1,k2,k3,k4,xs)∧(xs.length<2097152∧ ∀ x∈xs,0≤x.1)∧RO 1 id (x_gk cMark.dec) b r (xs,o.1,()):=tr ⟨xs,rfl,⟨by omega,hw⟩,hc.1,g1.1.2.list hr⟩
  refine ti (fun h1=>tN (fun e=>by rw [show c.1.2.2=true from hi h1] at e;cases e) fun _=>fin) fun _=>fin
theorem ti_row {K:Nat} (hK:2097152≤K) {b:List Int} (hb:BSt b) (r:x_g) (h:CB b r):Tot (x_g1 K r) fun o=>RO 1 id cRow.dec b r o∧RSz o.1:=by
 unfold x_g1
 refine tb (x_dp hK hb r h) fun v1 g1=>tb (x_dp hK hb _ g1.1.cb) fun v2 g2=>tb (ti_eachI hK hb _ g2.1.cb _ _) fun v3 g3=>tr ?_
 obtain ⟨xs,hx,hz,g3⟩:=g3
 rw [hx]
 exact ⟨⟨g3.1,(g1.1.2.pr (g2.1.2.pr g3.2)).mono (t:=1) (by omega)⟩,hz⟩
theorem ti_maker {K:Nat} (hK:2097152≤K) {b:List Int} (hb:BSt b) (r:x_g) (h:CB b r):Tot (x_fg K r) fun o=>RO 1 id x_jo.dec b r o∧MkS o.1:=by
 unfold x_fg
 refine tb (x_dp hK hb r h) fun v1 g1=>tb (x_dp hK hb _ g1.1.cb) fun v2 g2=>tb (x_dp hK hb _ g2.1.cb) fun v3 g3=>tb (x_dp hK hb _ g3.1.cb) fun v4 g4=>?_
 rw [w6 (n:=v4.1-1) (by omega) (by omega)]
 refine tb (ti_eachM hK hb _ g4.1.cb _ _ _ _) fun v5 g5=>tr ?_
 obtain ⟨xs,hx,hz,g5⟩:=g5
 rw [hx]
 exact ⟨⟨g5.1,(g1.1.2.pr (g2.1.2.pr (g3.1.2.pr ((g4.1.2.map (fun n=>n-1)).pr g5.2)))).mono (t:=1) (by omega)⟩,hz⟩
theorem t2_row {K:Nat} (hK:2097152≤K) {b:List Int} (hb:BSt b) (r:x_g) (h:CB b r):Tot (x_c6 K r) fun o=>RO 1 Bool.not cRow.dec b r o∧RSz o.1:=by
 have hl:=hb.2
 unfold x_c6 x_c6.b
 refine tb (x_do hK hb r h) fun v1 g1=>tb (x_do hK hb _ g1.1.cb) fun v2 g2=>tb (x_do hK hb _ g2.1.cb) fun v3 g3=>?_
 have fin:∀ (c:Int×x_g×Unit) (xs:List x_lg),CB b c.2.1→Rd 1 (x_gk cItem.dec) b v2.2.1.2.1 (!v2.2.1.2.2) xs c.2.1.2.1 (!c.2.1.2.2)→(xs.length<2097152∧ ∀ x∈xs,ISz x)→Tot (some (((v1.1,v2.1,xs):TRow),c.2.1,())) fun o=>RO 1 Bool.not cRow.dec b r o∧RSz o.1:=fun c xs hc hr hs=>tr (by
  exact ⟨⟨hc.1,(g1.1.2.pr (g2.1.2.pr hr)).mono (t:=1) (by omega)⟩,hs⟩)
 refine x_gb (C:=Int×x_g×Unit) (fun c=>c.2.1) Bool.not (fun (y:List x_lg) xs=>y=xs∧ ∀ x∈xs,ISz x) (dec:=cItem.dec) hl (n:=v3.1) (L:=fun k x c y=>x_c6.l0 K r k v3 x c v1 v2 y)
  (B:=fun L' x c y=>x_c6.l0b K r (fun _ x c _ _ y=>L' x c y) v3 x c v1 v2 y) (fun _ _ _ _=>rfl) v3 g3.1.cb ⟨rfl,fun x h=>by simp at h⟩ (fun L' i c y xs hw hc hi hf hi2 hx kk=>?_) (fun L' i c y xs hw hxl hc hi hr=>?_) (by omega)
 ·obtain ⟨rfl,hw⟩:=hw
  unfold x_c6.l0b
  refine ti (fun _=>tB (fun _=>?_) fun e=>by rw [x_r8 hf] at e;cases e) fun h=>absurd hi h
  refine tb (x_do hK hb _ hc) fun w1 e1=>tb (x_m6 hK hb _ e1.1.cb) fun w2 e2=>tb (x_m6 hK hb _ e2.1.cb) fun w3 e3=>tb (x_do hK hb _ e3.1.cb) fun w4 e4=>tb (x_do hK hb _ e4.1.cb) fun w5 e5=>tc (by show _≤70368744177664;(try dsimp only);(try simp only [ll_]);omega) ?_
  rw [w6 (by omega) (by omega)]
  exact kk w5 _ (w1.1,w2.1,w3.1,w4.1,w5.1) ⟨rfl,fun z hz=>(mem_append.1 hz).elim (hw z) fun hz=>by rw [mem_singleton.1 hz];exact ⟨by show w2.1.size<_;have:=e2.2;omega,by show w3.1.size<_;have:=e3.2;omega⟩⟩ e5.1.1 ((e1.1.2.pr (e2.1.2.pr (e3.1.2.pr (e4.1.2.pr e5.1.2)))).mono (t:=1) (by omega))
 ·obtain ⟨rfl,hw⟩:=hw
  unfold x_c6.l0b
  refine ti (fun h1=>tB (fun e=>by have:=hi h1;rw [show c.2.1.2.2=true from e] at this;cases this) fun _=>fin c _ hc (g3.1.2.list hr) ⟨by omega,hw⟩) fun _=>fin c _ hc (g3.1.2.list hr) ⟨by omega,hw⟩
theorem t2_maker {K:Nat} (hK:2097152≤K) {b:List Int} (hb:BSt b) (r:x_g) (h:CB b r):Tot (x_a9 K r) fun o=>RO 1 Bool.not x_jo.dec b r o∧MkS o.1:=by
 have hl:=hb.2
 unfold x_a9 x_a9.b
 refine tb (x_do hK hb r h) fun v1 g1=>tb (x_do hK hb _ g1.1.cb) fun v2 g2=>tb (x_do hK hb _ g2.1.cb) fun v3 g3=>tb (x_do hK hb _ g3.1.cb) fun v4 g4=>tb (x_do hK hb _ g4.1.cb) fun v5 g5=>?_
 have fin:∀ (c:Int×x_g×Unit) (xs:List x_pv),CB b c.2.1→Rd 1 (x_gk cMark.dec) b v4.2.1.2.1 (!v4.2.1.2.2) xs c.2.1.2.1 (!c.2.1.2.2)→(xs.length<2097152∧ ∀ x∈xs,0≤x.1)→Tot (some (((v1.1,v2.1,v3.1,i6 (v4.1-1),xs):x_am),c.2.1,())) fun o=>RO 1 Bool.not x_jo.dec b r o∧MkS o.1:=fun c xs hc hr hs=>tr (by
  rw [w6 (n:=v4.1-1) (by omega) (by omega)]
  exact ⟨⟨hc.1,(g1.1.2.pr (g2.1.2.pr (g3.1.2.pr ((g4.1.2.map (fun n=>n-1)).pr hr)))).mono (t:=1) (by omega)⟩,hs⟩)
 refine x_gb (C:=Int×x_g×Unit) (fun c=>c.2.1) Bool.not (fun (y:List x_pv) xs=>y=xs∧ ∀ x∈xs,0≤x.1) (dec:=cMark.dec) hl (n:=v5.1) (L:=fun k x c y=>x_a9.l0 K r k v5 x c v1 v2 v3 v4 y)
  (B:=fun L' x c y=>x_a9.l0b K r (fun _ x c _ _ _ _ y=>L' x c y) v5 x c v1 v2 v3 v4 y) (fun _ _ _ _=>rfl) v5 g5.1.cb ⟨rfl,fun x h=>by simp at h⟩ (fun L' i c y xs hw hc hi hf hi2 hx kk=>?_) (fun L' i c y xs hw hxl hc hi hr=>?_) (by omega)
 ·obtain ⟨rfl,hw⟩:=hw
  unfold x_a9.l0b
  refine ti (fun _=>tB (fun _=>?_) fun e=>by rw [x_r8 hf] at e;cases e) fun h=>absurd hi h
  refine tb (x_do hK hb _ hc) fun w1 e1=>tb (x_do hK hb _ e1.1.cb) fun w2 e2=>tc (by show _≤70368744177664;(try dsimp only);(try simp only [ll_]);omega) ?_
  rw [w6 (by omega) (by omega)]
  exact kk w2 _ (w1.1,w2.1) ⟨rfl,fun z hz=>(mem_append.1 hz).elim (hw z) fun hz=>by rw [mem_singleton.1 hz];exact (by first | exact e1.2.1 | exact e2.2.1)⟩ e2.1.1 ((e1.1.2.pr e2.1.2).mono (t:=1) (by omega))
 ·obtain ⟨rfl,hw⟩:=hw
  unfold x_a9.l0b
  refine ti (fun h1=>tB (fun e=>by have:=hi h1;rw [show c.2.1.2.2=true from e] at this;cases this) fun _=>fin c _ hc (g5.1.2.list hr) ⟨by omega,hw⟩) fun _=>fin c _ hc (g5.1.2.list hr) ⟨by omega,hw⟩
theorem ti_eachG {K:Nat} (hK:2097152≤K) {b:List Int} (hb:BSt b) (r:x_g) (h:CB b r) (k1:Int):Tot (x_c K r (k1,[],[],[])) fun o=> ∃ xs:List (Int×Int),o.2.1=(k1,xs.map Prod.fst,xs.map Prod.snd,[])∧(xs.length<2097152∧ ∀ x∈xs,True)∧RO 1 id (x_gk (cN.pr cN).dec) b r (xs,o.1,()):=by
 have hl:=hb.2
 unfold x_c x_c.b
 refine tb (x_dp hK hb r h) fun v1 g1=>?_
 refine x_gb (C:=x_g×Unit) (fun c=>c.1) id (fun (y:x_ag) xs=>y=(k1,xs.map Prod.fst,xs.map Prod.snd,[])∧ ∀ x∈xs,True) (dec:=(cN.pr cN).dec) hl (n:=v1.1) (L:=fun k x c y=>x_c.l0 K r (k1,[],[],[]) k v1 x c y)
  (B:=fun L' x c y=>x_c.l0b K r (k1,[],[],[]) (fun _ x c y=>L' x c y) v1 x c y) (fun _ _ _ _=>rfl) v1.2 g1.1.cb ⟨rfl,fun x h=>by simp at h⟩ (fun L' i c y xs hw hc hi hf hi2 hx kk=>?_) (fun L' i c y xs hw hxl hc hi hr=>?_) (by omega)
 ·obtain ⟨rfl,hw⟩:=hw
  unfold x_c.l0b x_fu
  refine ti (fun _=>tN (fun _=>?_) fun e=>by rw [show c.1.2.2=false from hf] at e;cases e) fun h=>absurd hi h
  refine tb (Q:=fun o=> ∃ x:(Int×Int),o.1=(k1,(xs++[x]).map Prod.fst,(xs++[x]).map Prod.snd,[])∧True∧RO 1 id (cN.pr cN).dec b c.1 (x,o.2)) (tb (x_dp hK hb _ hc) fun w1 e1=>tc (by show _≤70368744177664;dsimp only;simp only [length_append,length_cons,length_nil,length_map];omega) (tb (x_dp hK hb _ e1.1.cb) fun w2 e2=>tc (by show _≤70368744177664;dsimp only;simp only [length_append,length_cons,length_nil,length_map];omega) (tr ⟨(w1.1,w2.1),by rw [List.map_append,List.map_append];rfl,trivial,e2.1.1,?_⟩))) fun w e=>?_
  ·exact (e1.1.2.pr e2.1.2).mono (t:=1) (by omega)
  obtain ⟨x,e1,e2,e3⟩:=e
  rw [w6 (by omega) (by omega)]
  exact kk w.2 w.1 x ⟨e1,fun z hz=>(mem_append.1 hz).elim (hw z) fun hz=>by first | (rw [mem_singleton.1 hz];exact e2) | trivial⟩ e3.1 e3.2
 ·obtain ⟨rfl,hw⟩:=hw
  unfold x_c.l0b
  have fin:Tot (some (c.1,((k1,xs.map Prod.fst,xs.map Prod.snd,[]):x_ag),())) fun o=> ∃ xs:List (Int×Int),o.2.1=(k1,xs.map Prod.fst,xs.map Prod.snd,[])∧(xs.length<2097152∧ ∀ x∈xs,True)∧RO 1 id (x_gk (cN.pr cN).dec) b r (xs,o.1,()):=tr ⟨xs,rfl,⟨by omega,hw⟩,hc.1,g1.1.2.list hr⟩
  refine ti (fun h1=>tN (fun e=>by rw [show c.1.2.2=true from hi h1] at e;cases e) fun _=>fin) fun _=>fin
theorem ti_group {K:Nat} (hK:2097152≤K) {b:List Int} (hb:BSt b) (r:x_g) (h:CB b r) (rows:Int) (hr:0≤rows∧rows≤4):Tot (x_ab K r rows) fun o=>RO 1 id (x_i2 rows.toNat).dec b r o∧GSz o.1:=by
 have hl:=hb.2
 unfold x_ab x_ab.b
 refine tb (x_dp hK hb r h) fun v1 g1=>tb (ti_eachG hK hb _ g1.1.cb _) fun v2 g2=>?_
 obtain ⟨ps,hx,hz,g2⟩:=g2
 obtain ⟨c2,t2,u2⟩:=v2
 simp only at hx
 subst hx
 refine x_o6 (C:=x_g) (fun c=>c) id (fun (y:List Int) xs=>y=xs) (dec:=decN) (n:=rows) (by omega) (L:=fun k x c y=>x_ab.l0 K r rows k x c (c2,(v1.1,ps.map Prod.fst,ps.map Prod.snd,[]),u2) y)
  (B:=fun L' x c y=>x_ab.l0b K r rows (fun x c _ y=>L' x c y) x c (c2,(v1.1,ps.map Prod.fst,ps.map Prod.snd,[]),u2) y) (fun _ _ _ _=>rfl) c2 ⟨g2.1,g2.2.in_.2⟩ rfl (fun L' i c y xs hw hc hi hxl hi2 kk=>?_) (fun L' c y xs hw hc hxl hr=>?_) (by omega)
 ·subst hw
  unfold x_ab.l0b
  refine ti (fun _=>tb (x_dp hK hb _ hc) fun w1 e1=>tc (by show _≤70368744177664;(try dsimp only);(try simp only [ll_]);omega) ?_) fun h=>absurd hi h
  rw [w6 (by omega) (by omega)]
  exact kk _ _ _ rfl e1.1.1 (e1.1.2.mono (Nat.zero_le _))
 ·subst hw
  unfold x_ab.l0b
  refine ti (fun h=>absurd h (Int.lt_irrefl _)) fun _=>tr ⟨⟨hc.1,?_⟩,?_⟩
  ·exact ((g1.1.2.pr (g2.2.pr hr)).map (fun a:Int×List (Int×Int)×List Int=>(a.1,a.2.1.map Prod.fst,a.2.1.map Prod.snd,a.2.2))).mono (t:=1) (by omega)
  ·exact ⟨by show (ps.map Prod.fst).length<_;rw [length_map];exact hz.1,by show (ps.map Prod.snd).length<_;rw [length_map];exact hz.1,by show y.length<_;omega⟩
theorem t2_group {K:Nat} (hK:2097152≤K) {b:List Int} (hb:BSt b) (r:x_g) (h:CB b r) (rows:Int) (hr:0≤rows∧rows≤4):Tot (x_1 K r rows) fun o=>RO 1 Bool.not (x_i2 rows.toNat).dec b r o∧GSz o.1:=by
 have hl:=hb.2
 unfold x_1 x_1.b
 refine tb (x_do hK hb r h) fun v1 g1=>tb (x_do hK hb _ g1.1.cb) fun v2 g2=>?_
 have fin:∀ (c0:Int×x_g×Unit) (ps:List (Int×Int)),CB b c0.2.1→ps.length<2097152→Rd 1 (x_gk (cN.pr cN).dec) b v1.2.1.2.1 (!v1.2.1.2.2) ps c0.2.1.2.1 (!c0.2.1.2.2)→Tot (x_1.j0 K (x_1.l1 K r rows K) c0 v1 (ps.map Prod.fst) (ps.map Prod.snd)) fun o=>RO 1 Bool.not (x_i2 rows.toNat).dec b r o∧GSz o.1:=by
  intro c0 ps h0 hps g
  unfold x_1.j0
  refine x_o6 (C:=Int×x_g×Unit) (fun c=>c.2.1) Bool.not (fun (y:List Int) xs=>y=xs) (dec:=decN) (n:=rows) (by omega) (L:=fun k x c y=>x_1.l1 K r rows k x c v1 (ps.map Prod.fst) (ps.map Prod.snd) y)
   (B:=fun L' x c y=>x_1.l1b K r rows (fun x c _ _ _ y=>L' x c y) x c v1 (ps.map Prod.fst) (ps.map Prod.snd) y) (fun _ _ _ _=>rfl) c0 h0 rfl (fun L' i c y xs hw hc hi hxl hi2 kk=>?_) (fun L' c y xs hw hc hxl hr=>?_) (by omega)
  ·subst hw
   unfold x_1.l1b
   refine ti (fun _=>tb (x_do hK hb _ hc) fun w1 e1=>tc (by show _≤70368744177664;(try dsimp only);(try simp only [ll_]);omega) ?_) fun h=>absurd hi h
   rw [w6 (by omega) (by omega)]
   exact kk _ _ _ rfl e1.1.1 (e1.1.2.mono (Nat.zero_le _))
  ·subst hw
   unfold x_1.l1b
   refine ti (fun h=>absurd h (Int.lt_irrefl _)) fun _=>tr ⟨⟨hc.1,?_⟩,?_⟩
   ·exact ((g1.1.2.pr (g.pr hr)).map (fun a:Int×List (Int×Int)×List Int=>(a.1,a.2.1.map Prod.fst,a.2.1.map Prod.snd,a.2.2))).mono (t:=1) (by omega)
   ·exact ⟨by show (ps.map Prod.fst).length<_;rw [length_map];exact hps,by show (ps.map Prod.snd).length<_;rw [length_map];exact hps,by show y.length<_;omega⟩
 refine x_gb (C:=Int×x_g×Unit) (fun c=>c.2.1) Bool.not (fun (y:List Int×List Int) xs=>y=(xs.map Prod.fst,xs.map Prod.snd)) (dec:=(cN.pr cN).dec) hl (n:=v2.1) (L:=fun k x c y=>x_1.l0 K r rows k v2 x c v1 y.1 y.2)
  (B:=fun L' x c y=>x_1.l0b K r rows (fun _ x c _ y z=>L' x c (y,z)) (x_1.l1 K r rows K) v2 x c v1 y.1 y.2) (fun _ _ _ _=>rfl) v2 g2.1.cb (y0:=([],[])) rfl (fun L' i c y xs hw hc hi hf hi2 hx kk=>?_) (fun L' i c y xs hw hxl hc hi hr=>?_) (by omega)
 ·subst hw
  unfold x_1.l0b
  refine ti (fun _=>tB (fun _=>?_) fun e=>by rw [x_r8 hf] at e;cases e) fun h=>absurd hi h
  refine tb (x_do hK hb _ hc) fun w1 e1=>tb (x_do hK hb _ e1.1.cb) fun w2 e2=>tc (by show _≤70368744177664;dsimp only;simp only [length_append,length_cons,length_nil,length_map];omega) (tc (by show _≤70368744177664;dsimp only;simp only [length_append,length_cons,length_nil,length_map];omega) ?_)
  rw [w6 (by omega) (by omega)]
  exact kk w2 _ (w1.1,w2.1) (by rw [List.map_append,List.map_append];rfl) e2.1.1 ((e1.1.2.pr e2.1.2).mono (t:=1) (by omega))
 ·subst hw
  unfold x_1.l0b
  refine ti (fun h1=>tB (fun e=>by have:=hi h1;rw [show c.2.1.2.2=true from e] at this;cases this) fun _=>fin c _ hc (by omega) (g2.1.2.list hr)) fun _=>fin c _ hc (by omega) (g2.1.2.list hr)
theorem ti_each1 {K:Nat} (hK:2097152≤K) {b:List Int} (hb:BSt b) (r:x_g) (h:CB b r)  : Tot (x_o K r ([],[],[],0,[],[])) fun o=> ∃ xs:List TRow,o.2.1=(xs,[],[],0,[],[])∧(xs.length<2097152∧ ∀ x∈xs,RSz x)∧RO 1 id (x_gk cRow.dec) b r (xs,o.1,()):=by
 have hl:=hb.2
 unfold x_o x_o.b
 refine tb (x_dp hK hb r h) fun v1 g1=>?_
 refine x_gb (C:=x_g×Unit) (fun c=>c.1) id (fun (y:x_as) xs=>y=(xs,[],[],0,[],[])∧ ∀ x∈xs,RSz x) (dec:=cRow.dec) hl (n:=v1.1) (L:=fun k x c y=>x_o.l0 K r ([],[],[],0,[],[]) k v1 x c y)
  (B:=fun L' x c y=>x_o.l0b K r ([],[],[],0,[],[]) (fun _ x c y=>L' x c y) v1 x c y) (fun _ _ _ _=>rfl) v1.2 g1.1.cb ⟨rfl,fun x h=>by simp at h⟩ (fun L' i c y xs hw hc hi hf hi2 hx kk=>?_) (fun L' i c y xs hw hxl hc hi hr=>?_) (by omega)
 ·obtain ⟨rfl,hw⟩:=hw
  unfold x_o.l0b x_my
  refine ti (fun _=>tN (fun _=>?_) fun e=>by rw [show c.1.2.2=false from hf] at e;cases e) fun h=>absurd hi h
  refine tb (Q:=fun o=> ∃ x:TRow,o.1=((xs++[x]),[],[],0,[],[])∧RSz x∧RO 1 id cRow.dec b c.1 (x,o.2)) (tb (ti_row hK hb _ hc) fun w1 e1=>tc (by show _≤70368744177664;(try dsimp only);(try simp only [ll_]);omega) (tr ⟨w1.1,rfl,e1.2,e1.1.1,?_⟩)) fun w e=>?_
  ·exact e1.1.2
  obtain ⟨x,e1,e2,e3⟩:=e
  rw [w6 (by omega) (by omega)]
  exact kk w.2 w.1 x ⟨e1,fun z hz=>(mem_append.1 hz).elim (hw z) fun hz=>by first | (rw [mem_singleton.1 hz];exact e2) | trivial⟩ e3.1 e3.2
 ·obtain ⟨rfl,hw⟩:=hw
  unfold x_o.l0b
  have fin:Tot (some (c.1,((xs,[],[],0,[],[]):x_as),())) fun o=> ∃ xs:List TRow,o.2.1=(xs,[],[],0,[],[])∧(xs.length<2097152∧ ∀ x∈xs,RSz x)∧RO 1 id (x_gk cRow.dec) b r (xs,o.1,()):=tr ⟨xs,rfl,⟨by omega,hw⟩,hc.1,g1.1.2.list hr⟩
  refine ti (fun h1=>tN (fun e=>by rw [show c.1.2.2=true from hi h1] at e;cases e) fun _=>fin) fun _=>fin
theorem ti_each2 {K:Nat} (hK:2097152≤K) {b:List Int} (hb:BSt b) (r:x_g) (h:CB b r) (rs:List TRow):Tot (x_n K r (rs,[],[],0,[],[])) fun o=> ∃ xs:List x_am,o.2.1=(rs,xs,[],0,[],[])∧(xs.length<2097152∧ ∀ x∈xs,MkS x)∧RO 1 id (x_gk x_jo.dec) b r (xs,o.1,()):=by
 have hl:=hb.2
 unfold x_n x_n.b
 refine tb (x_dp hK hb r h) fun v1 g1=>?_
 refine x_gb (C:=x_g×Unit) (fun c=>c.1) id (fun (y:x_as) xs=>y=(rs,xs,[],0,[],[])∧ ∀ x∈xs,MkS x) (dec:=x_jo.dec) hl (n:=v1.1) (L:=fun k x c y=>x_n.l0 K r (rs,[],[],0,[],[]) k v1 x c y)
  (B:=fun L' x c y=>x_n.l0b K r (rs,[],[],0,[],[]) (fun _ x c y=>L' x c y) v1 x c y) (fun _ _ _ _=>rfl) v1.2 g1.1.cb ⟨rfl,fun x h=>by simp at h⟩ (fun L' i c y xs hw hc hi hf hi2 hx kk=>?_) (fun L' i c y xs hw hxl hc hi hr=>?_) (by omega)
 ·obtain ⟨rfl,hw⟩:=hw
  unfold x_n.l0b x_nf
  refine ti (fun _=>tN (fun _=>?_) fun e=>by rw [show c.1.2.2=false from hf] at e;cases e) fun h=>absurd hi h
  refine tb (Q:=fun o=> ∃ x:x_am,o.1=(rs,(xs++[x]),[],0,[],[])∧MkS x∧RO 1 id x_jo.dec b c.1 (x,o.2)) (tb (ti_maker hK hb _ hc) fun w1 e1=>tc (by show _≤70368744177664;(try dsimp only);(try simp only [ll_]);omega) (tr ⟨w1.1,rfl,e1.2,e1.1.1,?_⟩)) fun w e=>?_
  ·exact e1.1.2
  obtain ⟨x,e1,e2,e3⟩:=e
  rw [w6 (by omega) (by omega)]
  exact kk w.2 w.1 x ⟨e1,fun z hz=>(mem_append.1 hz).elim (hw z) fun hz=>by first | (rw [mem_singleton.1 hz];exact e2) | trivial⟩ e3.1 e3.2
 ·obtain ⟨rfl,hw⟩:=hw
  unfold x_n.l0b
  have fin:Tot (some (c.1,((rs,xs,[],0,[],[]):x_as),())) fun o=> ∃ xs:List x_am,o.2.1=(rs,xs,[],0,[],[])∧(xs.length<2097152∧ ∀ x∈xs,MkS x)∧RO 1 id (x_gk x_jo.dec) b r (xs,o.1,()):=tr ⟨xs,rfl,⟨by omega,hw⟩,hc.1,g1.1.2.list hr⟩
  refine ti (fun h1=>tN (fun e=>by rw [show c.1.2.2=true from hi h1] at e;cases e) fun _=>fin) fun _=>fin
theorem ti_each3 {K:Nat} (hK:2097152≤K) {b:List Int} (hb:BSt b) (r:x_g) (h:CB b r) (rs:List TRow) (ms:List x_am) (p:x_e) (hp:SOk p):Tot (x_p K r (rs,ms,[],0,[],[]) p) fun o=> ∃ xs:List x_ag,o.2.1=(rs,ms,xs,0,[],[])∧o.2.2.1=p∧(xs.length<2097152∧ ∀ x∈xs,GSz x)∧RO 1 id (x_gk (x_i2 p.1.toNat).dec) b r (xs,o.1,()):=by
 have hl:=hb.2
 have hp1:=hp.1
 unfold x_p x_p.b
 refine tb (x_dp hK hb r h) fun v1 g1=>?_
 refine x_gb (C:=x_g×Unit) (fun c=>c.1) id (fun (y:x_as×x_e) xs=>y=((rs,ms,xs,0,[],[]),p)∧ ∀ x∈xs,GSz x) (dec:=(x_i2 p.1.toNat).dec) hl (n:=v1.1) (L:=fun k x c y=>x_p.l0 K r (rs,ms,[],0,[],[]) p k v1 x c y.1 y.2)
  (B:=fun L' x c y=>x_p.l0b K r (rs,ms,[],0,[],[]) p (fun _ x c y z=>L' x c (y,z)) v1 x c y.1 y.2) (fun _ _ _ _=>rfl) v1.2 g1.1.cb (y0:=((rs,ms,[],0,[],[]),p)) ⟨rfl,fun x h=>by simp at h⟩ (fun L' i c y xs hw hc hi hf hi2 hx kk=>?_) (fun L' i c y xs hw hxl hc hi hr=>?_) (by omega)
 ·obtain ⟨rfl,hw⟩:=hw
  unfold x_p.l0b x_l5
  refine ti (fun _=>tN (fun _=>?_) fun e=>by rw [show c.1.2.2=false from hf] at e;cases e) fun h=>absurd hi h
  refine tb (Q:=fun o=> ∃ x:x_ag,o.1=(rs,ms,xs++[x],0,[],[])∧o.2.1=p∧GSz x∧RO 1 id (x_i2 p.1.toNat).dec b c.1 (x,o.2.2)) (tb (ti_group hK hb _ hc _ (by show 0≤p.1∧p.1≤4;omega)) fun w1 e1=>tc (by show _≤70368744177664;(try dsimp only);(try simp only [ll_]);omega) (tr ⟨w1.1,rfl,rfl,e1.2,e1.1.1,?_⟩)) fun w e=>?_
  ·exact e1.1.2
  obtain ⟨x,e1,e4,e2,e3⟩:=e
  rw [w6 (by omega) (by omega)]
  exact kk w.2.2 (w.1,w.2.1) x ⟨by rw [e1,e4],fun z hz=>(mem_append.1 hz).elim (hw z) fun hz=>by rw [mem_singleton.1 hz];exact e2⟩ e3.1 e3.2
 ·obtain ⟨rfl,hw⟩:=hw
  unfold x_p.l0b
  have fin:Tot (some (c.1,((rs,ms,xs,0,[],[]):x_as),p,())) fun o=> ∃ xs:List x_ag,o.2.1=(rs,ms,xs,0,[],[])∧o.2.2.1=p∧(xs.length<2097152∧ ∀ x∈xs,GSz x)∧RO 1 id (x_gk (x_i2 p.1.toNat).dec) b r (xs,o.1,()):=tr ⟨xs,rfl,rfl,⟨by omega,hw⟩,hc.1,g1.1.2.list hr⟩
  refine ti (fun h1=>tN (fun e=>by rw [show c.1.2.2=true from hi h1] at e;cases e) fun _=>fin) fun _=>fin
def KOP (p:x_e) (b:List Int) (o:x_as×Bool×Unit):Prop:=match x_hn p b with
 | some k=>o=(k,true,())
 | none=>o=(([],[],[],0,[],[]),false,())
theorem x_w1 {p:x_e} {b:List Int} {k:x_as} {a:Int} {f:Bool} (e:Rd 0 (x_vv p.1.toNat).dec b 0 false k a f):(f=true→x_hn p b=none)∧(a≠(b.length:Int)→x_hn p b=none)∧(¬ KOk p k→x_hn p b=none)∧(f=false→a=(b.length:Int)→KOk p k→x_hn p b=some k):=by
 have hi:=e.in_
 have e0:b.drop (0:Int).toNat=b:=rfl
 cases hf:f with
 | true=>
  have h1:=e.ok rfl
  have:x_hn p b=none:=by
   unfold x_hn
   split at h1
   ·rw [hf] at h1;exact bad h1.1.symm
   ·rename_i hq
    rw [e0] at hq
    rw [hq]
  exact ⟨fun _=>this,fun _=>this,fun _=>this,fun h=>bad h.symm⟩
 | false=>
  rw [hf] at e
  have h1:=e.yes.2
  rw [e0] at h1
  refine ⟨fun h=>bad h,fun h=>?_,fun h=>?_,fun _ h h2=>?_⟩
  ·unfold x_hn
   rw [h1]
   split
   ·rename_i hq
    simp only [Option.some.injEq,Prod.mk.injEq] at hq
    have:=congrArg List.length hq.2
    rw [length_drop] at this
    simp only [length_nil] at this
    omega
   ·rfl
  ·unfold x_hn
   rw [h1]
   split
   ·rename_i hq
    simp only [Option.some.injEq,Prod.mk.injEq] at hq
    rw [if_neg]
    rw [←hq.1];exact h
   ·rfl
  ·unfold x_hn
   rw [h1,h,Int.toNat_natCast,List.drop_length]
   simp only
   rw [if_pos h2]
theorem x_qe {p:x_e} {b:List Int} (h:¬ SOk p):x_hn p b=none:=by
 unfold x_hn
 split
 ·exact if_neg fun k=>h k.1
 ·rfl
theorem ti_KeepOf {K:Nat} (hK:2097152≤K) (p:x_e) (b:List Int) (hb:BSt b):Tot (x_cz K p b) fun o=>KOP p b o:=by
 have hl:=hb.2
 have no:x_hn p b=none→Tot (some ((([],[],[],0,[],[]):x_as),false,())) fun o=>KOP p b o:=fun h=>tr (by unfold KOP;rw [h])
 unfold x_cz x_cz.b
 refine tb (x_gt p) fun v1 g1=>tg g1 (fun a=>no (x_qe a)) fun hp=>?_
 have h0:CB b ((b,0,false):x_g):=⟨rfl,Int.le_refl _,by show (0:Int)≤_;omega⟩
 refine tb (ti_each1 hK hb _ h0) fun v2 g2=>?_
 obtain ⟨rs,e2,z2,g2⟩:=g2
 rw [e2]
 refine tb (ti_each2 hK hb _ ⟨g2.1,g2.2.in_.2⟩ _) fun v3 g3=>?_
 obtain ⟨ms,e3,z3,g3⟩:=g3
 rw [e3]
 refine tb (ti_each3 hK hb _ ⟨g3.1,g3.2.in_.2⟩ _ _ _ hp) fun v4 g4=>?_
 obtain ⟨gs,e4,e5,z4,g4⟩:=g4
 obtain ⟨c4,t4,p4,u4⟩:=v4
 simp only at e4 e5
 subst e4 e5
 refine tb (x_dp hK hb _ ⟨g4.1,g4.2.in_.2⟩) fun v5 g5=>?_
 refine x_o6 (C:=x_g×Unit) (fun c=>c.1) id (fun (y:List Int×List x_ct) xs=>y=(xs.map Prod.fst,xs.map Prod.snd)∧ ∀ x∈xs,ASz x.2) (dec:=(cN.pr cAns).dec) (n:=4) (by omega) (L:=fun k x c y=>x_cz.l0 K p4 b k x (c4,(rs,ms,gs,0,[],[]),p4,u4) v5 y.1 y.2 c)
  (B:=fun L' x c y=>x_cz.l0b K p4 b (fun x _ _ y z c=>L' x c (y,z)) x (c4,(rs,ms,gs,0,[],[]),p4,u4) v5 y.1 y.2 c) (fun _ _ _ _=>rfl) v5.2 g5.1.cb (y0:=([],[])) ⟨rfl,fun x h=>by simp at h⟩ (fun L' i c y xs hw hc hi hxl hi2 kk=>?_) (fun L' c y xs hw hc hxl hr=>?_) (by omega)
 ·obtain ⟨rfl,hw⟩:=hw
  unfold x_cz.l0b
  refine ti (fun _=>tb (x_dp hK hb _ hc) fun w1 f1=>tc (by show _≤70368744177664;dsimp only;simp only [length_append,length_cons,length_nil,length_map];omega) (tb (x_dp hK hb _ f1.1.cb) fun w2 f2=>tb (x_dp hK hb _ f2.1.cb) fun w3 f3=>tb (x_l9 hK hb _ f3.1.cb) fun w4 f4=>tb (x_l9 hK hb _ f4.1.cb) fun w5 f5=>tc (by show _≤70368744177664;dsimp only;simp only [length_append,length_cons,length_nil,length_map];omega) ?_)) fun h=>absurd hi h
  rw [w6 (n:=(i:Int)+1) (by omega) (by omega),w6 (n:=w3.1-1) (by omega) (by omega)]
  refine kk w5.2 _ (w1.1,w2.1,w3.1-1,w4.1,w5.1) ⟨by rw [List.map_append,List.map_append];rfl,fun z hz=>(mem_append.1 hz).elim (hw z) fun hz=>by rw [mem_singleton.1 hz];exact ⟨by show w4.1.size<_;have:=f4.2;omega,by show w5.1.size<_;have:=f5.2;omega⟩⟩ f5.1.1 ?_
  exact (f1.1.2.pr (f2.1.2.pr ((f3.1.2.map (fun n=>n-1)).pr (f4.1.2.pr f5.1.2)))).mono (t:=0) (by omega)
 ·obtain ⟨rfl,hw⟩:=hw
  unfold x_cz.l0b
  have e:Rd 0 (x_vv p4.1.toNat).dec b 0 false (rs,ms,gs,v5.1,xs.map Prod.fst,xs.map Prod.snd) c.1.2.1 c.1.2.2:=((g2.2.pr (g3.2.pr (g4.2.pr (g5.1.2.pr hr)))).map (fun a:List TRow×List x_am×List x_ag×Int×List (Int×x_ct)=>(a.1,a.2.1,a.2.2.1,a.2.2.2.1,a.2.2.2.2.map Prod.fst,a.2.2.2.2.map Prod.snd))).mono (t:=0) (by omega)
  obtain ⟨k1,k2,k3,k4⟩:=x_w1 e
  refine ti (fun h=>absurd h (by omega)) fun _=>tB (fun h=>no (k1 h)) fun q1=>tn (fun h=>no (k2 h)) fun q2=>?_
  refine tb (x_pf hK _ _ ⟨z2.1,z2.2,z3,z4.1,z4.2,by show (xs.map Prod.fst).length<_;rw [length_map];omega,by show (xs.map Prod.snd).length<_;rw [length_map];omega,fun a ha=>?_⟩) fun w gw=>tg gw (fun h=>no (k3 h)) fun h=>tr ?_
  ·obtain ⟨x,hx,rfl⟩:=List.mem_map.1 ha
   exact hw x hx
  ·unfold KOP
   rw [k4 q1 q2 h]
theorem t2_l7Keep {K:Nat} (hK:2097152≤K) {b:List Int} (hb:BSt b) (r:x_g) (h:CB b r) (rows:Int) (hr:0≤rows∧rows≤4):Tot (x_h K r rows) fun o=>RO 0 Bool.not (x_vv rows.toNat).dec b r o∧KSz o.1:=by
 have hl:=hb.2
 unfold x_h x_h.b
 have L3:∀ (u:x_g×Unit) (rs:List TRow) (ms:List x_am) (gs:List x_ag) (a1 a2:Int) (f1 f2:Bool),CB b u.1→Rd 1 (x_gk cRow.dec) b r.2.1 (!r.2.2) rs a1 f1→Rd 1 (x_gk x_jo.dec) b a1 f1 ms a2 f2→Rd 1 (x_gk (x_i2 rows.toNat).dec) b a2 f2 gs u.1.2.1 (!u.1.2.2)→(rs.length<2097152∧ ∀ x∈rs,RSz x)→MsSz ms→(gs.length<2097152∧ ∀ x∈gs,GSz x)→Tot (x_h.j0 K (x_h.l3 K r rows K) u rs ms gs) fun o=>RO 0 Bool.not (x_vv rows.toNat).dec b r o∧KSz o.1:=by
  intro u rs ms gs a1 a2 f1 f2 hu d1 d2 d3 z1 z2 z3
  unfold x_h.j0
  refine tb (x_do hK hb _ hu) fun v7 g7=>?_
  refine x_o6 (C:=x_g×Unit) (fun c=>c.1) Bool.not (fun (y:List Int×List x_ct) xs=>y=(xs.map Prod.fst,xs.map Prod.snd)∧ ∀ x∈xs,ASz x.2) (dec:=(cN.pr cAns).dec) (n:=4) (by omega) (L:=fun k x c y=>x_h.l3 K r rows k x c rs ms gs v7 y.1 y.2)
   (B:=fun L' x c y=>x_h.l3b K r rows (fun x c _ _ _ _ y z=>L' x c (y,z)) x c rs ms gs v7 y.1 y.2) (fun _ _ _ _=>rfl) v7.2 g7.1.cb (y0:=([],[])) ⟨rfl,fun x h=>by simp at h⟩ (fun L' i c y xs hw hc hi hxl hi2 kk=>?_) (fun L' c y xs hw hc hxl hr=>?_) (by omega)
  ·obtain ⟨rfl,hw⟩:=hw
   unfold x_h.l3b
   refine ti (fun _=>tb (x_do hK hb _ hc) fun w1 f1=>tb (x_do hK hb _ f1.1.cb) fun w2 f2=>tb (x_do hK hb _ f2.1.cb) fun w3 f3=>tb (x_m6 hK hb _ f3.1.cb) fun w4 f4=>tb (x_m6 hK hb _ f4.1.cb) fun w5 f5=>tc (by show _≤70368744177664;dsimp only;simp only [length_append,length_cons,length_nil,length_map];omega) (tc (by show _≤70368744177664;dsimp only;simp only [length_append,length_cons,length_nil,length_map];omega) ?_)) fun h=>absurd hi h
   rw [w6 (n:=(i:Int)+1) (by omega) (by omega),w6 (n:=w3.1-1) (by omega) (by omega)]
   refine kk w5.2 _ (w1.1,w2.1,w3.1-1,w4.1,w5.1) ⟨by rw [List.map_append,List.map_append];rfl,fun z hz=>(mem_append.1 hz).elim (hw z) fun hz=>by rw [mem_singleton.1 hz];exact ⟨by show w4.1.size<_;have:=f4.2;omega,by show w5.1.size<_;have:=f5.2;omega⟩⟩ f5.1.1 ?_
   exact (f1.1.2.pr (f2.1.2.pr ((f3.1.2.map (fun n=>n-1)).pr (f4.1.2.pr f5.1.2)))).mono (t:=0) (by omega)
  ·obtain ⟨rfl,hw⟩:=hw
   unfold x_h.l3b
   have e:Rd 0 (x_vv rows.toNat).dec b r.2.1 (!r.2.2) (rs,ms,gs,v7.1,xs.map Prod.fst,xs.map Prod.snd) c.1.2.1 (!c.1.2.2):=((d1.pr (d2.pr (d3.pr (g7.1.2.pr hr)))).map (fun a:List TRow×List x_am×List x_ag×Int×List (Int×x_ct)=>(a.1,a.2.1,a.2.2.1,a.2.2.2.1,a.2.2.2.2.map Prod.fst,a.2.2.2.2.map Prod.snd))).mono (t:=0) (by omega)
   refine ti (fun h=>absurd h (by omega)) fun _=>tr ⟨⟨hc.1,e⟩,z1.1,z1.2,z2,z3.1,z3.2,by show (xs.map Prod.fst).length<_;rw [length_map];omega,by show (xs.map Prod.snd).length<_;rw [length_map];omega,fun a ha=>?_⟩
   obtain ⟨x,hx,rfl⟩:=List.mem_map.1 ha
   exact hw x hx
 have L2:∀ (u:x_g×Unit) (rs:List TRow) (ms:List x_am) (a1:Int) (f1:Bool),CB b u.1→Rd 1 (x_gk cRow.dec) b r.2.1 (!r.2.2) rs a1 f1→Rd 1 (x_gk x_jo.dec) b a1 f1 ms u.1.2.1 (!u.1.2.2)→(rs.length<2097152∧ ∀ x∈rs,RSz x)→MsSz ms→Tot (x_h.j1 K (x_h.l2 K r rows K) u rs ms) fun o=>RO 0 Bool.not (x_vv rows.toNat).dec b r o∧KSz o.1:=by
  intro u rs ms a1 f1 hu d1 d2 z1 z2
  unfold x_h.j1
  refine tb (x_do hK hb _ hu) fun v5 g5=>?_
  have fin:=fun (c:x_g×Unit) (gs:List x_ag) (hc:CB b c.1) (hr:Rd 0 (decR (x_i2 rows.toNat).dec v5.1.toNat) b v5.2.1.2.1 (!v5.2.1.2.2) gs c.1.2.1 (!c.1.2.2)) (hs:gs.length<2097152∧ ∀ x∈gs,GSz x)=>L3 c rs ms gs _ _ _ _ hc d1 d2 (g5.1.2.list hr) z1 z2 hs
  refine x_gb (C:=x_g×Unit) (fun c=>c.1) Bool.not (fun (y:List x_ag) xs=>y=xs∧ ∀ x∈xs,GSz x) (dec:=(x_i2 rows.toNat).dec) hl (n:=v5.1) (L:=fun k x c y=>x_h.l2 K r rows k v5 x c rs ms y)
   (B:=fun L' x c y=>x_h.l2b K r rows (fun _ x c _ _ y=>L' x c y) (x_h.l3 K r rows K) v5 x c rs ms y) (fun _ _ _ _=>rfl) v5.2 g5.1.cb ⟨rfl,fun x h=>by simp at h⟩ (fun L' i c y xs hw hc hi hf hi2 hx kk=>?_) (fun L' i c y xs hw hxl hc hi hr=>?_) (by omega)
  ·obtain ⟨rfl,hw⟩:=hw
   unfold x_h.l2b
   refine ti (fun _=>tB (fun _=>?_) fun e=>by rw [x_r8 hf] at e;cases e) fun h=>absurd hi h
   refine tb (t2_group hK hb _ hc _ hr) fun w1 e1=>tc (by show _≤70368744177664;(try dsimp only);(try simp only [ll_]);omega) ?_
   rw [w6 (by omega) (by omega)]
   exact kk w1.2 _ w1.1 ⟨rfl,fun z hz=>(mem_append.1 hz).elim (hw z) fun hz=>by rw [mem_singleton.1 hz];exact e1.2⟩ e1.1.1 e1.1.2
  ·obtain ⟨rfl,hw⟩:=hw
   unfold x_h.l2b
   refine ti (fun h1=>tB (fun e=>by have:=hi h1;rw [show c.1.2.2=true from e] at this;cases this) fun _=>fin c _ hc hr ⟨by omega,hw⟩) fun _=>fin c _ hc hr ⟨by omega,hw⟩
 have L1:∀ (u:x_g×Unit) (rs:List TRow),CB b u.1→Rd 1 (x_gk cRow.dec) b r.2.1 (!r.2.2) rs u.1.2.1 (!u.1.2.2)→(rs.length<2097152∧ ∀ x∈rs,RSz x)→Tot (x_h.j2 K (x_h.l1 K r rows K) u rs) fun o=>RO 0 Bool.not (x_vv rows.toNat).dec b r o∧KSz o.1:=by
  intro u rs hu g z1
  unfold x_h.j2
  refine tb (x_do hK hb _ hu) fun v3 g3=>?_
  refine x_gb (C:=x_g×Unit) (fun c=>c.1) Bool.not (fun (y:List x_am) xs=>y=xs∧ ∀ x∈xs,MkS x) (dec:=x_jo.dec) hl (n:=v3.1) (L:=fun k x c y=>x_h.l1 K r rows k v3 x c rs y)
   (B:=fun L' x c y=>x_h.l1b K r rows (fun _ x c _ y=>L' x c y) (x_h.l2 K r rows K) v3 x c rs y) (fun _ _ _ _=>rfl) v3.2 g3.1.cb ⟨rfl,fun x h=>by simp at h⟩ (fun L' i c y xs hw hc hi hf hi2 hx kk=>?_) (fun L' i c y xs hw hxl hc hi hr=>?_) (by omega)
  ·obtain ⟨rfl,hw⟩:=hw
   unfold x_h.l1b
   refine ti (fun _=>tB (fun _=>?_) fun e=>by rw [x_r8 hf] at e;cases e) fun h=>absurd hi h
   refine tb (t2_maker hK hb _ hc) fun w1 e1=>tc (by show _≤70368744177664;(try dsimp only);(try simp only [ll_]);omega) ?_
   rw [w6 (by omega) (by omega)]
   exact kk w1.2 _ w1.1 ⟨rfl,fun z hz=>(mem_append.1 hz).elim (hw z) fun hz=>by rw [mem_singleton.1 hz];exact e1.2⟩ e1.1.1 e1.1.2
  ·obtain ⟨rfl,hw⟩:=hw
   unfold x_h.l1b
   have fin:=L2 c rs _ _ _ hc g (g3.1.2.list hr) z1 ⟨by omega,hw⟩
   refine ti (fun h1=>tB (fun e=>by have:=hi h1;rw [show c.1.2.2=true from e] at this;cases this) fun _=>fin) fun _=>fin
 refine tb (x_do hK hb _ h) fun v1 g1=>?_
 refine x_gb (C:=x_g×Unit) (fun c=>c.1) Bool.not (fun (y:List TRow) xs=>y=xs∧ ∀ x∈xs,RSz x) (dec:=cRow.dec) hl (n:=v1.1) (L:=fun k x c y=>x_h.l0 K r rows k v1 x c y)
  (B:=fun L' x c y=>x_h.l0b K r rows (fun _ x c y=>L' x c y) (x_h.l1 K r rows K) v1 x c y) (fun _ _ _ _=>rfl) v1.2 g1.1.cb ⟨rfl,fun x h=>by simp at h⟩ (fun L' i c y xs hw hc hi hf hi2 hx kk=>?_) (fun L' i c y xs hw hxl hc hi hr=>?_) (by omega)
 ·obtain ⟨rfl,hw⟩:=hw
  unfold x_h.l0b
  refine ti (fun _=>tB (fun _=>?_) fun e=>by rw [x_r8 hf] at e;cases e) fun h=>absurd hi h
  refine tb (t2_row hK hb _ hc) fun w1 e1=>tc (by show _≤70368744177664;(try dsimp only);(try simp only [ll_]);omega) ?_
  rw [w6 (by omega) (by omega)]
  exact kk w1.2 _ w1.1 ⟨rfl,fun z hz=>(mem_append.1 hz).elim (hw z) fun hz=>by rw [mem_singleton.1 hz];exact e1.2⟩ e1.1.1 e1.1.2
 ·obtain ⟨rfl,hw⟩:=hw
  unfold x_h.l0b
  have fin:=L1 c _ hc (g1.1.2.list hr) ⟨by omega,hw⟩
  refine ti (fun h1=>tB (fun e=>by have:=hi h1;rw [show c.1.2.2=true from e] at this;cases this) fun _=>fin) fun _=>fin
theorem t2_KeepOf {K:Nat} (hK:2097152≤K) (p:x_e) (b:List Int) (hb:BSt b):Tot (x_ix K p b) fun o=>KOP p b o:=by
 have hl:=hb.2
 have no:x_hn p b=none→Tot (some ((([],[],[],0,[],[]):x_as),false,())) fun o=>KOP p b o:=fun h=>tr (by unfold KOP;rw [h])
 unfold x_ix
 refine tb (x_e5 p) fun v1 g1=>tg g1 (fun a=>no (x_qe a)) fun hp=>?_
 have hp1:=hp.1
 refine tb (t2_l7Keep hK hb ((b,0,true):x_g) ⟨rfl,Int.le_refl _,by show (0:Int)≤_;omega⟩ _ (by omega)) fun v2 g2=>?_
 obtain ⟨k1,k2,k3,k4⟩:=x_w1 (p:=p) g2.1.2
 refine tN (fun h=>no (k1 (by rw [h];rfl))) fun q1=>tn (fun h=>no (k2 h)) fun q2=>?_
 refine tb (x_ox hK p _ g2.2) fun v3 g3=>tg g3 (fun h=>no (k3 h)) fun h=>tr ?_
 unfold KOP
 rw [k4 (by rw [q1];rfl) q2 h]
theorem x_i8 (l:TLog) (h:l.2.2.length<2097152):Tot (x_eu l) fun x=>x.1=l:=by
 unfold x_eu
 exact tc (by show _≤70368744177664;(try dsimp only);(try simp only [ll_]);omega) (tr rfl)
theorem x_x3 (r:TRow) (h:r.2.2.length<2097152):Tot (x_ld r) fun x=>x.1=r:=by
 unfold x_ld
 exact tc (by show _≤70368744177664;(try dsimp only);(try simp only [ll_]);omega) (tr rfl)
theorem x_id (l:List Int) (h:l.length<2097152):Tot (x_fx l) fun x=>x.1=l:=by
 unfold x_fx
 exact tc (by show _≤70368744177664;(try dsimp only);(try simp only [ll_]);omega) (tr rfl)
theorem x_rq (g:x_ag) (h:GSz g):Tot (x_h7 g) fun x=>x.1=g:=by
 unfold x_h7
 exact tv (x_id _ h.1) (tv (x_id _ h.2.1) (tv (x_id _ h.2.2) (tr rfl)))
theorem x_so (m:x_am) (h:m.2.2.2.2.length<2097152):Tot (x_ia m) fun x=>x.1=m:=by
 unfold x_ia
 exact tc (by show _≤70368744177664;(try dsimp only);(try simp only [ll_]);omega) (tr rfl)
theorem x_p8 {K:Nat} (hK:2097152≤K) (l:List x_am) (h:MsSz l):Tot (x_ax K l) fun x=>x.1=l:=by
 have h1:=h.1
 unfold x_ax x_ax.b
 refine l2_ (L:=x_ax.l0 K l) (fun _ _ _=>rfl) (fun m q x=> ∃ i:Nat,x=i∧i+m=l.length∧q=l.take i) (fun m q x L' hi kk=>?_) (m:=l.length) (by omega) ⟨0,rfl,by omega,rfl⟩
 obtain ⟨i,rfl,hm,rfl⟩:=hi
 unfold x_ax.l0b
 rw [Int.toNat_natCast]
 refine ti (fun h1=>tc (by omega) (tc h1 ?_)) fun h1=>tr (List.take_of_length_le (by omega))
 have hi:i<l.length:=by omega
 refine tv (x_so _ (h.2 _ (x_ae hi)).1) (tc (by show _≤70368744177664;(try dsimp only);(try simp only [ll_]);omega) ?_)
 rw [w6 (by omega) (by omega)]
 exact kk (m-1) _ _ (by omega) ⟨i+1,by push_cast;rfl,by omega,x_dz hi⟩
theorem x_u4 {K:Nat} (hK:2097152≤K) (k:x_as) (h:KSz k):Tot (x_ad K k) fun x=>x.1=k:=by
 obtain ⟨z1,z2,z3,z4,z5,z6,z7,z8⟩:=h
 unfold x_ad x_ad.b
 refine l2_ (L:=x_ad.l0 K k) (b:=fun L'=>x_ad.l0b K k L' (x_ad.l1 K k K)) (fun _ _ _=>rfl) (fun m x q=> ∃ i:Nat,x=i∧i+m=k.1.length∧q=k.1.take i) (fun m x q L' hi kk=>?_) (m:=k.1.length) (by omega) ⟨0,rfl,by omega,rfl⟩
 obtain ⟨i,rfl,hm,rfl⟩:=hi
 unfold x_ad.l0b
 rw [Int.toNat_natCast]
 refine ti (fun h1=>tc (by omega) (tc h1 ?_)) fun h1=>?_
 ·have hi:i<k.1.length:=by omega
  refine tv (x_x3 _ (z2 _ (x_ae hi)).1) (tc (by show _≤70368744177664;(try dsimp only);(try simp only [ll_]);omega) ?_)
  rw [w6 (by omega) (by omega)]
  exact kk (m-1) _ _ (by omega) ⟨i+1,by push_cast;rfl,by omega,x_dz hi⟩
 rw [List.take_of_length_le (show k.1.length≤i by omega)]
 refine l3_ (L:=x_ad.l1 K k) (fun _ _ _ _=>rfl) (fun m x r q=>r=k.1∧ ∃ i:Nat,x=i∧i+m=k.2.2.1.length∧q=k.2.2.1.take i) (fun m x r q L' hi kk=>?_) (m:=k.2.2.1.length) (by omega) ⟨rfl,0,rfl,by omega,rfl⟩
 obtain ⟨rfl,i,rfl,hm,rfl⟩:=hi
 unfold x_ad.l1b
 rw [Int.toNat_natCast]
 refine ti (fun h1=>tc (by omega) (tc h1 ?_)) fun h1=>?_
 ·have hi:i<k.2.2.1.length:=by omega
  refine tv (x_rq _ (z5 _ (x_ae hi))) (tc (by show _≤70368744177664;(try dsimp only);(try simp only [ll_]);omega) ?_)
  rw [w6 (by omega) (by omega)]
  exact kk (m-1) _ _ _ (by omega) ⟨rfl,i+1,by push_cast;rfl,by omega,x_dz hi⟩
 ·rw [List.take_of_length_le (show k.2.2.1.length≤i by omega)]
  exact tv (x_p8 hK _ z3) (tv (x_id _ z6) (tc (by show _≤70368744177664;(try dsimp only);(try simp only [ll_]);omega) (tr rfl)))
theorem x_vd {K:Nat} (hK:2097152≤K) (h:x_eh) (hl:h.2.2.1.2.2.length<2097152) (hk:KSz h.2.2.2):Tot (x_e9 K h) fun x=>x.1=h:=by
 unfold x_e9
 exact tv (x_i8 _ hl) (tv (x_u4 hK _ hk) (tr rfl))
theorem x_vr (rows:Int) (h:1≤rows∧rows≤4):Tot (x_jx rows) fun x=>x.1=(0,[],[],List.replicate rows.toNat 0):=by
 unfold x_jx
 exact tb (x_2 _ _ _) fun v hv=>tg hv (fun a=>absurd h a) fun a=>tc rfl (tc (by omega) (tc (by show _≤70368744177664;(try dsimp only);(try simp only [ll_]);omega) (tr rfl)))
theorem x_q1 {K:Nat} (hK:2097152≤K) (s:x_e) (hs:SOk s):Tot (x_bo K s) fun x=>x.1=newK s:=by
 have hr:=hs.1
 unfold x_bo x_bo.b
 refine tb (x_gt s) fun v1 g1=>tg g1 (fun a=>absurd hs a) fun _=>tc rfl (tc (by omega) (tc (by show _≤70368744177664;(try dsimp only);(try simp only [ll_]);omega) ?_))
 refine l2_ (L:=x_bo.l0 K s) (fun _ _ _=>rfl) (fun m x q=> ∃ i:Nat,x=i∧i+m=2∧q=List.replicate i (0,[],[],List.replicate s.1.toNat 0)) (fun m x q L' hi kk=>?_) (m:=2) (by omega) ⟨0,rfl,by omega,rfl⟩
 obtain ⟨i,rfl,hm,rfl⟩:=hi
 unfold x_bo.l0b
 refine ti (fun h1=>?_) fun h1=>tr ?_
 ·refine tv (x_vr _ hr) (tc (by show _≤70368744177664;rw [length_replicate];simp;omega) ?_)
  rw [w6 (by omega) (by omega)]
  exact kk (m-1) _ _ (by omega) ⟨i+1,by push_cast;rfl,by omega,by rw [List.replicate_succ']⟩
 ·obtain rfl:i=2:=by omega
  rfl
theorem x_rn {K:Nat} (hK:2097152≤K) (s:x_e) (hs:SOk s):Tot (x_hc K s) fun x=>x.1=newH s:=by
 unfold x_hc
 exact tb (x_gt s) fun v1 g1=>tg g1 (fun a=>absurd hs a) fun _=>tv (x_q1 hK s hs) (tr rfl)
theorem x_mx {K:Nat} (hK:2097152≤K) (s:x_e) (hs:SOk s):Tot (x_f5 K s) fun x=>x.1=newH s:=by
 unfold x_f5
 exact tb (x_e5 s) fun v1 g1=>tg g1 (fun a=>absurd hs a) fun _=>tb (x_i5 hK s hs) fun v2 g2=>tr (by rw [g2.2];rfl)
theorem x_wc {s:x_e} (hs:SOk s):HOk s (newH s):=by
 obtain ⟨v,h,h1,h2⟩:=Tot.and (x_k0 (Nat.le_refl _) s hs) (x_mx (Nat.le_refl _) s hs)
 rw [h2] at h1
 exact h1.1
theorem x_uk (l:TLog) (h:LBd l) (i:Int):Tot (x_lz l i) fun x=>x.1=x_rk l i:=by
 obtain ⟨h1,h2⟩:=h
 have hl:x_ey l=l.1+(l.2.2.length:Int):=rfl
 unfold x_lz x_rk
 refine ti (fun a=>tr (by rw [if_pos a])) fun a=>?_
 rw [if_neg a]
 refine tb (x_2 _ _ _) fun v1 g1=>tg g1 (fun b=>tr (by rw [if_neg (by omega)])) fun b1=>?_
 refine tb (x_2 _ _ _) fun v2 g2=>tg g2 (fun b=>tr (by rw [if_neg (by omega)])) fun b2=>?_
 rw [w6 (n:=i-l.1) (by omega) (by omega),w6 (n:=i-l.1-1) (by omega) (by omega)]
 refine tb (x_2 _ _ _) fun v3 g3=>tg g3 (fun b=>tr (by rw [if_neg (by omega)])) fun b3=>?_
 exact tc (by omega) (tc (by omega) (tr (by rw [if_pos (by omega)])))
theorem putN_ge {d:Nat} {l es:List x_cf} (h:d≤l.length):∀ j,d+j≤(putN d l es j).length
 | 0=>h
 | j+1=>by
  have:=putN_ge (d:=d) (l:=l) (es:=es) h j
  unfold putN x_ju
  split
  ·omega
  ·simp only [length_append,length_take,length_singleton];omega
theorem ti_LogPut {K:Nat} (hK:2097152≤K) (l:TLog) (hz:LSz l) (a:LOk l) (prev term:Int) (es:List x_cf) (he:EsSz es) (h40:es.length≤40) :
  Tot (x_dd K l prev term es) fun x=>(x_pj l prev term es→x=(x_ml l prev es,true,()))∧(¬ x_pj l prev term es→x.2.1=false):=by
 unfold x_dd x_dd.b
 refine tb (x_sc hK l hz) fun v1 g1=>tg g1 (fun b=>absurd a b) fun _=>?_
 refine tb (x_i8 l hz.1) fun v2 h2=>?_
 have no:¬ x_pj l prev term es→Tot (some (v2.1,false,())) fun x=>(x_pj l prev term es→x=(x_ml l prev es,true,()))∧(¬ x_pj l prev term es→x.2.1=false):=
  fun k=>tr ⟨fun k'=>absurd k' k,fun _=>rfl⟩
 refine ti (fun b=>no fun k=>by have:=k.1;omega) fun b=>?_
 refine tb (x_uk l a.bd prev) fun v3 h3=>tn (fun c=>no fun k=>c (by rw [h3];exact k.2.1)) fun c=>?_
 rw [h3] at c
 have hin:=x_ts (l:=l) (i:=prev) (by omega) a.last.1
 have hlast:=a.last
 have hl0:=a.2.2.1
 have hb0:=a.1
 have hN:x_ey l=l.1+(l.2.2.length:Int):=rfl
 have hd:i6 (prev-l.1)=prev-l.1:=w6 (by omega) (by omega)
 refine l3_ (L:=x_dd.l0 K l prev term es) (fun _ _ _ _=>rfl) (fun m x v q=>v.1=l∧ ∃ j:Nat,x=j∧j+m=es.length∧q=putN (prev-l.1).toNat l.2.2 es j) (fun m x v q L' hi kk=>?_) (m:=es.length) (by omega) ⟨h2,0,rfl,by omega,by rw [h2];rfl⟩
 obtain ⟨hv,j,rfl,hm,rfl⟩:=hi
 have hsz:=x_xk (d:=(prev-l.1).toNat) hz.2 he.2 j (by omega)
 have hge:=putN_ge (d:=(prev-l.1).toNat) (l:=l.2.2) (es:=es) (by omega) j
 generalize hq:putN (prev-l.1).toNat l.2.2 es j=q at hsz hge
 unfold x_dd.l0b
 rw [hd,w6 (n:=prev-l.1+(j:Int)) (by omega) (by omega),w6 (n:=(j:Int)+1) (by omega) (by omega),Int.toNat_natCast,show Int.toNat (prev-l.1+(j:Int))=(prev-l.1).toNat+j by omega]
 have hql:=hsz.2
 have next:∀ q',q'=putN (prev-l.1).toNat l.2.2 es (j+1)→j<es.length→Tot (L' ((j:Int)+1) v q') fun x=>(x_pj l prev term es→x=(x_ml l prev es,true,()))∧(¬ x_pj l prev term es→x.2.1=false):=
  fun q' hq' hj=>kk (m-1) _ _ _ (by omega) ⟨hv,j+1,by push_cast;rfl,by omega,hq'⟩
 refine ti (fun h4=>tc (by omega) (tc h4 ?_)) fun h4=>?_
 ·have hj:j<es.length:=by omega
  refine ti (fun h5=>tc (by omega) (tc h5 (ti (fun h6=>next q ?_ hj) fun h6=>?_))) fun h5=>?_
  ·unfold putN x_ju
   rw [hq,if_pos ⟨by omega,h6⟩]
  ·refine tc rfl (tc (by omega) (tc (by omega) (tc (by show _≤70368744177664;(try dsimp only);(try simp only [ll_]);omega) (next _ ?_ hj))))
   unfold putN x_ju
   rw [hq,if_neg (fun k=>h6 k.2)]
   simp
  ·refine tc rfl (tc (by omega) (tc (by omega) (tc (by show _≤70368744177664;(try dsimp only);(try simp only [ll_]);omega) (next _ ?_ hj))))
   unfold putN x_ju
   rw [hq,if_neg (fun k=>by omega)]
   simp
 ·have hj:j=es.length:=by omega
  have hlp:(v.1.1,v.1.2.1,q)=x_ml l prev es:=by rw [hv, ←hq,hj];rfl
  refine tb (x_sc hK (v.1.1,v.1.2.1,q) ⟨by show q.length<_;have:=hz.1;omega,hsz.1⟩) fun v4 g4=>tg g4 (fun k=>?_) fun k=>tr ⟨fun _=>by rw [←hlp],fun k'=>absurd ⟨by omega,c,by rw [←hlp];exact k⟩ k'⟩
  exact tv (x_i8 l hz.1) (tr ⟨fun k'=>absurd (by rw [hlp];exact k'.2.2) k,fun _=>rfl⟩)
theorem ti_LogCut (l:TLog) (h:LBd l) (i:Int):Tot (x_ov l i) fun x=>x.1=x_ho l i:=by
 obtain ⟨h1,h2⟩:=h
 have hl:x_ey l=l.1+(l.2.2.length:Int):=rfl
 have cp:¬ (l.1<i∧i≤x_ey l∧i≤300∧0≤l.1)→Tot ((x_eu l).bind fun v=>some (v.1,())) fun x=>x.1=x_ho l i:=fun k=>tv (x_i8 l h2) (tr (by unfold x_ho;rw [if_neg k]))
 unfold x_ov
 refine tb (x_2 _ _ _) fun v1 g1=>tg g1 (fun b=>cp (by omega)) fun b1=>?_
 refine tb (x_2 _ _ _) fun v2 g2=>tg g2 (fun b=>cp (by omega)) fun b2=>?_
 rw [w6 (n:=i-l.1) (by omega) (by omega),w6 (n:=i-l.1-1) (by omega) (by omega)]
 refine ti (fun b=>cp (by omega)) fun b3=>ti (fun b=>cp (by omega)) fun b4=>?_
 refine tc (by omega) (tc (by omega) (tc rfl (tc (by omega) (tc (by omega) (tc (by omega) (tc (by show _≤70368744177664;(try dsimp only);(try simp only [ll_]);omega) (tr ?_)))))))
 unfold x_ho
 rw [if_pos (by omega),Int.toNat_natCast,List.take_length]
 rfl
theorem x_xi {K:Nat} (hK:2097152≤K) (p:x_e) (h:x_eh) (hh:HOk p h) (r:x_cw) (hr:NtOk r):Tot (x_n2 K p h r) fun x=>x.1=hdo0 p h r:=by
 obtain ⟨h1,h2,h3,h4,h5⟩:=hh
 have hz:HSz h:=HOk.sz ⟨h1,h2,h3,h4,h5⟩
 have he:=hr.2.2.1
 unfold x_n2 hdo0
 refine ti (fun e=>tr (by rw [if_pos e])) fun e1=>?_
 rw [if_neg e1]
 refine ti (fun e2=>?_) fun e2=>?_
 ·rw [if_pos e2]
  refine tb (x_r9 hK _ hz.1 _ _ _ he.sz he.2) fun v1 g1=>?_
  have g:=g1.1 h3
  by_cases k:x_pj h.2.2.1 r.2.2.2.1 r.2.1 r.2.2.2.2.1
  ·rw [g.1 k,if_pos k]
   exact tr rfl
  ·rw [g.2 k,if_neg k]
   exact tr rfl
 ·rw [if_neg e2]
  refine ti (fun _=>?_) fun e3=>absurd (show r.1=1∨r.1=2∨r.1=3 by rcases hr.2.2.2.2 with k | k | k<;>simp [k.1]) (by omega)
  refine tb (t2_KeepOf hK p _ (x_t4 _ hr.2.2.2.1)) fun v2 g2=>?_
  unfold KOP at g2
  cases hk:x_hn p (x_ck r.2.2.2.2.2) with
  | none=>
   rw [hk] at g2
   simp only at g2
   subst g2
   exact tr rfl
  | some k=>
   rw [hk] at g2
   simp only at g2
   subst g2
   simp only
   refine ti (fun e=>tr (by rw [if_pos e])) fun e=>?_
   rw [if_neg e]
   refine tb (x_g2 _ hz.bd _) fun v3 g3=>?_
   rw [g3]
   refine ti (fun e=>?_) fun e=>tr (by rw [if_neg e])
   rw [if_pos e]
   exact tv (x_sf _ hz.bd _) (tr rfl)
theorem hdo0_sz {p:x_e} {h:x_eh} (hh:HOk p h) {r:x_cw} (hr:NtOk r):HSz (hdo0 p h r):=by
 obtain ⟨v,_,h1,h2⟩:=Tot.and (t_l11Do (Nat.le_refl _) p h hh r hr) (x_xi (Nat.le_refl _) p h hh r hr)
 rwa [h2] at h1
theorem hdo_pos {p:x_e} {h:x_eh} {r:x_cw} (k:HOk p h∧NtOk r∧HOk p (hdo0 p h r)):hdo p h r=hdo0 p h r:=by unfold hdo;rw [if_pos k]
theorem hdo_neg {p:x_e} {h:x_eh} {r:x_cw} (k:¬ (HOk p h∧NtOk r∧HOk p (hdo0 p h r))):hdo p h r=h:=by unfold hdo;rw [if_neg k]
theorem x_ss {p:x_e} {h:x_eh} {r:x_cw} (k:hdo0 p h r=h):hdo p h r=h:=by unfold hdo;split<;>first | exact k | rfl
theorem hdo_ok {p:x_e} {h:x_eh} {r:x_cw} (k:HOk p h):HOk p (hdo p h r):=by
 unfold hdo
 split
 ·rename_i e;exact e.2.2
 ·exact k
theorem t2_HardDo {K:Nat} (hK:2097152≤K) (p:x_e) (h:x_eh) (hh:HOk p h) (r:x_cw) (hr:NtOk r):Tot (x_fa K p h r) fun x=>x.1=hdo p h r:=by
 have hz:=hh.sz
 unfold x_fa
 have cp:=x_ok hK h hz.1.1 hz.2.2
 refine tb (x_oi hK p h hz) fun v1 g1=>tg g1 (fun a=>absurd hh a) fun a1=>?_
 refine tb (x_kg hK r hr.es) fun v2 g2=>tg g2 (fun a=>absurd hr a) fun a2=>?_
 refine tv cp (tb (x_xi hK p h a1 r a2) fun v6 g6=>?_)
 rw [g6]
 exact tb (x_oi hK p _ (hdo0_sz hh hr)) fun v7 g7=>tg g7 (fun a=>tv cp (tr (hdo_neg fun k=>a k.2.2).symm)) fun a3=>tr (hdo_pos ⟨hh,hr,a3⟩).symm
theorem ti_HardDo {K:Nat} (hK:2097152≤K) (p:x_e) (h:x_eh) (hh:HOk p h) (r:x_cw) (hr:NtOk r):Tot (x_fk K p h r) fun x=>x.1=hdo p h r:=by
 have hz:=hh.sz
 have he:=hr.2.2.1
 have cp:=x_vd hK h hz.1.1 hz.2.2
 have j:∀ t:x_eh,hdo0 p h r=t→Tot (x_fk.j0 K p t.1 t.2.1 t.2.2.1.1 t.2.2.1.2.1 t.2.2.1.2.2 t.2.2.2 h) fun x=>x.1=hdo p h r:=fun t ht=>by
  subst ht
  unfold x_fk.j0
  exact tb (x_lp hK p (hdo0 p h r) (hdo0_sz hh hr).w) fun v7 g7=>tg g7 (fun a=>tv cp (tr (hdo_neg fun k=>a k.2.2).symm)) fun a3=>tr (hdo_pos ⟨hh,hr,a3⟩).symm
 unfold x_fk
 refine tb (x_lp hK p h hz.w) fun v1 g1=>tg g1 (fun a=>absurd hh a) fun a1=>?_
 refine tb (x_o4 hK r hr.es) fun v2 g2=>tg g2 (fun a=>absurd hr a) fun a2=>tv cp ?_
 refine ti (fun e=>?_) fun e1=>?_
 ·exact j (r.2.1,r.2.2.1,h.2.2.1,h.2.2.2) (by unfold hdo0;rw [if_pos e])
 refine ti (fun e2=>?_) fun e2=>?_
 ·refine tb (ti_LogPut hK _ hz.1 hh.2.2.1 _ _ _ he.sz he.2) fun v6 g6=>?_
  by_cases k:x_pj h.2.2.1 r.2.2.2.1 r.2.1 r.2.2.2.2.1
  ·rw [g6.1 k]
   exact j (h.1,h.2.1,x_ml h.2.2.1 r.2.2.2.1 r.2.2.2.2.1,h.2.2.2) (by unfold hdo0;rw [if_neg e1,if_pos e2,if_pos k])
  ·have same:hdo p h r=h:=x_ss (by unfold hdo0;rw [if_neg e1,if_pos e2,if_neg k])
   refine tB (fun e=>by rw [g6.2 k] at e;cases e) fun _=>?_
   exact tb (x_lp hK p h hz.w) fun v7 g7=>tg g7 (fun a=>tv cp (tr same.symm)) fun a3=>tr same.symm
 ·refine tb (ti_KeepOf hK p _ (x_t4 _ hr.2.2.2.1)) fun v2 g2=>?_
  unfold KOP at g2
  cases hk:x_hn p (x_ck r.2.2.2.2.2) with
  | none=>
   rw [hk] at g2
   simp only at g2
   subst g2
   exact tr (x_ss (by unfold hdo0;rw [if_neg e1,if_neg e2,hk])).symm
  | some k=>
   rw [hk] at g2
   simp only at g2
   subst g2
   refine tN (fun e=>bad' e) fun _=>ti (fun e=>tr (x_ss (by unfold hdo0;rw [if_neg e1,if_neg e2,hk];exact if_pos e)).symm) fun e=>?_
   refine tb (x_uk _ hz.bd _) fun v3 g3=>?_
   rw [g3]
   refine ti (fun e4=>tv (ti_LogCut _ hz.bd _) ?_) fun e4=>?_
   ·exact j (h.1,h.2.1,x_ho h.2.2.1 r.2.2.2.1,k) (by unfold hdo0;rw [if_neg e1,if_neg e2,hk];simp only;rw [if_neg e,if_pos e4])
   ·exact j (h.1,h.2.1,(r.2.2.2.1,r.2.1,[]),k) (by unfold hdo0;rw [if_neg e1,if_neg e2,hk];simp only;rw [if_neg e,if_neg e4])
theorem x_xb {p:x_e} (hp:SOk p) (ns:List x_cw):HOk p (hof p ns):=by
 have:∀ (ns:List x_cw) (h:x_eh),HOk p h→HOk p (ns.foldl (hdo p) h):=fun ns=>by
  induction ns with
  | nil=>exact fun h k=>k
  | cons r ns ih=>exact fun h k=>ih _ (hdo_ok k)
 exact this ns _ (x_wc hp)
theorem hof_at {p:x_e} {ns:List x_cw} {i:Nat} (h:i<ns.length):hof p (ns.take (i+1))=hdo p (hof p (ns.take i)) (ns.getD i zNote):=by
 rw [←hof_app,x_dz h]
theorem ti_HardOf {K:Nat} (hK:2097152≤K) (p:x_e) (hp:SOk p) (b:List Int) (hb:BSt b):Tot (x_dc K p b) fun x=>x.1=hof p (ntsOf b).1:=by
 have hl:=hb.2
 unfold x_dc x_dc.b
 refine tb (x_rn hK p hp) fun v1 g1=>tb (ti_Notes hK b hb) fun v2 g2=>?_
 obtain ⟨e1,e2,e3,e4,e5⟩:=g2
 refine l3_ (L:=x_dc.l0 K p b) (fun _ _ _ _=>rfl) (fun m v x h=>v=v2∧ ∃ i:Nat,x=i∧i+m=v2.1.length∧h.1=hof p (v2.1.take i)) (fun m v x h L' hi kk=>?_) (m:=v2.1.length) (by omega) ⟨rfl,0,rfl,by omega,g1⟩
 obtain ⟨rfl,i,rfl,hm,hh⟩:=hi
 unfold x_dc.l0b
 refine ti (fun a=>?_) fun _=>tr (by rw [List.take_of_length_le (by omega),e1] at hh;exact hh)
 rw [w6 (n:=(i:Int)+1) (by omega) (by omega),Int.toNat_natCast,hh]
 have hi:i<v.1.length:=by omega
 exact tc (by omega) (tc a (tb (ti_HardDo hK p _ (x_xb hp _) _ (e3 _ (x_ae hi))) fun v3 g3=>kk (m-1) _ _ _ (by omega) ⟨rfl,i+1,by push_cast;rfl,by omega,by rw [g3,hof_at hi]⟩))
theorem t2_HardOf {K:Nat} (hK:2097152≤K) (p:x_e) (hp:SOk p) (b:List Int) (hb:BSt b):Tot (x_ce K p b) fun x=>x.1=hof p (ntsOf b).1:=by
 have hl:=hb.2
 unfold x_ce x_ce.b
 refine tb (x_mx hK p hp) fun v1 g1=>tb (t2_Notes hK b hb) fun v2 g2=>?_
 obtain ⟨e1,e2,e3,e4,e5⟩:=g2
 refine l3_ (L:=x_ce.l0 K p b) (fun _ _ _ _=>rfl) (fun m v x h=>v=v2∧ ∃ i:Nat,x=i∧i+m=v2.1.length∧h.1=hof p (v2.1.take i)) (fun m v x h L' hi kk=>?_) (m:=v2.1.length) (by omega) ⟨rfl,0,rfl,by omega,g1⟩
 obtain ⟨rfl,i,rfl,hm,hh⟩:=hi
 unfold x_ce.l0b
 refine ti (fun a=>?_) fun _=>tr (by rw [List.take_of_length_le (by omega),e1] at hh;exact hh)
 rw [w6 (n:=(i:Int)+1) (by omega) (by omega),Int.toNat_natCast,hh]
 have hi:i<v.1.length:=by omega
 exact tc (by omega) (tc a (tb (t2_HardDo hK p _ (x_xb hp _) _ (e3 _ (x_ae hi))) fun v3 g3=>kk (m-1) _ _ _ (by omega) ⟨rfl,i+1,by push_cast;rfl,by omega,by rw [g3,hof_at hi]⟩))
theorem x_i6 {α : Type} {a b:List α} {z : α} (h:a.length=b.length) (k:∀ i,i<a.length→a.getD i z=b.getD i z):a=b:=by
 refine List.ext_getElem h fun i h1 h2=>?_
 have:=k i h1
 rwa [x_aw h1,x_aw h2] at this
theorem same_es {K:Nat} (hK:2097152≤K) (a b:List x_cf) (h:a.length<2097152):Tot (x_c1 K a b) fun r=>Is r.1 (a=b):=by
 unfold x_c1 x_c1.b
 refine tn (fun e=>tr (x_a fun k=>e (by rw [k]))) fun e=>?_
 have e':a.length=b.length:=by omega
 refine tA (L:=x_c1.l0 K a b) (fun _ _=>rfl) a.length (fun i=>a.getD i x_at=b.getD i x_at) (fun i L' hi k ha=>?_) (fun L' ha=>?_) (by omega)
 ·unfold x_c1.l0b
  rw [Int.toNat_natCast,w6 (n:=(i:Int)+1) (by omega) (by omega)]
  have no:a.getD i x_at≠b.getD i x_at→a≠b:=fun h k=>h (by rw [k])
  refine ti (fun h1=>tc (by omega) (tc h1 (tc (by omega) (tc (by omega) ?_)))) fun h1=>absurd (show (i:Int)<((a.length:Nat):Int) by omega) h1
  exact tN (fun h=>tr (x_a (no fun e=>by rw [show qEntry _ _=true from (x_gc x_cv _ _ rfl).2 e] at h;cases h))) fun h=>k ((x_gc x_cv _ _ rfl).1 h)
 ·unfold x_c1.l0b
  exact ti (fun h1=>absurd h1 (by omega)) fun h1=>tr (x_d7 (x_i6 e' ha))
theorem same_log {K:Nat} (hK:2097152≤K) (a b:TLog) (h:a.2.2.length<2097152):Tot (x_lh K a b) fun r=>Is r.1 (a=b):=by
 unfold x_lh
 refine ti (fun e1=>ti (fun e2=>tb (same_es hK _ _ h) fun v g=>tr ?_) fun e=>tr (x_a fun k=>e (by rw [k]))) fun e=>tr (x_a fun k=>e (by rw [k]))
 exact ⟨fun h=>Prod.ext e1 (Prod.ext e2 (g.1 h)),fun k=>g.2 (by rw [k])⟩
theorem x_wr {K:Nat} (hK:2097152≤K) (a b:List x_lg) (h:a.length<2097152):Tot (x_b8 K a b) fun r=>Is r.1 (a=b):=by
 unfold x_b8 x_b8.b
 refine tn (fun e=>tr (x_a fun k=>e (by rw [k]))) fun e=>?_
 have e':a.length=b.length:=by omega
 refine tA (L:=x_b8.l0 K a b) (fun _ _=>rfl) a.length (fun i=>a.getD i x_cb=b.getD i x_cb) (fun i L' hi k ha=>?_) (fun L' ha=>?_) (by omega)
 ·unfold x_b8.l0b
  rw [Int.toNat_natCast,w6 (n:=(i:Int)+1) (by omega) (by omega)]
  have no:a.getD i x_cb≠b.getD i x_cb→a≠b:=fun h k=>h (by rw [k])
  refine ti (fun h1=>tc (by omega) (tc h1 (tc (by omega) (tc (by omega) ?_)))) fun h1=>absurd (show (i:Int)<((a.length:Nat):Int) by omega) h1
  exact tN (fun h=>tr (x_a (no fun e=>by rw [show qItem _ _=true from (x_gc x_sp _ _ rfl).2 e] at h;cases h))) fun h=>k ((x_gc x_sp _ _ rfl).1 h)
 ·unfold x_b8.l0b
  exact ti (fun h1=>absurd h1 (by omega)) fun h1=>tr (x_d7 (x_i6 e' ha))
theorem same_row {K:Nat} (hK:2097152≤K) (a b:TRow) (h:RSz a):Tot (x_hb K a b) fun r=>Is r.1 (a=b):=by
 unfold x_hb
 refine ti (fun e1=>ti (fun e2=>tb (x_wr hK _ _ h.1) fun v g=>tr ?_) fun e=>tr (x_a fun k=>e (by rw [k]))) fun e=>tr (x_a fun k=>e (by rw [k]))
 exact ⟨fun h=>Prod.ext e1 (Prod.ext e2 (g.1 h)),fun k=>g.2 (by rw [k])⟩
theorem same_rows {K:Nat} (hK:2097152≤K) (a b:List TRow) (h:a.length<2097152) (hz:∀ x∈a,RSz x):Tot (x_l K a b) fun r=>Is r.1 (a=b):=by
 unfold x_l x_l.b
 refine tn (fun e=>tr (x_a fun k=>e (by rw [k]))) fun e=>?_
 have e':a.length=b.length:=by omega
 refine tA (L:=x_l.l0 K a b) (fun _ _=>rfl) a.length (fun i=>a.getD i zRow=b.getD i zRow) (fun i L' hi k ha=>?_) (fun L' ha=>?_) (by omega)
 ·unfold x_l.l0b
  rw [Int.toNat_natCast,w6 (n:=(i:Int)+1) (by omega) (by omega)]
  have no:a.getD i zRow≠b.getD i zRow→a≠b:=fun h k=>h (by rw [k])
  refine ti (fun h1=>tc (by omega) (tc h1 (tc (by omega) (tc (by omega) ?_)))) fun h1=>absurd (show (i:Int)<((a.length:Nat):Int) by omega) h1
  exact tb (same_row hK _ _ (hz _ (x_ae hi))) fun v g=>tg g (fun h=>tr (x_a (no h))) fun h=>k h
 ·unfold x_l.l0b
  exact ti (fun h1=>absurd h1 (by omega)) fun h1=>tr (x_d7 (x_i6 e' ha))
theorem x_wk {K:Nat} (hK:2097152≤K) (a b:List x_pv) (h:a.length<2097152):Tot (x_ca K a b) fun r=>Is r.1 (a=b):=by
 unfold x_ca x_ca.b
 refine tn (fun e=>tr (x_a fun k=>e (by rw [k]))) fun e=>?_
 have e':a.length=b.length:=by omega
 refine tA (L:=x_ca.l0 K a b) (fun _ _=>rfl) a.length (fun i=>a.getD i x_io=b.getD i x_io) (fun i L' hi k ha=>?_) (fun L' ha=>?_) (by omega)
 ·unfold x_ca.l0b
  rw [Int.toNat_natCast,w6 (n:=(i:Int)+1) (by omega) (by omega)]
  have no:a.getD i x_io≠b.getD i x_io→a≠b:=fun h k=>h (by rw [k])
  refine ti (fun h1=>tc (by omega) (tc h1 (tc (by omega) (tc (by omega) ?_)))) fun h1=>absurd (show (i:Int)<((a.length:Nat):Int) by omega) h1
  exact tN (fun h=>tr (x_a (no fun e=>by rw [show qMark _ _=true from (x_gc x_rp _ _ rfl).2 e] at h;cases h))) fun h=>k ((x_gc x_rp _ _ rfl).1 h)
 ·unfold x_ca.l0b
  exact ti (fun h1=>absurd h1 (by omega)) fun h1=>tr (x_d7 (x_i6 e' ha))
theorem x_x6 {K:Nat} (hK:2097152≤K) (a b:x_am) (h:MkS a):Tot (x_g8 K a b) fun r=>Is r.1 (a=b):=by
 unfold x_g8
 refine ti (fun e1=>ti (fun e2=>ti (fun e3=>ti (fun e4=>tb (x_wk hK _ _ h.1) fun v g=>tr ?_) fun e=>tr (x_a fun k=>e (by rw [k]))) fun e=>tr (x_a fun k=>e (by rw [k]))) fun e=>tr (x_a fun k=>e (by rw [k]))) fun e=>tr (x_a fun k=>e (by rw [k]))
 exact ⟨fun h=>Prod.ext e1 (Prod.ext e2 (Prod.ext e3 (Prod.ext e4 (g.1 h)))),fun k=>g.2 (by rw [k])⟩
theorem x_ux {K:Nat} (hK:2097152≤K) (a b:List x_am) (h:a.length<2097152) (hz:∀ x∈a,MkS x):Tot (x_m K a b) fun r=>Is r.1 (a=b):=by
 unfold x_m x_m.b
 refine tn (fun e=>tr (x_a fun k=>e (by rw [k]))) fun e=>?_
 have e':a.length=b.length:=by omega
 refine tA (L:=x_m.l0 K a b) (fun _ _=>rfl) a.length (fun i=>a.getD i x_bc=b.getD i x_bc) (fun i L' hi k ha=>?_) (fun L' ha=>?_) (by omega)
 ·unfold x_m.l0b
  rw [Int.toNat_natCast,w6 (n:=(i:Int)+1) (by omega) (by omega)]
  have no:a.getD i x_bc≠b.getD i x_bc→a≠b:=fun h k=>h (by rw [k])
  refine ti (fun h1=>tc (by omega) (tc h1 (tc (by omega) (tc (by omega) ?_)))) fun h1=>absurd (show (i:Int)<((a.length:Nat):Int) by omega) h1
  exact tb (x_x6 hK _ _ (hz _ (x_ae hi))) fun v g=>tg g (fun h=>tr (x_a (no h))) fun h=>k h
 ·unfold x_m.l0b
  exact ti (fun h1=>absurd h1 (by omega)) fun h1=>tr (x_d7 (x_i6 e' ha))
theorem x_k5 {K:Nat} (hK:2097152≤K) (a b:List Int) (h:a.length<2097152):Tot (x_bp K a b) fun r=>Is r.1 (a=b):=by
 unfold x_bp x_bp.b
 refine tn (fun e=>tr (x_a fun k=>e (by rw [k]))) fun e=>?_
 have e':a.length=b.length:=by omega
 refine tA (L:=x_bp.l0 K a b) (fun _ _=>rfl) a.length (fun i=>a.getD i 0=b.getD i 0) (fun i L' hi k ha=>?_) (fun L' ha=>?_) (by omega)
 ·unfold x_bp.l0b
  rw [Int.toNat_natCast,w6 (n:=(i:Int)+1) (by omega) (by omega)]
  have no:a.getD i 0≠b.getD i 0→a≠b:=fun h k=>h (by rw [k])
  refine ti (fun h1=>tc (by omega) (tc h1 (tc (by omega) (tc (by omega) ?_)))) fun h1=>absurd (show (i:Int)<((a.length:Nat):Int) by omega) h1
  exact tn (fun h=>tr (x_a (no h))) fun h=>k h
 ·unfold x_bp.l0b
  exact ti (fun h1=>absurd h1 (by omega)) fun h1=>tr (x_d7 (x_i6 e' ha))
theorem x_wn {K:Nat} (hK:2097152≤K) (a b:x_ag) (h:GSz a):Tot (x_hf K a b) fun r=>Is r.1 (a=b):=by
 unfold x_hf
 refine ti (fun e1=>tb (x_k5 hK _ _ h.1) fun v1 g1=>tf g1 (fun e2=>tb (x_k5 hK _ _ h.2.1) fun v2 g2=>tf g2 (fun e3=>tb (x_k5 hK _ _ h.2.2) fun v g=>tr ?_) fun e=>tr (x_a fun k=>e (by rw [k]))) fun e=>tr (x_a fun k=>e (by rw [k]))) fun e=>tr (x_a fun k=>e (by rw [k]))
 exact ⟨fun h=>Prod.ext e1 (Prod.ext e2 (Prod.ext e3 (g.1 h))),fun k=>g.2 (by rw [k])⟩
theorem x_vc {K:Nat} (hK:2097152≤K) (a b:List x_ag) (h:a.length<2097152) (hz:∀ x∈a,GSz x):Tot (x_k K a b) fun r=>Is r.1 (a=b):=by
 unfold x_k x_k.b
 refine tn (fun e=>tr (x_a fun k=>e (by rw [k]))) fun e=>?_
 have e':a.length=b.length:=by omega
 refine tA (L:=x_k.l0 K a b) (fun _ _=>rfl) a.length (fun i=>a.getD i x_co=b.getD i x_co) (fun i L' hi k ha=>?_) (fun L' ha=>?_) (by omega)
 ·unfold x_k.l0b
  rw [Int.toNat_natCast,w6 (n:=(i:Int)+1) (by omega) (by omega)]
  have no:a.getD i x_co≠b.getD i x_co→a≠b:=fun h k=>h (by rw [k])
  refine ti (fun h1=>tc (by omega) (tc h1 (tc (by omega) (tc (by omega) ?_)))) fun h1=>absurd (show (i:Int)<((a.length:Nat):Int) by omega) h1
  exact tb (x_wn hK _ _ (hz _ (x_ae hi))) fun v g=>tg g (fun h=>tr (x_a (no h))) fun h=>k h
 ·unfold x_k.l0b
  exact ti (fun h1=>absurd h1 (by omega)) fun h1=>tr (x_d7 (x_i6 e' ha))
theorem same_ans {K:Nat} (hK:2097152≤K) (a b:List x_ct) (h:a.length<2097152):Tot (x_b1 K a b) fun r=>Is r.1 (a=b):=by
 unfold x_b1 x_b1.b
 refine tn (fun e=>tr (x_a fun k=>e (by rw [k]))) fun e=>?_
 have e':a.length=b.length:=by omega
 refine tA (L:=x_b1.l0 K a b) (fun _ _=>rfl) a.length (fun i=>a.getD i x_cc=b.getD i x_cc) (fun i L' hi k ha=>?_) (fun L' ha=>?_) (by omega)
 ·unfold x_b1.l0b
  rw [Int.toNat_natCast,w6 (n:=(i:Int)+1) (by omega) (by omega)]
  have no:a.getD i x_cc≠b.getD i x_cc→a≠b:=fun h k=>h (by rw [k])
  refine ti (fun h1=>tc (by omega) (tc h1 (tc (by omega) (tc (by omega) ?_)))) fun h1=>absurd (show (i:Int)<((a.length:Nat):Int) by omega) h1
  exact tN (fun h=>tr (x_a (no fun e=>by rw [show qAnswer _ _=true from (x_gc x_bl _ _ rfl).2 e] at h;cases h))) fun h=>k ((x_gc x_bl _ _ rfl).1 h)
 ·unfold x_b1.l0b
  exact ti (fun h1=>absurd h1 (by omega)) fun h1=>tr (x_d7 (x_i6 e' ha))
theorem same_keep {K:Nat} (hK:2097152≤K) (a b:x_as) (h:KSz a):Tot (x_jf K a b) fun r=>Is r.1 (a=b):=by
 obtain ⟨z1,z2,z3,z4,z5,z6,z7,z8⟩:=h
 unfold x_jf
 refine tb (same_rows hK _ _ z1 z2) fun v1 g1=>tb (x_ux hK _ _ z3.1 z3.2) fun v2 g2=>tb (x_vc hK _ _ z4 z5) fun v3 g3=>?_
 refine tf g1 (fun e1=>tf g2 (fun e2=>tf g3 (fun e3=>ti (fun e4=>tb (x_k5 hK _ _ z6) fun v4 g4=>tf g4 (fun e5=>tb (same_ans hK _ _ z7) fun v g=>tr ?_) fun e=>tr (x_a fun k=>e (by rw [k]))) fun e=>tr (x_a fun k=>e (by rw [k]))) fun e=>tr (x_a fun k=>e (by rw [k]))) fun e=>tr (x_a fun k=>e (by rw [k]))) fun e=>tr (x_a fun k=>e (by rw [k]))
 exact ⟨fun h=>Prod.ext e1 (Prod.ext e2 (Prod.ext e3 (Prod.ext e4 (Prod.ext e5 (g.1 h))))),fun k=>g.2 (by rw [k])⟩
theorem same_hard {K:Nat} (hK:2097152≤K) (a b:x_eh) (h:HSz a):Tot (x_jg K a b) fun r=>Is r.1 (a=b):=by
 unfold x_jg
 refine ti (fun e1=>ti (fun e2=>tb (same_log hK _ _ h.1.1) fun v1 g1=>tf g1 (fun e3=>tb (same_keep hK _ _ h.2.2) fun v g=>tr ?_) fun e=>tr (x_a fun k=>e (by rw [k]))) fun e=>tr (x_a fun k=>e (by rw [k]))) fun e=>tr (x_a fun k=>e (by rw [k]))
 exact ⟨fun h=>Prod.ext e1 (Prod.ext e2 (Prod.ext e3 (g.1 h))),fun k=>g.2 (by rw [k])⟩
theorem ti_Kept {K:Nat} (hK:2097152≤K) (p:x_e) (hp:SOk p) (n:x_cg) (hb:BSt n.2.2.2.2.2.2.2.2.1.1):Tot (x_xf K p n) fun r=>Is r.1 (hof p (ntsOf n.2.2.2.2.2.2.2.2.1.1).1=n.2.1):=by
 unfold x_xf
 refine tb (ti_HardOf hK p hp _ hb) fun v1 g1=>?_
 rw [g1]
 exact tb (same_hard hK _ _ (x_xb hp _).sz) fun v g=>tr g
theorem same_l12 {K:Nat} (hK:2097152≤K) (a b:List x_cf) (h:a.length<2097152):Tot (x_af K a b) fun r=>Is r.1 (a=b):=by
 unfold x_af x_af.b
 refine tA (L:=x_af.l0 K a b) (fun _ _=>rfl) a.length (fun i=>i<b.length∧a.getD i x_at=b.getD i x_at) (fun i L' hi k ha=>?_) (fun L' ha=>?_) (by omega)
 ·unfold x_af.l0b
  rw [Int.toNat_natCast,w6 (n:=(i:Int)+1) (by omega) (by omega)]
  have no:a.getD i x_at≠b.getD i x_at→a≠b:=fun h k=>h (by rw [k])
  refine ti (fun h1=>ti (fun h2=>tc (by omega) (tc h1 (tc (by omega) (tc h2 ?_)))) fun h2=>tr ?_) fun h1=>absurd (show (i:Int)<((a.length:Nat):Int) by omega) h1
  ·exact tN (fun h=>tr (x_a (no fun e=>by rw [show qEntry _ _=true from (x_gc x_cv _ _ rfl).2 e] at h;cases h))) fun h=>k ⟨by omega,(x_gc x_cv _ _ rfl).1 h⟩
  ·have hn:¬ (a.length:Int)=(b.length:Int):=by omega
   exact ⟨fun h=>absurd (of_decide_eq_true h) hn,fun k=>absurd (by rw [k]) hn⟩
 ·unfold x_af.l0b
  refine ti (fun h1=>absurd h1 (by omega)) fun h1=>tr ?_
  exact ⟨fun h=>x_i6 (by have:=of_decide_eq_true h;omega) fun i hi=>(ha i hi).2,fun k=>decide_eq_true (by rw [k])⟩
variable {K N:Nat}
noncomputable def kRow (r:TRow):List Int:=x_kq [r.1,r.2.1,(r.2.2.length:Int)]++r.2.2.flatMap cItem.enc
noncomputable def x_u0 (m:x_am):List Int:=x_kq [m.1,m.2.1,m.2.2.1,i6 (m.2.2.2.1+1),(m.2.2.2.2.length:Int)]++m.2.2.2.2.flatMap cMark.enc
noncomputable def x_rl (g:x_ag):List Int:=x_kq [g.1,(g.2.1.length:Int)]++((g.2.1.zip g.2.2.1).flatMap (cN.pr cN).enc++x_kq g.2.2.2)
noncomputable def kLast (d:Int×x_ct):List Int:=x_kq [d.1,d.2.1,i6 (d.2.2.1+1)]++(encT d.2.2.2.1++encT d.2.2.2.2)
noncomputable def kB (k:x_as):List Int:=encN (k.1.length:Int)++(k.1.flatMap kRow++(encN (k.2.1.length:Int)++(k.2.1.flatMap x_u0++(encN (k.2.2.1.length:Int)++(k.2.2.1.flatMap x_rl++(encN k.2.2.2.1++(k.2.2.2.2.1.zip k.2.2.2.2.2).flatMap kLast))))))
theorem x_m9 {α : Type} {l:List α} {i:Nat} {z : α} {f : α→List Int} (h:i<l.length):(l.take (i+1)).flatMap f=(l.take i).flatMap f++f (l.getD i z):=by
 rw [←x_dz (z:=z) h,List.flatMap_append,List.flatMap_cons,List.flatMap_nil,List.append_nil]
theorem zip_at {α β : Type} {a:List α} {b:List β} {i:Nat} {y : α} {z : β} (h:i<a.length) (k:i<b.length):(a.zip b).getD i (y,z)=(a.getD i y,b.getD i z):=by
 rw [x_aw (by rw [List.length_zip];omega),x_aw h,x_aw k,List.getElem_zip]
theorem x_q5 (hK:2097152≤K) (l:List Int) (h:l.length<200000):Tot (x_bq K l) fun x=>x.1.length≤5*l.length∧x.1=x_kq l:=(x_sg hK l h).mono fun x e=>⟨by rw [e];exact (x_gd l).2,e⟩
theorem w_num (hK:2097152≤K) (n:Int):Tot (x_ba K n) fun x=>x.1.length≤5∧x.1=encN n:=(x_fq hK n).mono fun x e=>⟨by rw [e];exact (x_dr n).2,e⟩
theorem w_text (hK:2097152≤K) (s:ByteArray) (h:s.size≤30):Tot (x_d9 K s) fun x=>x.1.length≤35∧x.1=encT s:=(x_jm hK s (by omega)).mono fun x e=>⟨by rw [e];have:=(x_hh s).2;omega,e⟩
theorem x_mg (hK:2097152≤K) (p:x_e) (k:x_as) (h:KW N p k) (hN:N≤100000):Tot (x_b K k) fun x=>x.1=kB k:=by
 obtain ⟨h1,h2,h3,h4,h5,h6,h7,h8,h9,h10⟩:=h
 have hr:=h1.1
 have L6:∀ q:List Int,q.length≤80000+100*N→Tot (x_b.l6 K k K q 0) fun x=>x.1=q++(k.2.2.2.2.1.zip k.2.2.2.2.2).flatMap kLast:=fun q0 hq=>by
  have hz:(k.2.2.2.2.1.zip k.2.2.2.2.2).length=4:=by rw [List.length_zip];omega
  refine l2_ (L:=x_b.l6 K k) (fun _ _ _=>rfl) (fun m q x=> ∃ i:Nat,x=i∧i+m=4∧q.length≤80000+100*N+100*i∧q=q0++((k.2.2.2.2.1.zip k.2.2.2.2.2).take i).flatMap kLast) (fun m q x L' hi kk=>?_) (m:=4) (by omega) ⟨0,rfl,rfl,hq,by simp⟩
  obtain ⟨i,rfl,hm,hq,hb⟩:=hi
  unfold x_b.l6b
  refine ti (fun a=>?_) fun a=>tr (by rw [List.take_of_length_le (by omega)] at hb;exact hb)
  have ha:=h10 i (by omega)
  rw [w6 (n:=(i:Int)+1) (by omega) (by omega),Int.toNat_natCast]
  refine tc (by omega) (tc (by omega) (tc (by omega) (tc (by omega) (tb (x_q5 hK _ (by show (3:Nat)<_;decide)) fun v15 g15=>?_))))
  have e15:v15.1.length≤15:=g15.1
  refine tc (by show _≤70368744177664;(try dsimp only);(try simp only [ll_]);omega) (tb (w_text hK _ ha.1) fun v16 g16=>tc (by show _≤70368744177664;simp only [length_append];omega) (tb (w_text hK _ ha.2) fun v17 g17=>tc (by show _≤70368744177664;simp only [length_append];omega) ?_))
  refine kk (m-1) _ _ (by omega) ⟨i+1,by push_cast;rfl,by omega,by simp only [length_append];omega,?_⟩
  rw [x_m9 (z:=((0:Int),x_cc)) (by omega),zip_at (by omega) (by omega),hb,g15.2,g16.2,g17.2]
  unfold kLast
  simp only [List.append_assoc]
 have L4:∀ q:List Int,q.length≤70000+100*N→Tot (x_b.l4 K k K q 0) fun x=>x.1=q++(k.2.2.1.flatMap x_rl++(encN k.2.2.2.1++(k.2.2.2.2.1.zip k.2.2.2.2.2).flatMap kLast)):=fun q0 hq=>by
  refine l2_ (L:=x_b.l4 K k) (b:=fun L'=>x_b.l4b K k (x_b.l5 K k L' K) (x_b.l6 K k K)) (fun _ _ _=>rfl) (fun m q x=> ∃ i:Nat,x=i∧i+m=2∧q.length≤70000+100*N+1000*i∧q=q0++(k.2.2.1.take i).flatMap x_rl) (fun m q x L' hi kk=>?_) (m:=2) (by omega) ⟨0,rfl,rfl,hq,by simp⟩
  obtain ⟨i,rfl,hm,hq,hb⟩:=hi
  unfold x_b.l4b
  refine ti (fun a=>?_) fun a=>tb (w_num hK _) fun v g=>tc (by show _≤70368744177664;(try dsimp only);(try simp only [ll_]);omega) ((L6 _ (by rw [length_append];omega)).mono fun x e=>by rw [List.take_of_length_le (by omega)] at hb;rw [e,hb,g.2];simp only [List.append_assoc])
  have hg:=h9 i (by omega)
  have hgl:=hg.len
  have hgb:=hg.2.1
  have hgo:=hg.2.2.1
  have hz:((k.2.2.1.getD i x_co).2.1.zip (k.2.2.1.getD i x_co).2.2.1).length=(k.2.2.1.getD i x_co).2.1.length:=by rw [List.length_zip];omega
  rw [Int.toNat_natCast]
  refine tc (by omega) (tc (by omega) (tb (x_q5 hK _ (by show (2:Nat)<_;decide)) fun v11 g11=>?_))
  have e11:v11.1.length≤10:=g11.1
  refine tc (by show _≤70368744177664;(try dsimp only);(try simp only [ll_]);omega) (l3_ (L:=x_b.l5 K k L') (fun _ _ _ _=>rfl) (fun d q' y x=>y=(i:Int)∧ ∃ j:Nat,x=j∧j+d=(k.2.2.1.getD i x_co).2.1.length∧q'.length≤70000+100*N+1000*i+10+10*j∧q'=q++(v11.1++(((k.2.2.1.getD i x_co).2.1.zip (k.2.2.1.getD i x_co).2.2.1).take j).flatMap (cN.pr cN).enc)) (fun d q' y x L5 hj k5=>?_) (m:=(k.2.2.1.getD i x_co).2.1.length) (by omega) ⟨rfl,0,rfl,by omega,by rw [length_append];omega,by simp⟩)
  obtain ⟨rfl,j,rfl,hd,hq',hb'⟩:=hj
  unfold x_b.l5b
  rw [Int.toNat_natCast,Int.toNat_natCast]
  refine ti (fun b=>?_) fun b=>?_
  ·rw [w6 (n:=(j:Int)+1) (by omega) (by omega)]
   refine tc (by omega) (tc b (tc (by omega) (tc (by omega) (tb (x_q5 hK _ (by show (2:Nat)<_;decide)) fun v12 g12=>?_))))
   have e12:v12.1.length≤10:=g12.1
   refine tc (by show _≤70368744177664;(try dsimp only);(try simp only [ll_]);omega) (k5 (d-1) _ _ _ (by omega) ⟨rfl,j+1,by push_cast;rfl,by omega,by rw [length_append];omega,?_⟩)
   rw [x_m9 (z:=((0:Int),(0:Int))) (by omega),zip_at (by omega) (by omega),hb',g12.2]
   show _=_++(_++(_++(encN _++encN _)))
   simp only [x_kq,List.flatMap_cons,List.flatMap_nil,List.append_nil,List.append_assoc]
  ·rw [w6 (n:=(i:Int)+1) (by omega) (by omega)]
   refine tb (x_q5 hK _ (by omega)) fun v13 g13=>tc (by show _≤70368744177664;(try dsimp only);(try simp only [ll_]);omega) (kk (m-1) _ _ (by omega) ⟨i+1,by push_cast;rfl,by omega,by rw [length_append];omega,?_⟩)
   rw [List.take_of_length_le (by omega)] at hb'
   rw [x_m9 (z:=x_co) (by omega),hb',g13.2,g11.2,hb]
   unfold x_rl
   simp only [List.append_assoc]
 have L2:∀ q:List Int,q.length≤60000→Tot (x_b.l2 K k K q 0) fun x=>x.1=q++(k.2.1.flatMap x_u0++(encN (k.2.2.1.length:Int)++(k.2.2.1.flatMap x_rl++(encN k.2.2.2.1++(k.2.2.2.2.1.zip k.2.2.2.2.2).flatMap kLast)))):=fun q0 hq=>by
  refine l2_ (L:=x_b.l2 K k) (b:=fun L'=>x_b.l2b K k (x_b.l3 K k L' K) (x_b.l4 K k K)) (fun _ _ _=>rfl) (fun m q x=> ∃ i:Nat,x=i∧i+m=k.2.1.length∧q.length≤60000+100*i∧q=q0++(k.2.1.take i).flatMap x_u0) (fun m q x L' hi kk=>?_) (m:=k.2.1.length) (by omega) ⟨0,rfl,by omega,hq,by simp⟩
  obtain ⟨i,rfl,hm,hq,hb⟩:=hi
  unfold x_b.l2b
  refine ti (fun a=>?_) fun a=>tb (w_num hK _) fun v g=>tc (by show _≤70368744177664;(try dsimp only);(try simp only [ll_]);omega) ((L4 _ (by rw [length_append];omega)).mono fun x e=>by rw [List.take_of_length_le (by omega)] at hb;rw [e,hb,g.2];simp only [List.append_assoc])
  have hg:=(h7.2 _ (x_ae (z:=x_bc) (show i<k.2.1.length by omega))).1
  rw [Int.toNat_natCast]
  refine tc (by omega) (tc (by omega) (tb (x_q5 hK _ (by show (5:Nat)<_;decide)) fun v11 g11=>?_))
  have e11:v11.1.length≤25:=g11.1
  refine tc (by show _≤70368744177664;(try dsimp only);(try simp only [ll_]);omega) (l3_ (L:=x_b.l3 K k L') (fun _ _ _ _=>rfl) (fun d q' y x=>y=(i:Int)∧ ∃ j:Nat,x=j∧j+d=(k.2.1.getD i x_bc).2.2.2.2.length∧q'.length≤60000+100*i+25+10*j∧q'=q++(v11.1++((k.2.1.getD i x_bc).2.2.2.2.take j).flatMap cMark.enc)) (fun d q' y x L5 hj k5=>?_) (m:=(k.2.1.getD i x_bc).2.2.2.2.length) (by omega) ⟨rfl,0,rfl,by omega,by rw [length_append];omega,by simp⟩)
  obtain ⟨rfl,j,rfl,hd,hq',hb'⟩:=hj
  unfold x_b.l3b
  rw [Int.toNat_natCast,Int.toNat_natCast]
  refine ti (fun b=>?_) fun b=>?_
  ·rw [w6 (n:=(j:Int)+1) (by omega) (by omega)]
   refine tc (by omega) (tc b (tc (by omega) (tc b (tb (x_q5 hK _ (by show (2:Nat)<_;decide)) fun v12 g12=>?_))))
   have e12:v12.1.length≤10:=g12.1
   refine tc (by show _≤70368744177664;(try dsimp only);(try simp only [ll_]);omega) (k5 (d-1) _ _ _ (by omega) ⟨rfl,j+1,by push_cast;rfl,by omega,by rw [length_append];omega,?_⟩)
   rw [x_m9 (z:=x_io) (by omega),hb',g12.2]
   show _=_++(_++(_++(encN _++encN _)))
   simp only [x_kq,List.flatMap_cons,List.flatMap_nil,List.append_nil,List.append_assoc]
  ·rw [w6 (n:=(i:Int)+1) (by omega) (by omega)]
   refine kk (m-1) _ _ (by omega) ⟨i+1,by push_cast;rfl,by omega,by omega,?_⟩
   rw [List.take_of_length_le (by omega)] at hb'
   rw [x_m9 (z:=x_bc) (by omega),hb',g11.2,hb]
   unfold x_u0
   simp only [List.append_assoc]
 unfold x_b x_b.b
 refine tb (w_num hK _) fun v1 g1=>?_
 refine l2_ (L:=x_b.l0 K k) (b:=fun L'=>x_b.l0b K k (x_b.l1 K k L' K) (x_b.l2 K k K)) (fun _ _ _=>rfl) (fun m q x=> ∃ i:Nat,x=i∧i+m=k.1.length∧q.length≤5+10000*i∧q=v1.1++(k.1.take i).flatMap kRow) (fun m q x L' hi kk=>?_) (m:=k.1.length) (by omega) ⟨0,rfl,by omega,g1.1,by simp⟩
 obtain ⟨i,rfl,hm,hq,hb⟩:=hi
 unfold x_b.l0b
 refine ti (fun a=>?_) fun a=>tb (w_num hK _) fun v g=>tc (by show _≤70368744177664;(try dsimp only);(try simp only [ll_]);omega) ((L2 _ (by rw [length_append];omega)).mono fun x e=>by rw [List.take_of_length_le (by omega)] at hb;rw [e,hb,g.2,g1.2];unfold kB;simp only [List.append_assoc])
 have hg:=h8 i (by omega)
 have hgl:=hg.2.2.1
 rw [Int.toNat_natCast]
 refine tc (by omega) (tc (by omega) (tb (x_q5 hK _ (by show (3:Nat)<_;decide)) fun v11 g11=>?_))
 have e11:v11.1.length≤15:=g11.1
 refine tc (by show _≤70368744177664;(try dsimp only);(try simp only [ll_]);omega) (l3_ (L:=x_b.l1 K k L') (fun _ _ _ _=>rfl) (fun d q' y x=>y=(i:Int)∧ ∃ j:Nat,x=j∧j+d=(k.1.getD i zRow).2.2.length∧q'.length≤5+10000*i+15+100*j∧q'=q++(v11.1++((k.1.getD i zRow).2.2.take j).flatMap cItem.enc)) (fun d q' y x L5 hj k5=>?_) (m:=(k.1.getD i zRow).2.2.length) (by omega) ⟨rfl,0,rfl,by omega,by rw [length_append];omega,by simp⟩)
 obtain ⟨rfl,j,rfl,hd,hq',hb'⟩:=hj
 unfold x_b.l1b
 rw [Int.toNat_natCast,Int.toNat_natCast]
 refine ti (fun b=>?_) fun b=>?_
 ·rw [w6 (n:=(j:Int)+1) (by omega) (by omega)]
  have hit:=(hg.2.2.2 j (by omega)).1
  refine tc (by omega) (tc b (tb (w_num hK _) fun v3 g3=>tc (by show _≤70368744177664;(try dsimp only);(try simp only [ll_]);omega) (tb (w_text hK _ hit.1.1) fun v4 g4=>tc (by show _≤70368744177664;simp only [length_append];omega) (tb (w_text hK _ hit.2.1.1) fun v5 g5=>tc (by show _≤70368744177664;simp only [length_append];omega) (tb (x_q5 hK _ (by show (2:Nat)<_;decide)) fun v12 g12=>?_)))))
  have e12:v12.1.length≤10:=g12.1
  refine tc (by show _≤70368744177664;simp only [length_append];omega) (k5 (d-1) _ _ _ (by omega) ⟨rfl,j+1,by push_cast;rfl,by omega,by simp only [length_append];omega,?_⟩)
  rw [x_m9 (z:=x_cb) (by omega),hb',g3.2,g4.2,g5.2,g12.2]
  show _=_++(_++(_++(encN _++(encT _++(encT _++(encN _++encN _))))))
  simp only [x_kq,List.flatMap_cons,List.flatMap_nil,List.append_nil,List.append_assoc]
 ·rw [w6 (n:=(i:Int)+1) (by omega) (by omega)]
  refine kk (m-1) _ _ (by omega) ⟨i+1,by push_cast;rfl,by omega,by omega,?_⟩
  rw [List.take_of_length_le (by omega)] at hb'
  rw [x_m9 (z:=zRow) (by omega),hb',g11.2,hb]
  unfold kRow
  simp only [List.append_assoc]
variable {K:Nat}
theorem ROk.cod {r:TRow} (h:ROk r):cRow.ok r:=by
 obtain ⟨h1,h2,h3,h4⟩:=h
 refine ⟨⟨h1.1,by omega⟩,⟨by omega,by omega⟩,by omega,fun x hx=>?_⟩
 obtain ⟨i,hi,rfl⟩:=List.mem_iff_getElem.1 hx
 obtain ⟨⟨k1,k2,k3,k4⟩,k5,_⟩:=h4 i hi
 rw [x_aw hi] at k1 k2 k3 k4 k5
 have t1:=k1.1
 have t2:=k2.1
 exact ⟨⟨by omega,by omega⟩,by show ByteArray.size _≤2147483647;omega,by show ByteArray.size _≤2147483647;omega,⟨by omega,by omega⟩,⟨by omega,by omega⟩⟩
theorem MOk.cod {m:x_am} {w:Int} (h:MOk m w) (hw:w≤1000):x_jo.ok m:=by
 obtain ⟨h1,h2,h3,h4,h5,h6,h7,h8⟩:=h
 refine ⟨⟨by omega,by omega⟩,⟨by omega,by omega⟩,⟨by omega,by omega⟩,⟨by show (0:Int)≤m.2.2.2.1+1;omega,by show m.2.2.2.1+1≤(2147483647:Int);omega⟩,by show ((m.2.2.2.2.length:Nat):Int)≤_;omega,fun x hx=>?_⟩
 obtain ⟨i,hi,rfl⟩:=List.mem_iff_getElem.1 hx
 obtain ⟨k1,k2,_⟩:=h1 i hi
 rw [x_aw hi] at k1 k2
 exact ⟨⟨by omega,by omega⟩,⟨by omega,by omega⟩⟩
theorem GOk.cod {rows:Int} (hr:0≤rows∧rows≤4) {g:x_ag} (h:GOk rows g):(x_i2 rows.toNat).ok g:=by
 have hl:=h.len
 obtain ⟨h1,h2,h3,h4,h5⟩:=h
 refine ⟨⟨⟨h1.1,by show g.1≤(2147483647:Int);omega⟩,⟨by show (((g.2.1.zip g.2.2.1).length:Nat):Int)≤_;rw [List.length_zip];omega,fun x hx=>?_⟩,⟨by show g.2.2.2.length=_;omega,fun x hx=>?_⟩⟩,h2.symm⟩
 ·obtain ⟨x1,x2⟩:=x
  obtain ⟨hx1,hx2⟩:=List.of_mem_zip hx
  obtain ⟨i,hi,rfl⟩:=List.mem_iff_getElem.1 hx1
  obtain ⟨j,hj,rfl⟩:=List.mem_iff_getElem.1 hx2
  have k1:=(h4 i hi).1
  have k2:=(h4 j (by omega)).2.2
  rw [x_aw hi] at k1
  rw [x_aw hj] at k2
  exact ⟨⟨k1.1,by show g.2.1[i]≤_;omega⟩,⟨k2.1,by show g.2.2.1[j]≤_;omega⟩⟩
 ·obtain ⟨i,hi,rfl⟩:=List.mem_iff_getElem.1 hx
  have k:=h5 i hi
  rw [x_aw hi] at k
  exact ⟨k.1,by omega⟩
theorem ansCod {d:Int} {a:x_ct} (hd:0≤d∧d≤100000) (ha:AOk a):(cN.pr cAns).ok (d,a):=by
 obtain ⟨a2,a3,a4,a5⟩:=ha
 have t1:=a4.1
 have t2:=a5.1
 exact ⟨⟨hd.1,by show d≤(2147483647:Int);omega⟩,⟨a2.1,by show a.1≤(2147483647:Int);omega⟩,⟨by show (0:Int)≤a.2.1+1;omega,by show a.2.1+1≤(2147483647:Int);omega⟩,by show a.2.2.1.size≤2147483647;omega,by show a.2.2.2.size≤2147483647;omega⟩
theorem KOk.cod {p:x_e} {k:x_as} (h:KOk p k):(x_vv p.1.toNat).ok k:=by
 have ml:=h.2.2.2.2.2.2.1.len
 obtain ⟨h1,h2,h3,h4,h5,h6,h7,h8,h9,h10⟩:=h
 have hr:=h1.1
 have hw:=h1.2.1
 have hz:(k.2.2.2.2.1.zip k.2.2.2.2.2).length=4:=by rw [List.length_zip];omega
 refine ⟨⟨⟨by show ((k.1.length:Nat):Int)≤_;omega,fun x hx=>?_⟩,⟨by show ((k.2.1.length:Nat):Int)≤_;omega,fun x hx=>?_⟩,⟨by show ((k.2.2.1.length:Nat):Int)≤_;omega,fun x hx=>?_⟩,⟨h6.1,by show k.2.2.2.1≤_;omega⟩,hz,fun x hx=>?_⟩,by show k.2.2.2.2.1.length=k.2.2.2.2.2.length;omega⟩
 ·obtain ⟨i,hi,rfl⟩:=List.mem_iff_getElem.1 hx
  have:=(h8 i hi).cod
  rwa [x_aw hi] at this
 ·obtain ⟨i,hi,rfl⟩:=List.mem_iff_getElem.1 hx
  have:=(h7 i hi).1.cod (by omega)
  rwa [x_aw hi] at this
 ·obtain ⟨i,hi,rfl⟩:=List.mem_iff_getElem.1 hx
  have hi:i<k.2.2.1.length:=hi
  have:=(h9 i (by omega)).cod (by omega)
  rwa [x_aw hi] at this
 ·obtain ⟨i,hi,rfl⟩:=List.mem_iff_getElem.1 hx
  have hi:i<(k.2.2.2.2.1.zip k.2.2.2.2.2).length:=hi
  have a:=h10 i (by omega)
  rw [x_aw (show i<k.2.2.2.2.1.length by omega),x_aw (show i<k.2.2.2.2.2.length by omega)] at a
  show (cN.pr cAns).ok ((k.2.2.2.2.1.zip k.2.2.2.2.2)[i])
  rw [List.getElem_zip]
  exact ansCod a.1 a.2
theorem x_i9 {α : Type} {l:List α} {f g : α→List Int} (h:∀ x∈l,f x=g x):l.flatMap f=l.flatMap g:=by
 induction l with
 | nil=>rfl
 | cons x l ih=>rw [List.flatMap_cons,List.flatMap_cons,h x (by simp),ih fun y hy=>h y (by simp [hy])]
theorem kLast_enc {d:Int} {a:x_ct} (h : -1≤a.2.1∧a.2.1≤100000):kLast (d,a)=(cN.pr cAns).enc (d,a):=by
 show _=encN _++(encN _++(encN _++(encT _++encT _)))
 unfold kLast
 have e:i6 (a.2.1+1)=a.2.1+1:=w6 (by omega) (by omega)
 dsimp only
 rw [e]
 simp only [x_kq,List.flatMap_cons,List.flatMap_nil,List.append_nil,List.append_assoc]
theorem kB_enc {p:x_e} {k:x_as} (h:KOk p k):kB k=(x_vv p.1.toNat).enc k:=by
 have hz:(k.2.2.2.2.1.zip k.2.2.2.2.2).length=4:=by rw [List.length_zip];have:=h.2.2.2.1;have:=h.2.2.2.2.1;omega
 have r:k.1.flatMap kRow=k.1.flatMap cRow.enc:=x_i9 fun x _=>by
  show _=encN _++(encN _++(encN _++_))
  unfold kRow
  simp only [x_kq,List.flatMap_cons,List.flatMap_nil,List.append_nil,List.append_assoc]
 have m:k.2.1.flatMap x_u0=k.2.1.flatMap x_jo.enc:=x_i9 fun x hx=>by
  obtain ⟨i,hi,rfl⟩:=List.mem_iff_getElem.1 hx
  have g:=(h.2.2.2.2.2.2.1 i hi).1.2.2.2.2.2.2.2
  rw [x_aw hi] at g
  show _=encN _++(encN _++(encN _++(encN _++(encN _++_))))
  unfold x_u0
  rw [w6 (by omega) (by omega)]
  simp only [x_kq,List.flatMap_cons,List.flatMap_nil,List.append_nil,List.append_assoc]
 have g:k.2.2.1.flatMap x_rl=k.2.2.1.flatMap (x_i2 p.1.toNat).enc:=x_i9 fun x hx=>by
  obtain ⟨i,hi,rfl⟩:=List.mem_iff_getElem.1 hx
  have hi:i<k.2.2.1.length:=hi
  have g:=(h.2.2.2.2.2.2.2.2.1 i (by have:=h.2.2.1;omega)).2.1
  rw [x_aw hi] at g
  generalize hx:k.2.2.1[i]=x at g
  show x_rl x=encN x.1++((encN ((x.2.1.zip x.2.2.1).length:Int)++(x.2.1.zip x.2.2.1).flatMap (cN.pr cN).enc)++x.2.2.2.flatMap encN)
  have g:x.2.2.1.length=x.2.1.length:=g
  rw [List.length_zip,g,Nat.min_self]
  unfold x_rl
  simp only [x_kq,List.flatMap_cons,List.flatMap_nil,List.append_nil,List.append_assoc]
 have l:(k.2.2.2.2.1.zip k.2.2.2.2.2).flatMap kLast=(k.2.2.2.2.1.zip k.2.2.2.2.2).flatMap (cN.pr cAns).enc:=x_i9 fun x hx=>by
  obtain ⟨i,hi,rfl⟩:=List.mem_iff_getElem.1 hx
  have a:=(h.2.2.2.2.2.2.2.2.2 i (by omega)).2.2.1
  rw [x_aw (show i<k.2.2.2.2.2.length by have:=h.2.2.2.2.1;omega)] at a
  rw [List.getElem_zip]
  exact kLast_enc a
 unfold kB
 rw [r,m,g,l]
 show _=(encN (k.1.length:Int)++k.1.flatMap cRow.enc)++((encN (k.2.1.length:Int)++k.2.1.flatMap x_jo.enc)++((encN (k.2.2.1.length:Int)++k.2.2.1.flatMap (x_i2 p.1.toNat).enc)++(encN k.2.2.2.1++(k.2.2.2.2.1.zip k.2.2.2.2.2).flatMap (cN.pr cAns).enc)))
 simp only [List.append_assoc]
theorem kB_inj {p:x_e} {a b:x_as} (ha:KOk p a) (hb:KOk p b) (h:kB a=kB b):a=b:=by
 have h1:=(x_vv p.1.toNat).de a [] ha.cod
 have h2:=(x_vv p.1.toNat).de b [] hb.cod
 rw [←kB_enc ha,h,kB_enc hb,h2] at h1
 simp only [Option.some.injEq,Prod.mk.injEq,and_true] at h1
 exact h1.symm
theorem kB_ok {p:x_e} {a:x_as} (ha:KOk p a):BOk (kB a):=by
 obtain ⟨v,_,h1,h2⟩:=Tot.and (x_ie (Nat.le_refl _) p a (ha.kw (Nat.le_refl 16)) (by decide)) (x_mg (Nat.le_refl _) p a (ha.kw (Nat.le_refl 16)) (by decide))
 rw [←h2]
 exact h1.2
theorem x_u9 (hK:2097152≤K) (p:x_e) (a b:x_as) (ha:KOk p a) (hb:KOk p b):Tot (x_f4 K a b) fun r=>Is r.1 (a=b):=by
 unfold x_f4
 refine tv (x_mg hK p a (ha.kw (Nat.le_refl 16)) (by decide)) (tv (x_mg hK p b (hb.kw (Nat.le_refl 16)) (by decide)) ?_)
 refine ti (fun e=>tr ?_) fun e=>tr (x_a fun k=>e (by rw [k]))
 have:=kB_inj ha hb (x_px (kB_ok ha) (kB_ok hb) e)
 exact ⟨fun _=>this,fun k=>decide_eq_true (by rw [k])⟩
theorem x_vt (hK:2097152≤K) (p:x_e) (a b:x_eh) (ha:HOk p a) (hb:HOk p b):Tot (x_f3 K a b) fun r=>Is r.1 (a=b):=by
 unfold x_f3
 refine ti (fun e1=>ti (fun e2=>ti (fun e3=>ti (fun e4=>tb (same_l12 hK _ _ ha.sz.1.1) fun v1 g1=>tf g1 (fun e5=>tb (x_u9 hK p _ _ ha.2.2.2.2 hb.2.2.2.2) fun v g=>tr ?_) fun e=>tr (x_a fun k=>e (by rw [k]))) fun e=>tr (x_a fun k=>e (by rw [k]))) fun e=>tr (x_a fun k=>e (by rw [k]))) fun e=>tr (x_a fun k=>e (by rw [k]))) fun e=>tr (x_a fun k=>e (by rw [k]))
 exact ⟨fun h=>Prod.ext e1 (Prod.ext e2 (Prod.ext (Prod.ext e3 (Prod.ext e4 e5)) (g.1 h))),fun k=>g.2 (by rw [k])⟩
theorem t2_Kept (hK:2097152≤K) (p:x_e) (hp:SOk p) (n:x_cg) (hz:HSw n.2.1) (hb:BSt n.2.2.2.2.2.2.2.2.1.1):Tot (s_Kept K p n) fun r=>Is r.1 (hof p (ntsOf n.2.2.2.2.2.2.2.2.1.1).1=n.2.1):=by
 unfold s_Kept
 refine tb (x_pe hK p _ hz) fun v1 g1=>tf g1 (fun a=>tb (t2_HardOf hK p hp _ hb) fun v2 g2=>?_) fun a=>tr (x_a fun k=>a (by rw [←k];exact x_xb hp _))
 rw [g2]
 exact tb (x_vt hK p _ _ (x_xb hp _) a) fun v g=>tr g
variable {K:Nat}
noncomputable def PN (p:x_e) (i s:Int):x_cg:=(i,newH p,0,List.replicate s.toNat false,List.replicate s.toNat 1,List.replicate s.toNat 0,0,newK p,([],0),[])
def PNC (p:x_e) (i s:Int):Prop:=SOk p∧(1≤s∧s≤5)∧POk p (PN p i s) s
def PNR (p:x_e) (i s:Int) (x:x_cg×Bool×Unit):Prop:=Is x.2.1 (PNC p i s)∧(x.2.1=true→x.1=PN p i s)
theorem PN_sw {p:x_e} (hp:SOk p) (i s:Int):PSw (PN p i s):=⟨(x_wc hp).sz.w,(x_wc hp).2.2.2.2.sz,by show (0:Nat)<_;decide,fun r hr=>by have hr:r∈([]:List TRpc):=hr;simp at hr⟩
theorem ti_ones (hK:2097152≤K) (n:Int) (h:0≤n∧n≤1000):Tot (x_gy K n) fun r=>r.1=List.replicate n.toNat 1:=by
 unfold x_gy x_gy.b
 refine l2_ (L:=x_gy.l0 K n) (fun _ _ _=>rfl) (fun m q y=> ∃ i:Nat,y=i∧i+m=n.toNat∧q=List.replicate i 1) (fun m q y L' hi kk=>?_) (m:=n.toNat) (by omega) ⟨0,rfl,by omega,rfl⟩
 obtain ⟨i,rfl,hm,rfl⟩:=hi
 unfold x_gy.l0b
 refine ti (fun h1=>tc (by show _≤70368744177664;rw [length_replicate];simp;omega) ?_) fun h1=>tr (by rw [show i=n.toNat by omega])
 rw [w6 (by omega) (by omega)]
 exact kk (m-1) _ _ (by omega) ⟨i+1,by push_cast;rfl,by omega,by rw [List.replicate_succ']⟩
theorem x_x9 (hK:2097152≤K) (p:x_e) (i s:Int):Tot (x_li K p i s) fun x=>PNR p i s x:=by
 unfold x_li
 refine tb (x_2 _ _ _) fun v1 g1=>tg g1 (fun a=>tr ⟨x_a fun h=>a h.2.1,fun h=>bad h⟩) fun a=>?_
 by_cases hp:SOk p
 ·refine tv (x_rn hK p hp) (tc rfl (tc (by omega) (tc (by show _≤70368744177664;(try dsimp only);(try simp only [ll_]);omega) (tv (ti_ones hK s (by omega)) (tc rfl (tc (by omega) (tc (by show _≤70368744177664;(try dsimp only);(try simp only [ll_]);omega) (tv (x_q1 hK p hp) ?_))))))))
  refine tb (x_k6 hK p (PN p i s) s (PN_sw hp i s) (by show (List.replicate s.toNat (1:Int)).length<_;rw [length_replicate];omega) (by show (List.replicate s.toNat (0:Int)).length<_;rw [length_replicate];omega)) fun v5 g5=>tg g5 (fun k=>tr ⟨x_a fun h=>k h.2.2,fun h=>bad h⟩) fun k=>tr ⟨x_d7 ⟨hp,a,k⟩,fun _=>rfl⟩
 ·have e1:Tot (x_hc K p) fun x=>x.1=(0,0,(0,0,[]),[],[],[],0,[],[]):=by
   unfold x_hc
   exact tb (x_gt p) fun v1 g1=>tg g1 (fun _=>tr rfl) fun a=>absurd a hp
  have e2:Tot (x_bo K p) fun x=>x.1=([],[],[],0,[],[]):=by
   unfold x_bo x_bo.b
   exact tb (x_gt p) fun v1 g1=>tg g1 (fun _=>tr rfl) fun a=>absurd a hp
  have z:KSz ([],[],[],0,[],[]):=⟨by show (0:Nat)<_;decide,fun r hr=>by simp at hr,⟨by show (0:Nat)<_;decide,fun r hr=>by simp at hr⟩,by show (0:Nat)<_;decide,fun r hr=>by simp at hr,by show (0:Nat)<_;decide,by show (0:Nat)<_;decide,fun r hr=>by simp at hr⟩
  refine tv e1 (tc rfl (tc (by omega) (tc (by show _≤70368744177664;(try dsimp only);(try simp only [ll_]);omega) (tv (ti_ones hK s (by omega)) (tc rfl (tc (by omega) (tc (by show _≤70368744177664;(try dsimp only);(try simp only [ll_]);omega) (tv e2 ?_))))))))
  refine tb (x_k6 hK p _ s ⟨⟨⟨by show (0:Nat)<_;decide,fun r hr=>by have hr:r∈([]:List x_cf):=hr;simp at hr⟩,⟨by show (-9223372036854775808:Int)≤0;decide,by show (0:Int)≤1000000;decide⟩,z⟩,z,by show (0:Nat)<_;decide,fun r hr=>by have hr:r∈([]:List TRpc):=hr;simp at hr⟩ (by show (List.replicate s.toNat (1:Int)).length<_;rw [length_replicate];omega) (by show (List.replicate s.toNat (0:Int)).length<_;rw [length_replicate];omega)) fun v5 g5=>tg g5 (fun k=>tr ⟨x_a fun h=>hp h.1,fun h=>bad h⟩) fun k=>absurd k.2.2.1.2.2.2.2.1 hp
theorem x_xr (hK:2097152≤K) (p:x_e) (i s:Int):Tot (x_g9 K p i s) fun x=>PNR p i s x:=by
 unfold x_g9
 refine tb (x_e5 p) fun v1 g1=>tg g1 (fun a=>tr ⟨x_a fun h=>a h.1,fun h=>bad h⟩) fun hp=>tb (x_bd _ _ _) fun v2 g2=>tg g2 (fun a=>tr ⟨x_a fun h=>a h.2.1,fun h=>bad h⟩) fun a=>?_
 have e:Tot (x_br K p) fun x=>x.1=newK p:=(x_i5 hK p hp).mono fun x e=>by rw [e.2];rfl
 refine tv (x_mx hK p hp) (tc rfl (tc (by omega) (tc (by show _≤70368744177664;(try dsimp only);(try simp only [ll_]);omega) (tv (x_le hK _ _ (by omega)) (tc rfl (tc (by omega) (tc (by show _≤70368744177664;(try dsimp only);(try simp only [ll_]);omega) (tv e ?_))))))))
 refine tb (x_p4 hK p (PN p i s) s (PN_sw hp i s)) fun v5 g5=>tg g5 (fun k=>tr ⟨x_a fun h=>k h.2.2,fun h=>bad h⟩) fun k=>tr ⟨x_d7 ⟨hp,a,k⟩,fun _=>rfl⟩
theorem Is.eq {a b:Bool} {p:Prop} (h:Is a p) (k:Is b p):a=b:=by
 cases a<;>cases b
 ·rfl
 ·exact absurd (h.2 (k.1 rfl)) (by decide)
 ·exact absurd (k.2 (h.1 rfl)) (by decide)
 ·rfl
theorem NSy.sw {n:x_cg} (h:NSy n):PSw n:=⟨⟨h.1.1.1,h.1.1.2,h.1.2⟩,h.2.1,h.2.2.2.2.2.2⟩
theorem half {x:Int} (h:0≤x∧x≤7):Tot (x_wh x) (fun r=>r.1=x / 2+1)∧Tot (x_nn x) (fun r=>r.1=x / 2+1):=by
 have e1:Int.fdiv x (2 ^ 1)=x / 2:=fsh h.1 1
 have e2:Int.tdiv x 2=x / 2:=Int.tdiv_eq_ediv_of_nonneg h.1
 unfold x_wh x_nn
 refine ⟨tr ?_,tr ?_⟩
 ·rw [e1,w6 (by omega) (by omega)]
 ·rw [e2,w6 (n:=x / 2) (by omega) (by omega),w6 (by omega) (by omega)]
theorem law {K:Nat} (hK:2097152≤K) (a:List Int) {P:Prop} (_h:P):∃ u,x_k7 K a=some (true,u):=by
 have key:Tot (x_k7 K a) fun r=>r.1=true:=by
  unfold x_k7 l_big
  refine tb (Q:=fun r=>r.1=decide (((a.length:Nat):Int)>1048576)) (tr rfl) fun v1 g1=>tB (fun _=>tr rfl) fun e=>?_
  rw [g1] at e
  have hl:a.length≤2000000:=by
   have:=of_decide_eq_false e
   omega
  have same:∀ {x y:Bool} {r:Option (Bool×Unit)},x=y→Tot r (fun r=>r.1=true)→Tot (bif !(x == y) then some (false,()) else r) fun r=>r.1=true:=fun h k=>by
   subst h
   rw [beq_self_eq_true]
   exact k
  have d2:Tot (x_f6 K a) fun _=>True:=by
   unfold x_f6
   exact tb (x_tj hK a hl) fun w1 f1=>tb (x_yj f1) fun w2 f2=>tb (x_5 f2 5 (by decide)) fun w3 f3=>tb (x_5 f3.2.2 8 (by decide)) fun w4 f4=>tr trivial
  have d5:Tot (x_g7 K a) fun r=>SOk r.1∧NSy r.2.1:=by
   unfold x_g7
   refine tb (x_tj hK a hl) fun w1 f1=>tb (x_t6 hK f1) fun w2 f2=>tb (x_j0 f2.2 9) fun w3 f3=>tB (fun _=>tb (x_ap f3 _ (by decide)) fun w4 _=>tr f2.1) fun _=>tr f2.1
  have d6:Tot (x_je K a) fun r=>SOk r.1∧NSy r.2.1:=by
   unfold x_je
   exact tb (x_tj hK a hl) fun w1 f1=>tb (x_t6 hK f1) fun w2 f2=>tr f2.1
  have d7:Tot (x_jv K a) fun r=>0≤r.1∧r.1≤7:=by
   unfold x_jv
   exact tb (x_tj hK a hl) fun w1 f1=>tb (x_5 f1 8 (by decide)) fun w2 f2=>tr ⟨f2.1,by show w2.1≤7;omega⟩
  refine tb d2 fun v2 _=>tb (x_x9 hK _ _ _) fun v3 g3=>tb (x_xr hK _ _ _) fun v4 g4=>tb d5 fun v5 g5=>tb d6 fun v6 g6=>tb d7 fun v7 g7=>same (Is.eq g3.1 g4.1) ?_
  refine tb (x_k6 hK _ _ _ g5.2.sw g5.2.2.2.2.1 g5.2.2.2.2.2.1) fun v8 g8=>tb (x_p4 hK _ _ _ g5.2.sw) fun v9 g9=>same (Is.eq g8 g9) ?_
  have b6:BSt v6.2.1.2.2.2.2.2.2.2.2.1.1:=⟨g6.2.2.2.2.2.2.1.2,g6.2.2.2.2.2.2.1.1⟩
  refine tb (ti_Kept hK _ g6.1 _ b6) fun v10 g10=>tb (t2_Kept hK _ g6.1 _ g6.2.sw.1 b6) fun v11 g11=>same (Is.eq g10 g11) ?_
  have hm:=half g7
  refine tb hm.1 fun v12 g12=>tb hm.2 fun v13 g13=>tn (fun h=>absurd (by rw [g12,g13]) h) fun _=>tb hm.1 fun v14 g14=>?_
  rw [w6 (n:=2*v14.1) (by omega) (by omega)]
  refine ti (fun _=>tN (fun _=>tr rfl) fun e=>?_) fun h=>absurd (by omega) h
  obtain ⟨hp,hs,hk⟩:=g3.1.1 e
  rw [g3.2 e]
  refine tb (x_k6 hK _ (PN _ _ _) _ (PN_sw hp _ _) (by show (List.replicate (Int.toNat _) (1:Int)).length<_;rw [length_replicate];omega) (by show (List.replicate (Int.toNat _) (0:Int)).length<_;rw [length_replicate];omega)) fun v15 g15=>tf g15 (fun _=>?_) fun h=>absurd hk h
  refine tb (ti_Kept hK _ hp (PN _ _ _) ⟨fun x hx=>by have hx:x∈([]:List Int):=hx;simp at hx,Nat.zero_le _⟩) fun v16 g16=>tr (g16.2 ?_)
  show hof _ (ntsOf []).1=newH _
  unfold ntsOf x_mw
  rw [x_qg]
  rfl
 obtain ⟨⟨b,u⟩,h,e⟩:=key
 have e:b=true:=e
 exact ⟨u,by rw [h,e]⟩
end Go.Proofs.YtoiamgohjmjbiaaGreat.Pe
