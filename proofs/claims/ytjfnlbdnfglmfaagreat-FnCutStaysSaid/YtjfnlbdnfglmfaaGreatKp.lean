/- Plain facts: wraps, strings one behind the other, loops. -/
import Derived.Test.YtjfnlbdnfglmfaaGreatKc
import Derived.IntWalk
set_option linter.all false
namespace Go.Kn
theorem w64 {n:Int} (h0 : -9223372036854775808≤n) (h1:n≤9223372036854775807):IntKind.i64.wrap n=n:=by
 simp only [IntKind.wrap,IntKind.bits,IntKind.signed]
 simp
 omega
theorem w8 {n:Int} (h0:0≤n) (h1:n≤255):IntKind.u8.wrap n=n:=by
 simp only [IntKind.wrap,IntKind.bits,IntKind.signed]
 simp
 omega
theorem x_m8 (a:ByteArray):a.data.toList.length=a.size:=Array.length_toList
theorem ba_ext {a b:ByteArray} (h:a.data.toList=b.data.toList):a=b:=by
 apply ByteArray.ext
 exact Array.toList_inj.1 h
theorem x_kj (l:List Int):(x_jo l).data.toList=l.map fun n=>UInt8.ofNat n.toNat:=rfl
end Go.Kn
set_option linter.all false
namespace Go.Kn
def small:(e:ET)→e.val→Prop
 | .s,v=>ByteArray.size v≤1048576
 | .sl x,l=>List.length l≤1048576∧ ∀ a∈l,small x a
 | .p x y,v=>small x v.1∧small y v.2
 | _,_=>True
end Go.Kn
set_option linter.all false
namespace Go.Kn
def Tot {α : Type} (x:Option α) (Q : α→Prop):Prop:= ∃ a,x=some a∧Q a
theorem tr {α : Type} {a : α} {Q : α→Prop} (h:Q a):Tot (some a) Q:=⟨a,rfl,h⟩
theorem Tot.mono {α : Type} {x:Option α} {Q R : α→Prop} (h:Tot x Q) (k:∀ a,Q a→R a):Tot x R:=by
 obtain ⟨a,e,q⟩:=h
 exact ⟨a,e,k a q⟩
theorem tb {α β : Type} {x:Option α} {f : α→Option β} {Q : α→Prop} {R : β→Prop} (h:Tot x Q) (k:∀ a,Q a→Tot (f a) R):Tot (x.bind f) R:=by
 obtain ⟨a,rfl,q⟩:=h
 exact k a q
theorem tc {α : Type} {p:Prop} [Decidable p] {x:Option α} {Q : α→Prop} (h:p) (k:Tot x Q):Tot (bif decide p then x else none) Q:=by
 rw [decide_eq_true h];exact k
theorem ti {α : Type} {p:Prop} [Decidable p] {x y:Option α} {Q : α→Prop} (h:p→Tot x Q) (k:¬ p→Tot y Q):Tot (bif decide p then x else y) Q:=by
 by_cases hp:p
 ·rw [decide_eq_true hp];exact h hp
 ·rw [decide_eq_false hp];exact k hp
theorem tn {α : Type} {p:Prop} [Decidable p] {x y:Option α} {Q : α→Prop} (h:¬ p→Tot x Q) (k:p→Tot y Q):Tot (bif !(decide p) then x else y) Q:=by
 by_cases hp:p
 ·rw [decide_eq_true hp];exact k hp
 ·rw [decide_eq_false hp];exact h hp
theorem tB {α : Type} {b:Bool} {x y:Option α} {Q : α→Prop} (h:b=true→Tot x Q) (k:b=false→Tot y Q):Tot (bif b then x else y) Q:=by
 cases b
 ·exact k rfl
 ·exact h rfl
theorem tN {α : Type} {b:Bool} {x y:Option α} {Q : α→Prop} (h:b=false→Tot x Q) (k:b=true→Tot y Q):Tot (bif !b then x else y) Q:=by
 cases b
 ·exact h rfl
 ·exact k rfl
end Go.Kn
set_option linter.all false
namespace Go.Kn
theorem l1_ {A β : Type} {L:Nat→A→Option β} {b:(A→Option β)→A→Option β} (hL:∀ n x,L (n+1) x=b (L n) x) (I:Nat→A→Prop) {Q : β→Prop}
  (step:∀ m x L',I m x→(∀ m' x',m'<m→I m' x'→Tot (L' x') Q)→Tot (b L' x) Q):∀ {m n:Nat} {x:A},m<n→I m x→Tot (L n x) Q:=by
 intro m
 induction m using Nat.strongRecOn with
 | ind m ih=>
  intro n x h hi
  obtain ⟨n,rfl⟩ : ∃ k,n=k+1:=⟨n-1,by omega⟩
  rw [hL]
  exact step m x _ hi fun m' x' hm h'=>ih m' hm (by omega) h'
theorem l2_ {A B β : Type} {L:Nat→A→B→Option β} {b:(A→B→Option β)→A→B→Option β} (hL:∀ n x y,L (n+1) x y=b (L n) x y) (I:Nat→A→B→Prop) {Q : β→Prop}
  (step:∀ m x y L',I m x y→(∀ m' x' y',m'<m→I m' x' y'→Tot (L' x' y') Q)→Tot (b L' x y) Q) {m n:Nat} {x:A} {y:B} (h:m<n) (hi:I m x y):Tot (L n x y) Q:=
 l1_ (L:=fun n (q:A×B)=>L n q.1 q.2) (b:=fun L' q=>b (fun x y=>L' (x,y)) q.1 q.2) (fun n q=>hL n q.1 q.2) (fun m q=>I m q.1 q.2)
  (fun m q L' hi k=>step m q.1 q.2 (fun x y=>L' (x,y)) hi fun m' x' y' hm h'=>k m' (x',y') hm h') (x:=(x,y)) h hi
theorem l3_ {A B C β : Type} {L:Nat→A→B→C→Option β} {b:(A→B→C→Option β)→A→B→C→Option β} (hL:∀ n x y z,L (n+1) x y z=b (L n) x y z) (I:Nat→A→B→C→Prop) {Q : β→Prop}
  (step:∀ m x y z L',I m x y z→(∀ m' x' y' z',m'<m→I m' x' y' z'→Tot (L' x' y' z') Q)→Tot (b L' x y z) Q) {m n:Nat} {x:A} {y:B} {z:C} (h:m<n) (hi:I m x y z):Tot (L n x y z) Q:=
 l1_ (L:=fun n (q:A×B×C)=>L n q.1 q.2.1 q.2.2) (b:=fun L' q=>b (fun x y z=>L' (x,y,z)) q.1 q.2.1 q.2.2) (fun n q=>hL n q.1 q.2.1 q.2.2) (fun m q=>I m q.1 q.2.1 q.2.2)
  (fun m q L' hi k=>step m q.1 q.2.1 q.2.2 (fun x y z=>L' (x,y,z)) hi fun m' x' y' z' hm h'=>k m' (x',y',z') hm h') (x:=(x,y,z)) h hi
theorem l4_ {A B C E β : Type} {L:Nat→A→B→C→E→Option β} {b:(A→B→C→E→Option β)→A→B→C→E→Option β} (hL:∀ n x y z u,L (n+1) x y z u=b (L n) x y z u) (I:Nat→A→B→C→E→Prop) {Q : β→Prop}
  (step:∀ m x y z u L',I m x y z u→(∀ m' x' y' z' u',m'<m→I m' x' y' z' u'→Tot (L' x' y' z' u') Q)→Tot (b L' x y z u) Q) {m n:Nat} {x:A} {y:B} {z:C} {u:E} (h:m<n) (hi:I m x y z u):Tot (L n x y z u) Q:=
 l1_ (L:=fun n (q:A×B×C×E)=>L n q.1 q.2.1 q.2.2.1 q.2.2.2) (b:=fun L' q=>b (fun x y z u=>L' (x,y,z,u)) q.1 q.2.1 q.2.2.1 q.2.2.2) (fun n q=>hL n q.1 q.2.1 q.2.2.1 q.2.2.2) (fun m q=>I m q.1 q.2.1 q.2.2.1 q.2.2.2)
  (fun m q L' hi k=>step m q.1 q.2.1 q.2.2.1 q.2.2.2 (fun x y z u=>L' (x,y,z,u)) hi fun m' x' y' z' u' hm h'=>k m' (x',y',z',u') hm h') (x:=(x,y,z,u)) h hi
theorem l5_ {A B C E F β : Type} {L:Nat→A→B→C→E→F→Option β} {b:(A→B→C→E→F→Option β)→A→B→C→E→F→Option β} (hL:∀ n x y z u v,L (n+1) x y z u v=b (L n) x y z u v) (I:Nat→A→B→C→E→F→Prop) {Q : β→Prop}
  (step:∀ m x y z u v L',I m x y z u v→(∀ m' x' y' z' u' v',m'<m→I m' x' y' z' u' v'→Tot (L' x' y' z' u' v') Q)→Tot (b L' x y z u v) Q) {m n:Nat} {x:A} {y:B} {z:C} {u:E} {v:F} (h:m<n) (hi:I m x y z u v):Tot (L n x y z u v) Q:=
 l1_ (L:=fun n (q:A×B×C×E×F)=>L n q.1 q.2.1 q.2.2.1 q.2.2.2.1 q.2.2.2.2) (b:=fun L' q=>b (fun x y z u v=>L' (x,y,z,u,v)) q.1 q.2.1 q.2.2.1 q.2.2.2.1 q.2.2.2.2) (fun n q=>hL n q.1 q.2.1 q.2.2.1 q.2.2.2.1 q.2.2.2.2) (fun m q=>I m q.1 q.2.1 q.2.2.1 q.2.2.2.1 q.2.2.2.2)
  (fun m q L' hi k=>step m q.1 q.2.1 q.2.2.1 q.2.2.2.1 q.2.2.2.2 (fun x y z u v=>L' (x,y,z,u,v)) hi fun m' x' y' z' u' v' hm h'=>k m' (x',y',z',u',v') hm h') (x:=(x,y,z,u,v)) h hi
def Is (b:Bool) (p:Prop):Prop:=b=true↔p
theorem Is.t {b:Bool} {p:Prop} (h:Is b p) (hp:p):b=true:=h.2 hp
theorem Is.f {b:Bool} {p:Prop} (h:Is b p) (hp:¬ p):b=false:=by cases b<;>simp_all [Is]
theorem x_eg {p:Prop} (h:p):Is true p:=⟨fun _=>h,fun _=>rfl⟩
theorem x_a {p:Prop} (h:¬ p):Is false p:=⟨fun k=>absurd k (by decide),fun k=>absurd k h⟩
theorem tf {α : Type} {b:Bool} {p:Prop} {x y:Option α} {Q : α→Prop} (hb:Is b p) (h:p→Tot x Q) (k:¬ p→Tot y Q):Tot (bif b then x else y) Q:=by
 cases b
 ·exact k fun hp=>by have:=hb.2 hp;cases this
 ·exact h (hb.1 rfl)
theorem tg {α : Type} {b:Bool} {p:Prop} {x y:Option α} {Q : α→Prop} (hb:Is b p) (h:¬ p→Tot x Q) (k:p→Tot y Q):Tot (bif !b then x else y) Q:=by
 cases b
 ·exact h fun hp=>by have:=hb.2 hp;cases this
 ·exact k (hb.1 rfl)
theorem Tot.of {α : Type} {x:Option α} {a : α} (h:x=some a):Tot x fun r=>r=a:=⟨a,h,rfl⟩
theorem Tot.eq {α : Type} {x:Option α} {a : α} (h:Tot x fun r=>r=a):x=some a:=by obtain ⟨b,h,rfl⟩:=h;exact h
theorem Tot.and {α : Type} {x:Option α} {Q R : α→Prop} (h:Tot x Q) (k:Tot x R):Tot x fun a=>Q a∧R a:=by
 obtain ⟨a,e,q⟩:=h
 obtain ⟨b,e',r⟩:=k
 rw [e] at e'
 obtain rfl:=Option.some.inj e'
 exact ⟨a,e,q,r⟩
theorem x_ad {α : Type} {l:List α} {i:Nat} {z : α} (h:i<l.length):l.getD i z∈l:=by
 rw [gd_,ge_ h]
 exact List.getElem_mem h
theorem x_az {α : Type} {l:List α} {i:Nat} {z : α} (h:i<l.length):l.getD i z=l[i]:=by
 rw [gd_,ge_ h];rfl
theorem tE {α : Type} {Q : α→Prop} (h:False):Tot (none:Option α) Q:=h.elim
theorem tv {α β : Type} {x:Option (α×Unit)} {a : α} {f : α×Unit→Option β} {R : β→Prop} (h:Tot x fun r=>r.1=a) (k:Tot (f (a,())) R):Tot (x.bind f) R:=by
 obtain ⟨⟨b,⟨⟩⟩,rfl,h⟩:=h
 subst h
 exact k
theorem x_d3 {α : Type} {l m:List α} {i:Nat} {z : α} (h:i<l.length):(l++m).getD i z=l.getD i z:=by
 rw [x_az h,x_az (by rw [List.length_append];omega),List.getElem_append_left h]
theorem x_if {α : Type} {l:List α} {x z : α}:(l++[x]).getD l.length z=x:=by
 rw [x_az (by simp),List.getElem_append_right (Nat.le_refl _)];simp
theorem x_m2 {α : Type} {l:List α} {n i:Nat} {z : α}:(l.drop n).getD i z=l.getD (n+i) z:=by
 simp [gd_,List.getElem?_drop]
theorem tA {β : Type} {L:Nat→Int→Option β} {b:(Int→Option β)→Int→Option β} (hL:∀ n x,L (n+1) x=b (L n) x) (N:Nat) (P:Nat→Prop) {R : β→Prop}
  (step:∀ (i:Nat) L',i<N→(P i→Tot (L' ((i:Int)+1)) R)→(∀ j,j<i→P j)→Tot (b L' (i:Int)) R)
  (fin:∀ L',(∀ i,i<N→P i)→Tot (b L' (N:Int)) R) {n:Nat} (hn:N<n):Tot (L n 0) R:=by
 refine l1_ hL (fun m q=> ∃ i:Nat,q=i∧i+m=N∧ ∀ j,j<i→P j) (fun m x L' hi k=>?_) hn ⟨0,rfl,by omega,fun j h=>by omega⟩
 obtain ⟨i,rfl,hm,ha⟩:=hi
 rcases Nat.lt_or_ge i N with h | h
 ·refine step i L' h (fun hp=>k (m-1) _ (by omega) ⟨i+1,by push_cast;rfl,by omega,fun j hj=>?_⟩) ha
  rcases Nat.lt_or_ge j i with h | h
  ·exact ha j h
  ·obtain rfl:j=i:=by omega
   exact hp
 ·obtain rfl:i=N:=by omega
  exact fin L' ha
theorem x_sb {x l:Int} (h0:0≤x) (hl:0<l):0≤Int.tdiv x l∧Int.tdiv x l≤x∧Int.tdiv x l*l≤x∧x<(Int.tdiv x l+1)*l:=by
 rw [Int.tdiv_eq_ediv_of_nonneg h0]
 refine ⟨Int.ediv_nonneg h0 (Int.le_of_lt hl),Int.ediv_le_self _ h0,Int.ediv_mul_le _ (by omega),Int.lt_ediv_add_one_mul_self _ hl⟩
theorem x_vi {x y l:Int} (h0:0≤x) (h:x≤y) (hl:0<l):Int.tdiv x l≤Int.tdiv y l:=by
 rw [Int.tdiv_eq_ediv_of_nonneg h0,Int.tdiv_eq_ediv_of_nonneg (by omega)]
 exact Int.ediv_le_ediv hl h
theorem x_vs {x y l:Int} (h0:0≤y) (hl:0<l) (h:Int.tdiv x l<Int.tdiv y l):(Int.tdiv x l+1)*l≤y:=
 Int.le_trans (Int.mul_le_mul_of_nonneg_right (by omega) (by omega)) (x_sb h0 hl).2.2.1
def flat:ET→Bool
 | .p x y=>flat x && flat y
 | .i _=>true
 | .b=>true
 | .s=>true
 | _=>false
theorem x_e1:∀ (e:ET) (a b:e.val),flat e=true→(eqv e a b=true↔a=b)
 | .p x y,a,b,h=>by
  simp only [flat,Bool.and_eq_true] at h
  simp only [eqv,Bool.and_eq_true,x_e1 x _ _ h.1,x_e1 y _ _ h.2]
  exact ⟨fun h=>Prod.ext h.1 h.2,fun h=>by rw [h];exact ⟨rfl,rfl⟩⟩
 | .i k,a,b,h=>by simp only [eqv,decide_eq_true_eq]
 | .b,a,b,h=>by
  show ((a:Bool) == (b:Bool))=true↔_
  rw [beq_iff_eq]
 | .s,a,b,h=>by
  simp only [eqv,decide_eq_true_eq]
  exact ⟨fun h=>ba_ext h,fun h=>by rw [h]⟩
 | .er,_,_,h=>by simp [flat] at h
 | .u,_,_,h=>by simp [flat] at h
 | .sl _,_,_,h=>by simp [flat] at h
end Go.Kn
set_option linter.all false
namespace Go.Kn
theorem w6 {n:Int} (h0 : -9223372036854775808≤n) (h1:n≤9223372036854775807):i6 n=n:=w64 h0 h1
theorem t2_ {α : Type} {p q:Prop} [Decidable p] [Decidable q] {x:Option α} {Q : α→Prop} (h:p∧q) (k:Tot x Q):Tot (bif decide p then (bif decide q then x else none) else none) Q:=tc h.1 (tc h.2 k)
theorem wi {i:Nat} (h:i<9000000000000000000):i6 ((i:Int)+1)=(i:Int)+1:=w6 (by omega) (by omega)
theorem tz (n:Nat):(n:Int).toNat=n:=rfl
end Go.Kn
