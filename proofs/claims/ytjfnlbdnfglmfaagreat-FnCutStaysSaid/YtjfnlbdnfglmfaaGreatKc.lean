/- A small machine over plain lists, and the proof that what it computes is what the Go function computes. -/
import Derived.Test.YtjfnlbdnfglmfaaGreatKb
import Derived.ChangeArms
import Derived.WideShapes
import Derived.ChangeShapes
import Derived.Below
import Derived.Carry
import Derived.SizedLaws
import Derived.HandedShaped
import Derived.OpenShut
import Derived.RowKit
import Derived.ChangeOld
import Derived.KernelRfl
import Derived.Lib.ItoaNum
import Derived.Lib.AtoiAll
import Derived.Lib.Join
import Derived.Lib.SplitLaws
import Derived.Lib.LaidTab
import Derived.Lib.SmallJoins
import Derived.LaidMore
import Derived.LaidOnce
import Derived.Sort.Grow
set_option linter.all false
namespace Go.Kn
variable [Ctx]
open Classical
variable {P:Program} {D:Key×Nat→Prop} {st st':St} {tm:Array Value} {w w1:World} {g:Gh} {ds:List Deferred} {E:Env}
variable {T:Tab} {i:Nat} {o:Oper}
theorem x_zt {l:List Loc} {x:Loc} (h:x∈l):(x_y7 l).testBit x.code=true:=by
 induction l with
 | nil=>simp at h
 | cons y l ih=>
  simp only [x_y7,List.foldr_cons,Nat.testBit_or,Bool.or_eq_true]
  rcases List.mem_cons.1 h with rfl | h
  ·right;simp
  ·left;exact ih h
theorem x_sd {a b:List Loc} (h:x_y7 a &&& x_y7 b=0):meets a b=false:=by
 rw [Bool.eq_false_iff]
 intro hm
 simp only [meets,List.any_eq_true,List.contains_iff_mem] at hm
 obtain ⟨x,h1,h2⟩:=hm
 have:=congrArg (Nat.testBit · x.code) h
 simp [Nat.testBit_and,x_zt h1,x_zt h2] at this
theorem x_xs (a b:List Loc):x_y7 (a++b)=x_y7 a ||| x_y7 b:=by
 induction a with
 | nil=>simp [x_y7]
 | cons x a ih=>
  simp only [x_y7,List.cons_append,List.foldr_cons] at ih ⊢
  rw [ih,Nat.or_assoc,Nat.or_assoc,Nat.or_comm (List.foldr _ 0 b)]
theorem x_te:∀ (ops:List Oper) (am:List Nat) (al:List (List Nat)),am.length=al.length→(∀ y x,(am.getD y 0).testBit x=true→x∈al.getD y [])→
  ∀ y x,((ops.foldl (fun acc o=>acc++[o.after.toList.foldr (fun e m=>if Region.binds .any e then m ||| ((1 <<< e.on) ||| acc.getD e.on 0) else m) 0]) am).getD y 0).testBit x=true→x∈(ops.foldl x_u9 al).getD y []
 | [],am,al,hl,h=>h
 | o::ops,am,al,hl,h=>by
  simp only [List.foldl_cons]
  refine x_te ops _ _ (by simp [x_u9,hl]) fun y x hy=>?_
  have key:∀ (l:List Edge),(l.foldr (fun e m=>if Region.binds .any e then m ||| ((1 <<< e.on) ||| am.getD e.on 0) else m) 0).testBit x=true→x∈(l.filter (Region.binds .any)).flatMap fun e=>e.on::al.getD e.on []:=by
   intro l
   induction l with
   | nil=>simp
   | cons e l ih=>
    intro hx
    simp only [List.foldr_cons] at hx
    simp only [List.filter_cons]
    split at hx
    ·rename_i hb
     rw [if_pos hb,List.flatMap_cons,List.mem_append]
     simp only [Nat.testBit_or,Bool.or_eq_true] at hx
     rcases hx with hx | hx | hx
     ·exact .inr (ih hx)
     ·left
      simp only [Nat.one_shiftLeft,Nat.testBit_two_pow,decide_eq_true_eq] at hx
      rw [hx];simp
     ·left;exact List.mem_cons_of_mem _ (h _ _ hx)
    ·rename_i hb
     rw [if_neg (by simpa using hb)]
     exact ih hx
  rw [gd_,List.getElem?_append] at hy
  rw [x_u9,gd_,List.getElem?_append, ←hl]
  split at hy
  ·rename_i hlt
   rw [if_pos hlt]
   have:=h y x (by rw [gd_];exact hy)
   rwa [gd_] at this
  ·rename_i hge
   rw [if_neg hge]
   rcases Nat.eq_or_lt_of_le (Nat.le_of_not_lt hge) with he | he
   ·rw [←he,Nat.sub_self] at hy ⊢
    exact key _ hy
   ·rw [List.getElem?_eq_none (by simp;omega)] at hy
    simp at hy
theorem x_md (ops:List Oper):∀ lg:List Ent,indepM (reachM ops) (masks lg)=true→x_y0 (reach ops) lg=true
 | [],_=>rfl
 | y::l,h=>by
  simp only [masks,List.map_cons,indepM,Bool.and_eq_true,List.all_eq_true,List.mem_map,forall_exists_index,and_imp,forall_apply_eq_imp_iff₂] at h
  simp only [x_y0,Bool.and_eq_true,List.all_eq_true]
  refine ⟨fun x hx=>?_,x_md ops l h.2⟩
  have hx':=h.1 x hx
  simp only [Bool.or_eq_true,Bool.and_eq_true,beq_iff_eq] at hx'
  rw [Bool.or_eq_true]
  rcases hx' with hx' | ⟨h1,h2⟩
  ·left
   have:=x_te ops [] [] rfl (fun y x h=>by simp at h) y.i x.i hx'
   rw [←reach_eq] at this
   simpa using this
  ·right
   rw [←x_xs] at h1
   rw [x_sd h1,x_sd h2]
   rfl
def D0 (k:Key×Nat):Prop:=k.2≤1
theorem x_vh:Init D0:=fun _ _ h=>h
theorem Goes.bb {D':Key×Nat→Prop} {tm':Array Value} {w':World} {g':Gh} (G:Goes D D' st tm w g st' tm' w' g') {n:Nat} (hD:D (.b n,0)) (h:okBx st' n 0=true):okBx st n 0=true∧g'.bb n=g.bb n:=by
 have key:∀ b,(okBx st n 0=true→b=g.bb n)→b=g'.bb n:=fun b hb=>by
  have O:Opd D st tm w g (.one (.ptr n 0 0)) (.pointer (some ⟨b,0,none⟩)):=
   x_eu (by simp) trivial (fun t ht=>by simp only [stC,List.mem_singleton] at ht;rw [ht];exact hD) fun ho=>by rw [hb ho]
  have:=(G.opd _ _ O).one.2.2.2 h
  simpa using this
 by_cases ho:okBx st n 0=true
 ·exact ⟨ho,(key _ fun _=>rfl).symm⟩
 ·exfalso
  have h1:=key 0 fun h=>absurd h ho
  have h2:=key 1 fun h=>absurd h ho
  omega
structure Far (st:St) (w:World) (g:Gh) (st':St) (w':World) (g':Gh):Prop where
 stp:Stp w g w' g'
 bb:∀ n,okBx st' n 0=true→okBx st n 0=true∧g'.bb n=g.bb n
theorem Far.refl:Far st w g st w g:=⟨.refl _ _,fun _ h=>⟨h,rfl⟩⟩
theorem Far.trans {s2:St} {w' w2:World} {g' g2:Gh} (h:Far st w g st' w' g') (k:Far st' w' g' s2 w2 g2):Far st w g s2 w2 g2:=
 ⟨h.stp.trans k.stp,fun n hn=>⟨(h.bb n (k.bb n hn).1).1,(k.bb n hn).2.trans (h.bb n (k.bb n hn).1).2⟩⟩
theorem Goes.far {D':Key×Nat→Prop} {tm':Array Value} {w':World} {g':Gh} (G:Goes D0 D' st tm w g st' tm' w' g'):Far st w g st' w' g':=⟨G.stp,fun n h=>G.bb (by simp [D0]) h⟩
theorem x_zy (keep:Nat→Bool):Far st w g (settle keep st) w g:=⟨.refl _ _,fun n h=>⟨by
 obtain ⟨cs,h⟩:=x_ek.1 h
 rw [settle_eq,x_x1] at h
 simp only [x_mf,x_m7,Nat.zero_add] at h
 split at h
 ·cases hb:st.bx.getD n none with
  | none=>rw [hb] at h;simp at h
  | some b=>
   rw [hb] at h
   simp only [Option.map_some,sj_,Prod.mk.injEq] at h
   exact x_ek.2 ⟨b.2,by rw [hb];congr 1;obtain ⟨t,c⟩:=b;simp only at h ⊢;congr 1;omega⟩
 ·simp at h,rfl⟩⟩
theorem x_z9 (f:Option (Nat→Bool)):Far st w g (forget f st) w g:=⟨.refl _ _,fun n h=>⟨x_pe f h,rfl⟩⟩
def exOf:Ex→Exit
 | .normal=> .normal
 | .exit id=> .exit id
 | .ret=> .ret
theorem least {p:Nat→Prop} (h:∃ n,p n):∃ n,p n∧ ∀ m,p m→n≤m:=by
 obtain ⟨n,hn⟩:=h
 induction n using Nat.strongRecOn with
 | ind n ih=>
  by_cases hm:∃ m,m<n∧p m
  ·obtain ⟨m,hlt,hp⟩:=hm
   exact ih m hlt hp
  ·exact ⟨n,hn,fun m hp=>Nat.le_of_not_lt fun hlt=>hm ⟨m,hlt,hp⟩⟩
theorem wp_loopN {c:Code} {Q:Exit→Act→World→Prop} {a:Act} {w:World} (J:Nat→Act→World→Prop) {n:Nat} (h0:J n a w)
  (round:∀ n a w,J n a w→ ∃ m,n=m+1∧c.wp P (Exit.then (J m) Q) a w):(Code.loop c).wp P Q a w:=by
 refine wp_loop (fun a w=> ∃ n,J n a w) (fun a w=>if h:∃ n,J n a w then (least h).choose else 0) ⟨n,h0⟩ fun a w hI=>?_
 obtain ⟨m,hm,hc⟩:=round _ a w (least hI).choose_spec.1
 refine wp_mono hc fun e a' w' he=>?_
 cases e with
 | normal=>
  have hJ:J m a' w':=he
  refine ⟨⟨m,hJ⟩,?_⟩
  have hx:∃ n,J n a' w':=⟨m,hJ⟩
  rw [dif_pos hx,dif_pos hI]
  have:=(least hx).choose_spec.2 m hJ
  omega
 | _=>exact he
theorem dead_goes {n:Nat} (I:Inv D st tm w g) (hn:n<tm.size):Goes D D st tm w g { st with sl:=st.sl.set n .dead } tm w g:=by
 have:=x_vg I hn (x_t8 (tm[n]))
 have h:tm.setIfInBounds n tm[n]=tm:=by
  apply Array.ext
  ·simp
  ·intro j h1 h2
   rw [Array.getElem_setIfInBounds]
   split
   ·rename_i e;subst e;rfl
   ·rfl
 rw [h] at this
 exact this
theorem run_ok {R:Type} (TO:TOk P T) (hm:P.follows .mixedOrders=true) {H:Hint} {K:Nat} {r:R}:∀ (c:Code) (st:St) (tm:Array Value) (w:World) (g:Gh) (k:Ex→St→Option R) (Q:Exit→Act→World→Prop),
  Inv D0 st tm w g→run T H K c st k=some r→(∀ e st' tm' w' g',Inv D0 st' tm' w' g'→Far st w g st' w' g'→k e st'=some r→Q (exOf e) ⟨tm',ds⟩ w')→c.wp P Q ⟨tm,ds⟩ w:=by
 intro c
 induction c with
 | skip=>intro st tm w g k Q I h hQ;exact wp_skip (hQ .normal st tm w g I .refl h)
 | seq a b iha ihb=>
  intro st tm w g k Q I h hQ
  simp only [run] at h
  refine wp_seq (iha st tm w g _ _ I h fun e st' tm' w' g' I' F hk=>?_)
  cases e with
  | normal=>exact ihb st' tm' w' g' k Q I' hk fun e st2 tm2 w2 g2 I2 F2 hk2=>hQ e st2 tm2 w2 g2 I2 (F.trans F2) hk2
  | exit id=>exact hQ _ st' tm' w' g' I' F hk
  | ret=>exact hQ _ st' tm' w' g' I' F hk
 | region id ops draw=>
  intro st tm w g k Q I h hQ
  simp only [run,fSt_eq] at h
  obtain ⟨es,X,hk⟩:=x_wy h
  split at hk
  ·rename_i hc
   have hc:(!draw || (fwd ops.toList && x_y0 (reach ops.toList) es.reverse))=true:=by
    revert hc
    cases draw with
    | false=>intro _;rfl
    | true=>
     intro hc
     simp only [Bool.not_true,Bool.false_or,Bool.and_eq_true] at hc ⊢
     exact ⟨hc.1,x_md _ _ hc.2⟩
   have fin:∀ w0,Far st w g st w0 g→ ∀ D' g' tm' w',Goes D0 D' st tm w0 g (puts st (es.flatMap (·.ws))) tm' w' g'→Q .normal ⟨tm',ds⟩ w':=fun w0 F0 D' g' tm' w' G=>
    hQ .normal _ tm' w' g' ((G.inv.settle (H.lasts _)).forget (H.drp _)) (F0.trans (G.far.trans ((x_zy _).trans (x_z9 _)))) hk
   cases draw with
   | false=>exact wp_region (txt_plain TO X x_vh I (fin w .refl))
   | true=>
    simp only [Bool.not_true,Bool.false_or,Bool.and_eq_true] at hc
    have G0:=x_rd (w1:= { w with drawn:=w.drawn+1 }) I ⟨Nat.le_refl _,fun _ _=>rfl,rfl,rfl,rfl⟩
    exact wp_region_any hm (txt_any TO X hc.1 hc.2 x_vh G0.inv (fin _ G0.far))
  ·simp at hk
 | cond cnd x y ihx ihy=>
  intro st tm w g k Q I h hQ
  cases cnd with
  | tmp n=>
   simp only [run] at h
   split at h
   ·rename_i b hb
    have htm:=x_vy I hb
    have hn:=(Array.getElem?_eq_some_iff.1 htm).1
    have hev:(⟨tm,ds⟩ : Act).eval (.tmp n)= .bool b:=by
     have:=(Array.getElem?_eq_some_iff.1 htm).2
     simp [Act.eval,Array.getD,hn,this]
    have G:Goes D0 D0 st tm w g (condS H n b st) tm w g:=by
     unfold condS
     split
     ·rw [x_ve hb];exact .refl I
     ·exact dead_goes I hn
    refine wp_cond hev ?_
    cases b with
    | true=>exact ihx _ tm w g k Q G.inv h fun e st2 tm2 w2 g2 I2 F2 hk2=>hQ e st2 tm2 w2 g2 I2 (G.far.trans F2) hk2
    | false=>exact ihy _ tm w g k Q G.inv h fun e st2 tm2 w2 g2 I2 F2 hk2=>hQ e st2 tm2 w2 g2 I2 (G.far.trans F2) hk2
   ·simp at h
  | _=>simp [run] at h
 | block id c ih=>
  intro st tm w g k Q I h hQ
  simp only [run] at h
  refine wp_block (ih st tm w g _ _ I h fun e st' tm' w' g' I' F hk=>?_)
  cases e with
  | normal=>exact hQ .normal st' tm' w' g' I' F hk
  | exit j=>
   simp only at hk
   by_cases hj:j=id
   ·rw [if_pos hj] at hk
    subst hj
    simpa [exOf,Exit.inBlock] using hQ .normal st' tm' w' g' I' F hk
   ·rw [if_neg hj] at hk
    simpa [exOf,Exit.inBlock,hj] using hQ (.exit j) st' tm' w' g' I' F hk
  | ret=>exact hQ .ret st' tm' w' g' I' F hk
 | loop c ih=>
  intro st tm w g k Q I h hQ
  simp only [run] at h
  refine wp_loopN (n:=K) (fun n a w'=> ∃ st' tm' g',a=⟨tm',ds⟩∧Inv D0 st' tm' w' g'∧Far st w g st' w' g'∧loopN (fun st k=>run T H K c st k) n st' k=some r) ⟨st,tm,g,rfl,I, .refl,h⟩ fun n a w' hJ=>?_
  obtain ⟨st',tm',g',rfl,I',F,hl⟩:=hJ
  cases n with
  | zero=>simp [loopN] at hl
  | succ m=>
   refine ⟨m,rfl,?_⟩
   simp only [loopN] at hl
   refine ih st' tm' w' g' _ _ I' hl fun e st2 tm2 w2 g2 I2 F2 hk2=>?_
   cases e with
   | normal=>exact ⟨st2,tm2,g2,rfl,I2,F.trans F2,hk2⟩
   | exit id=>exact hQ (.exit id) st2 tm2 w2 g2 I2 (F.trans F2) hk2
   | ret=>exact hQ .ret st2 tm2 w2 g2 I2 (F.trans F2) hk2
 | exit id=>intro st tm w g k Q I h hQ;exact wp_exit (hQ (.exit id) st tm w g I .refl h)
 | ret=>intro st tm w g k Q I h hQ;exact wp_ret (hQ .ret st tm w g I .refl h)
 | _=>intro st tm w g k Q I h hQ;simp [run] at h
end Go.Kn
namespace Go.Kn
variable [Ctx]
variable {P:Program} {D:Key×Nat→Prop} {st st':St} {tm:Array Value} {w w1:World} {g:Gh} {ds:List Deferred} {E:Env}
theorem x_n8 {x y:ET} {v:x.val} {v':y.val} (h:x_so x y v=some v'):(⟨x,v⟩ : (e:ET)×e.val)=⟨y,v'⟩:=by
 obtain ⟨rfl,rfl⟩:=x_f7 h
 rfl
theorem x_rf:∀ (e:ET) (l:List LV) (v:e.val) (r:List LV),x_e6 e l=some (v,r)→l=lv e v++r
 | .p x y,l,v,r,h=>by
  simp only [x_e6,Option.bind_eq_some_iff,Option.map_eq_some_iff] at h
  obtain ⟨⟨a,m⟩,h1,⟨b,r'⟩,h2,h3⟩:=h
  simp only [Prod.mk.injEq] at h3
  obtain ⟨rfl,rfl⟩:=h3
  have e1:=x_rf x l a m h1
  have e2:=x_rf y m b r' h2
  rw [e1,e2]
  simp [lv]
 | .u,l,v,r,h=>by simp only [x_e6,sj_,Prod.mk.injEq] at h;simp [lv,h.2]
 | .sl x,[],v,r,h=>by simp [x_e6] at h
 | .i k,[],v,r,h=>by simp [x_e6] at h
 | .b,[],v,r,h=>by simp [x_e6] at h
 | .s,[],v,r,h=>by simp [x_e6] at h
 | .er,[],v,r,h=>by simp [x_e6] at h
 | .sl x,c::cs,v,r,h=>by
  simp only [x_e6,Option.map_eq_some_iff,Prod.mk.injEq] at h
  obtain ⟨v0,h2,rfl,rfl⟩:=h
  have:=x_n8 h2
  simp only [lv,List.singleton_append]
  exact congrArg (· ::cs) this
 | .i k,c::cs,v,r,h=>by
  simp only [x_e6,Option.map_eq_some_iff,Prod.mk.injEq] at h
  obtain ⟨v0,h2,rfl,rfl⟩:=h
  exact congrArg (· ::cs) (x_n8 h2)
 | .b,c::cs,v,r,h=>by
  simp only [x_e6,Option.map_eq_some_iff,Prod.mk.injEq] at h
  obtain ⟨v0,h2,rfl,rfl⟩:=h
  exact congrArg (· ::cs) (x_n8 h2)
 | .s,c::cs,v,r,h=>by
  simp only [x_e6,Option.map_eq_some_iff,Prod.mk.injEq] at h
  obtain ⟨v0,h2,rfl,rfl⟩:=h
  exact congrArg (· ::cs) (x_n8 h2)
 | .er,c::cs,v,r,h=>by
  simp only [x_e6,Option.map_eq_some_iff,Prod.mk.injEq] at h
  obtain ⟨v0,h2,rfl,rfl⟩:=h
  exact congrArg (· ::cs) (x_n8 h2)
theorem x_v8 {e:ET} {l:List LV} {v:e.val} (h:ofLV e l=some v):lv e v=l:=by
 simp only [ofLV,Option.bind_eq_some_iff] at h
 obtain ⟨⟨a,r⟩,h1,h2⟩:=h
 cases r with
 | nil=>
  simp only [sj_] at h2
  subst h2
  have:=x_rf e l a [] h1
  rw [this,List.append_nil]
 | cons b r=>simp at h2
def inC:Md→LV→Cell
 | .f,a=> .val .f a.1 a.2
 | .r,a=> .val .r a.1 a.2
 | .x _,a=> .val (.x 0) a.1 a.2
def inCs (ms:List Md) (l:List LV):List Cell:=(ms.zip l).map fun x=>inC x.1 x.2
def inSl:Nat→List Par→List LV→List SC
 | _,[],_=>[]
 | k, .val agg _ ms::ps,l=>scOf agg (inCs ms (l.take ms.length))::inSl (k+1) ps (l.drop ms.length)
 | k, .ptr _ ms o::ps,l=> .one (.ptr k 0 o)::inSl (k+1) ps (l.drop ms.length)
 | k, .via _::ps,l=> .one (.ptr k 0 0)::inSl (k+1) ps l
 | k, .nl x::ps,l=> .one (.nil x)::inSl (k+1) ps l
def inBx:List Par→List LV→List (Option (Nat×List Cell))
 | [],_=>[]
 | .val _ _ ms::ps,l=>none::inBx ps (l.drop ms.length)
 | .ptr _ ms _::ps,l=>some (0,inCs ms (l.take ms.length))::inBx ps (l.drop ms.length)
 | .via j::ps,l=>some (0,[.ptr j 0 0])::inBx ps l
 | .nl _::ps,l=>none::inBx ps l
def x_mj:List Pk→List SC→List SC
 | .one::pk,x::xs=>x::x_mj pk xs
 | .fn f m::pk,xs=> .fn f (xs.take m)::x_mj pk (xs.drop m)
 | .gh _::pk,_::xs=>x_mj pk xs
 | _,xs=>xs
def ghs:List Pk→Nat→Bool
 | .gh _::pk,n+1=>ghs pk n
 | [],n=>n == 0
 | _,_=>false
def pkOk:List Pk→Nat→Bool
 | .one::pk,n+1=>pkOk pk n
 | [.fn _ m],n=>n == m
 | [],_=>true
 | .gh c::pk,n=>ghs (.gh c::pk) n
 | _,_=>false
def pkLen:List Pk→Nat→Nat
 | .one::pk,n+1=>pkLen pk n+1
 | [.fn _ _],_=>1
 | .gh _::_,_=>0
 | _,n=>n
theorem ghs_sl:∀ (pk:List Pk) (xs:List SC),ghs pk xs.length=true→x_mj pk xs=[]
 | [],[],_=>rfl
 | [],_::_,h=>by simp [ghs] at h
 | .gh _::pk,[],h=>by simp [ghs] at h
 | .gh _::pk,x::xs,h=>ghs_sl pk xs (by simpa [ghs] using h)
 | .one::_,[],h=>by simp [ghs] at h
 | .one::_,_::_,h=>by simp [ghs] at h
 | .fn _ _::_,[],h=>by simp [ghs] at h
 | .fn _ _::_,_::_,h=>by simp [ghs] at h
theorem ghs_vs:∀ (pk:List Pk) (xs:List Value),ghs pk xs.length=true→x_pc pk xs=[]
 | [],[],_=>rfl
 | [],_::_,h=>by simp [ghs] at h
 | .gh _::pk,[],h=>by simp [ghs] at h
 | .gh _::pk,x::xs,h=>ghs_vs pk xs (by simpa [ghs] using h)
 | .one::_,[],h=>by simp [ghs] at h
 | .one::_,_::_,h=>by simp [ghs] at h
 | .fn _ _::_,[],h=>by simp [ghs] at h
 | .fn _ _::_,_::_,h=>by simp [ghs] at h
def x_ub (pk:List Pk) (ps:List Par) (n:Nat) (l:List LV):St:=
 {sl:=x_mj pk (inSl 0 ps l)++List.replicate (n-pkLen pk ps.length) .dead,bx:=inBx ps l++List.replicate n none }
def Fact (w:World) (g:Gh) (m:Nat) (sc:SC) (v:Value):Prop:=(∀ st tm,shape st tm w g sc v)∧(∀ t∈stS sc,D0 t)∧
 ∀ (j:Nat) c,sc.cells[j]?=some c→ ∃ cv,(vcs v)[j]?=some cv∧(∀ st tm,x_b5 st tm w g ⟨false,m,j⟩ c cv)∧ ∀ t∈stC ⟨false,m,j⟩ c,D0 t
theorem x_tf:∀ (pk:List Pk) (k:Nat) (xs:List SC) (vs:List Value),pkOk pk xs.length=true→xs.length=vs.length→(∀ (m:Nat) sc v,xs[m]?=some sc→vs[m]?=some v→Fact w g (k+m) sc v)→
  (x_mj pk xs).length=pkLen pk xs.length∧(x_pc pk vs).length=pkLen pk xs.length∧ ∀ (m:Nat) sc v,(x_mj pk xs)[m]?=some sc→(x_pc pk vs)[m]?=some v→Fact w g (k+m) sc v
 | [],k,xs,vs,hp,hl,h=>by
  have e1:x_mj [] xs=xs:=by cases xs<;>rfl
  have e2:x_pc [] vs=vs:=by cases vs<;>rfl
  rw [e1,e2]
  exact ⟨by simp [pkLen],by simp [pkLen,hl],h⟩
 | .one::pk,k,[],vs,hp,hl,h=>by simp [pkOk] at hp
 | .one::pk,k,x::xs,[],hp,hl,h=>by simp at hl
 | .one::pk,k,x::xs,v::vs,hp,hl,h=>by
  obtain ⟨h1,h2,h3⟩:=x_tf pk (k+1) xs vs (by simpa [pkOk] using hp) (by simpa using hl) (fun m sc v ha hb=>by
   have:=h (m+1) sc v (by simpa using ha) (by simpa using hb)
   rwa [show k+(m+1)=k+1+m by omega] at this)
  refine ⟨by simp [x_mj,pkLen,h1],by simp [x_pc,pkLen,h2],fun m sc u ha hb=>?_⟩
  cases m with
  | zero=>exact h 0 sc u ha hb
  | succ m=>
   have:=h3 m sc u ha hb
   rwa [show k+1+m=k+(m+1) by omega] at this
 | .fn f m::y::pk,k,xs,vs,hp,hl,h=>by simp [pkOk] at hp
 | .gh c::pk,k,xs,vs,hp,hl,h=>by
  have hp:ghs (.gh c::pk) xs.length=true:=hp
  have e1:=ghs_sl _ xs hp
  have e2:=ghs_vs _ vs (by rw [←hl];exact hp)
  rw [e1,e2]
  exact ⟨rfl,rfl,fun m sc v ha=>by simp at ha⟩
 | [.fn f m],k,xs,vs,hp,hl,h=>by
  simp only [pkOk,beq_iff_eq] at hp
  have e1:x_mj [.fn f m] xs=[.fn f xs]:=by
   show _::x_mj [] (xs.drop m)=_
   rw [List.drop_of_length_le (by omega),List.take_of_length_le (by omega)];rfl
  have e2:x_pc [.fn f m] vs=[.func (.func f) #[] vs.toArray]:=by
   show _::x_pc [] (vs.drop m)=_
   rw [List.drop_of_length_le (by omega),List.take_of_length_le (by omega)];rfl
  rw [e1,e2]
  refine ⟨rfl,rfl,fun j sc v ha hb=>?_⟩
  cases j with
  | succ j=>simp at ha
  | zero=>
   simp only [List.getElem?_cons_zero,sj_] at ha hb
   subst ha;subst hb
   refine ⟨fun st tm=>⟨vs.toArray,rfl,by simp [hl],fun i hi hi'=>?_⟩,fun t ht=>?_,fun j c hc=>by simp [SC.cells] at hc⟩
   ·have hF:=h i xs[i] vs[i] (ge_ hi) (ge_ (by omega))
    split
    ·rename_i n t off heq
     intro ho
     rw [heq] at hF
     obtain ⟨h1,_,h3⟩:=hF
     obtain ⟨cv,h4,h5,_⟩:=h3 0 _ rfl
     have h6:=h5 st tm ho
     have hv:vcs vs[i]=[vs[i]]:=by
      have:=h1 st tm
      revert this
      generalize vs[i]=u
      intro this
      cases u<;>simp [vcs,shape] at this ⊢
     rw [hv] at h4
     simp only [List.getElem?_cons_zero,sj_] at h4
     show vs[i]=_
     rw [h4,h6]
    ·trivial
   ·simp only [stS,List.mem_flatMap] at ht
    obtain ⟨a,ha,ht⟩:=ht
    obtain ⟨i,hi,rfl⟩:=List.mem_iff_getElem.1 ha
    have hF:=h i xs[i] (vs[i]'(by omega)) (ge_ hi) (ge_ (by omega))
    revert hF ht
    generalize xs[i]=a
    intro ht hF
    split at ht
    ·obtain ⟨_,_,h3⟩:=hF
     obtain ⟨_,_,_,h6⟩:=h3 0 _ rfl
     simp only [List.mem_singleton] at ht
     rw [ht]
     exact h6 _ (by simp [stC])
    ·simp at ht
theorem in_cell {k:Pl} {m:Md} {a:LV} {cv:Value} (h:hand w g k m a cv) (st:St) (tm:Array Value):x_b5 st tm w g k (inC m a) cv:=by
 cases m with
 | f=>exact h
 | r=>exact h
 | x t=>obtain ⟨x,v,rfl,h⟩:=h;exact ⟨x,rfl,h⟩
end Go.Kn
namespace Go.Kn
variable [Ctx]
variable {P:Program} {D:Key×Nat→Prop} {st st':St} {tm:Array Value} {w w1:World} {g:Gh} {ds:List Deferred} {E:Env}
theorem inC_stamp (q:Pl) (m:Md) (a:LV):∀ t∈stC q (inC m a),D0 t:=by
 intro t ht
 cases m<;>simp [inC,stC] at ht
 rw [ht];exact Nat.zero_le _
theorem inCs_get {ms:List Md} {l:List LV} {j:Nat} {c:Cell} (h:(inCs ms l)[j]?=some c):∃ m a,ms[j]?=some m∧l[j]?=some a∧c=inC m a:=by
 simp only [inCs,List.getElem?_map,Option.map_eq_some_iff] at h
 obtain ⟨x,h1,h2⟩:=h
 rw [List.getElem?_zip_eq_some] at h1
 exact ⟨x.1,x.2,h1.1,h1.2,h2.symm⟩
theorem x_py {ms:List Md} {l:List LV} {us:List Value} {lab:Nat→Pl} (h:Hands w g lab ms l us):(inCs ms l).length=ms.length∧
  ∀ (j:Nat) c,(inCs ms l)[j]?=some c→ ∃ cv,us[j]?=some cv∧(∀ st tm,x_b5 st tm w g (lab j) c cv)∧ ∀ t∈stC (lab j) c,D0 t:=by
 refine ⟨by simp [inCs,h.l1],fun j c hc=>?_⟩
 obtain ⟨m,a,h1,h2,rfl⟩:=inCs_get hc
 have hj:j<us.length:=by rw [h.l2];exact (List.getElem?_eq_some_iff.1 h1).1
 exact ⟨us[j],ge_ hj,fun st tm=>in_cell (h.h j m a _ h1 h2 (ge_ hj)) st tm,inC_stamp _ _ _⟩
theorem x_r1:∀ (ps:List Par) (k:Nat) (ls:List LV) (vs:List Value),x_gu w g k ps ls vs→vs.length=ps.length∧(inSl k ps ls).length=ps.length∧(inBx ps ls).length=ps.length∧
  (∀ (m:Nat) sc v,(inSl k ps ls)[m]?=some sc→vs[m]?=some v→(∀ st tm,shape st tm w g sc v)∧stS sc=[]∧
   ∀ (j:Nat) c,sc.cells[j]?=some c→ ∃ cv,(vcs v)[j]?=some cv∧(∀ st tm,x_b5 st tm w g ⟨false,k+m,j⟩ c cv)∧ ∀ t∈stC ⟨false,k+m,j⟩ c,D0 t)∧
  ∀ (m t:Nat) cs,(inBx ps ls)[m]?=some (some (t,cs))→t=0∧g.γ (g.bb (k+m))= .bx (k+m)∧ ∃ vals ty,w.heap[g.bb (k+m)]?=some (.cells vals ty (0,0))∧vals.size=cs.length∧
   ∀ (j:Nat) c,cs[j]?=some c→ ∃ cv,vals[j]?=some cv∧(∀ st tm,x_b5 st tm w g ⟨true,k+m,j⟩ c cv)∧ ∀ t∈stC ⟨true,k+m,j⟩ c,D0 t
 | [],k,ls,vs,h=>by
  obtain ⟨rfl,rfl⟩:=h
  exact ⟨rfl,rfl,rfl,fun m sc v h=>by simp [inSl] at h,fun m t cs h=>by simp [inBx] at h⟩
 | .val agg e ms::ps,k,_,_,⟨l1,l2,v,vs',rfl,rfl,hh,hf,hrest⟩=>by
  obtain ⟨h1,h2,h3,h4,h5⟩:=x_r1 ps (k+1) l2 vs' hrest
  have e1:(l1++l2).take ms.length=l1:=by rw [←hh.l1];simp
  have e2:(l1++l2).drop ms.length=l2:=by rw [←hh.l1];simp
  obtain ⟨c1,c2⟩:=x_py hh
  have hsz:v.cells.size=ms.length:=by have:=hh.l2;simpa using this
  obtain ⟨f1,f2,f3,f4⟩:=x_tx hf hsz c1
  simp only [inSl,inBx,e1,e2]
  refine ⟨by simp [h1],by simp [h2],by simp [h3],fun m sc u hm hu=>?_,fun m t cs hm=>?_⟩
  ·cases m with
   | zero=>
    simp only [List.getElem?_cons_zero,sj_] at hm hu
    subst hm
    subst hu
    refine ⟨fun st tm=>f3 st tm w g,f4,fun j c hc=>?_⟩
    rw [f1] at hc
    rw [f2]
    exact c2 j c hc
   | succ m=>
    have:=h4 m sc u (by simpa using hm) (by simpa using hu)
    rwa [show k+1+m=k+(m+1) by omega] at this
  ·cases m with
   | zero=>simp at hm
   | succ m=>
    have:=h5 m t cs (by simpa using hm)
    rwa [show k+1+m=k+(m+1) by omega] at this
 | .ptr e ms _::ps,k,_,_,⟨l1,l2,vs',cells,ty,rfl,rfl,hg,hh0,hh,hrest⟩=>by
  obtain ⟨h1,h2,h3,h4,h5⟩:=x_r1 ps (k+1) l2 vs' hrest
  have e1:(l1++l2).take ms.length=l1:=by rw [←hh.l1];simp
  have e2:(l1++l2).drop ms.length=l2:=by rw [←hh.l1];simp
  obtain ⟨c1,c2⟩:=x_py hh
  have hsz:cells.size=ms.length:=by have:=hh.l2;simpa using this
  simp only [inSl,inBx,e1,e2]
  refine ⟨by simp [h1],by simp [h2],by simp [h3],fun m sc u hm hu=>?_,fun m t cs hm=>?_⟩
  ·cases m with
   | zero=>
    simp only [List.getElem?_cons_zero,sj_] at hm hu
    subst hm
    subst hu
    refine ⟨fun st tm=>⟨by simp,by simp⟩,rfl,fun j c hc=>?_⟩
    cases j with
    | zero=>
     simp only [SC.cells,List.getElem?_cons_zero,sj_] at hc
     subst hc
     exact ⟨_,rfl,fun st tm _=>rfl,fun t ht=>by simp only [stC,List.mem_singleton] at ht;rw [ht];exact Nat.zero_le _⟩
    | succ j=>simp [SC.cells] at hc
   | succ m=>
    have:=h4 m sc u (by simpa using hm) (by simpa using hu)
    rwa [show k+1+m=k+(m+1) by omega] at this
  ·cases m with
   | zero=>
    simp only [List.getElem?_cons_zero,sj_,Prod.mk.injEq] at hm
    obtain ⟨rfl,rfl⟩:=hm
    refine ⟨rfl,hg,cells,ty,hh0,by omega,fun j c hc=>?_⟩
    obtain ⟨cv,k1,k2⟩:=c2 j c hc
    exact ⟨cv,by simpa using k1,k2⟩
   | succ m=>
    have:=h5 m t cs (by simpa using hm)
    rwa [show k+1+m=k+(m+1) by omega] at this
 | .nl x::ps,k,ls,_,⟨vs',rfl,hrest⟩=>by
  obtain ⟨h1,h2,h3,h4,h5⟩:=x_r1 ps (k+1) ls vs' hrest
  simp only [inSl,inBx]
  refine ⟨by simp [h1],by simp [h2],by simp [h3],fun m sc u hm hu=>?_,fun m t cs hm=>?_⟩
  ·cases m with
   | zero=>
    simp only [List.getElem?_cons_zero,sj_] at hm hu
    subst hm
    subst hu
    refine ⟨fun st tm=>⟨by simp,by simp⟩,rfl,fun j c hc=>?_⟩
    cases j with
    | zero=>
     simp only [SC.cells,List.getElem?_cons_zero,sj_] at hc
     subst hc
     exact ⟨_,rfl,fun st tm=>rfl,fun t ht=>by simp [stC] at ht⟩
    | succ j=>simp [SC.cells] at hc
   | succ m=>
    have:=h4 m sc u (by simpa using hm) (by simpa using hu)
    rwa [show k+1+m=k+(m+1) by omega] at this
  ·cases m with
   | zero=>simp at hm
   | succ m=>
    have:=h5 m t cs (by simpa using hm)
    rwa [show k+1+m=k+(m+1) by omega] at this
 | .via i::ps,k,ls,_,⟨vs',ty,rfl,hg,hh0,hrest⟩=>by
  obtain ⟨h1,h2,h3,h4,h5⟩:=x_r1 ps (k+1) ls vs' hrest
  simp only [inSl,inBx]
  refine ⟨by simp [h1],by simp [h2],by simp [h3],fun m sc u hm hu=>?_,fun m t cs hm=>?_⟩
  ·cases m with
   | zero=>
    simp only [List.getElem?_cons_zero,sj_] at hm hu
    subst hm
    subst hu
    refine ⟨fun st tm=>⟨by simp,by simp⟩,rfl,fun j c hc=>?_⟩
    cases j with
    | zero=>
     simp only [SC.cells,List.getElem?_cons_zero,sj_] at hc
     subst hc
     exact ⟨_,rfl,fun st tm _=>rfl,fun t ht=>by simp only [stC,List.mem_singleton] at ht;rw [ht];exact Nat.zero_le _⟩
    | succ j=>simp [SC.cells] at hc
   | succ m=>
    have:=h4 m sc u (by simpa using hm) (by simpa using hu)
    rwa [show k+1+m=k+(m+1) by omega] at this
  ·cases m with
   | zero=>
    simp only [List.getElem?_cons_zero,sj_,Prod.mk.injEq] at hm
    obtain ⟨rfl,rfl⟩:=hm
    refine ⟨rfl,hg,_,ty,hh0,rfl,fun j c hc=>?_⟩
    cases j with
    | zero=>
     simp only [List.getElem?_cons_zero,sj_] at hc
     subst hc
     exact ⟨_,rfl,fun st tm _=>rfl,fun t ht=>by simp only [stC,List.mem_singleton] at ht;rw [ht];exact Nat.zero_le _⟩
    | succ j=>simp at hc
   | succ m=>
    have:=h5 m t cs (by simpa using hm)
    rwa [show k+1+m=k+(m+1) by omega] at this
theorem x_z2 {pk:List Pk} {ps:List Par} {n:Nat} {ls:List LV} {vs:List Value} (hpk:pkOk pk ps.length=true) (hU:Uni w g) (h:x_gu w g 0 ps ls vs) :
  Inv D0 (x_ub pk ps n ls) ((x_pc pk vs).toArray++Array.replicate (n-(x_pc pk vs).toArray.size) undef) w g:=by
 obtain ⟨h1,h2,h3,h4,h5⟩:=x_r1 ps 0 ls vs h
 obtain ⟨p1,p2,p3⟩:=x_tf (w:=w) (g:=g) pk 0 (inSl 0 ps ls) vs (by rw [h2];exact hpk) (by rw [h1,h2]) (fun m sc v ha hb=>by
  obtain ⟨k1,k2,k3⟩:=h4 m sc v ha hb
  exact ⟨k1,by rw [k2];simp,fun j c hc=>by
   obtain ⟨cv,k4,k5,k6⟩:=k3 j c hc
   exact ⟨cv,k4,k5,k6⟩⟩)
 rw [h2] at p1 p2
 generalize hS:x_mj pk (inSl 0 ps ls)=S at p1 p3
 generalize hV:x_pc pk vs=V at p2 p3
 generalize hN:pkLen pk ps.length=N at p1 p2
 have hini:x_ub pk ps n ls= { sl:=S++List.replicate (n-N) .dead,bx:=inBx ps ls++List.replicate n none } :=by simp only [x_ub,hS,hN]
 rw [hini]
 have hsz:V.toArray.size=N:=by simpa using p2
 generalize hst:({ sl:=S++List.replicate (n-N) .dead,bx:=inBx ps ls++List.replicate n none }:St)=st0
 have hslot:∀ m,gets st0 m=S.getD m .dead:=fun m=>by
  subst hst
  simp only [gets,gd_,List.getElem?_append]
  split
  ·rfl
  ·rename_i hm
   rw [List.getElem?_eq_none (show S.length≤m by omega),List.getElem?_replicate]
   split<;>rfl
 have hbox:∀ m,st0.bx.getD m none=(inBx ps ls).getD m none:=fun m=>by
  subst hst
  simp only [gd_,List.getElem?_append]
  split
  ·rfl
  ·rename_i hm
   rw [List.getElem?_eq_none (show (inBx ps ls).length≤m by omega),List.getElem?_replicate]
   split<;>rfl
 have htm:∀ m,m<N→(V.toArray++Array.replicate (n-V.toArray.size) undef).getD m undef=V.getD m undef:=fun m hm=>by
  have hm':m<V.length:=by omega
  simp [Array.getD,Array.getElem_append,hm',gd_]
  omega
 have hin:∀ m,m<N→ ∃ sc v,S[m]?=some sc∧V[m]?=some v∧gets st0 m=sc∧(V.toArray++Array.replicate (n-V.toArray.size) undef).getD m undef=v:=fun m hm=>by
  refine ⟨S[m]'(by omega),V[m]'(by omega),ge_ _,ge_ _,?_,?_⟩
  ·rw [hslot,gd_,ge_];rfl
  ·rw [htm m hm,gd_,ge_];rfl
 have hcell:∀ q c,aAt st0 q=some c→ ∃ cv,cAt (V.toArray++Array.replicate (n-V.toArray.size) undef) w g q=some cv∧x_b5 st0 (V.toArray++Array.replicate (n-V.toArray.size) undef) w g q c cv∧ ∀ t∈stC q c,D0 t:=by
  intro q c hc
  obtain ⟨b,m,j⟩:=q
  cases b with
  | false=>
   simp only [aAt,Bool.false_eq_true,if_false] at hc
   have hm:m<N:=by
    rcases Nat.lt_or_ge m N with h | h
    ·exact h
    ·rw [hslot,gd_,List.getElem?_eq_none (show S.length≤m by omega)] at hc;simp [SC.cells] at hc
   obtain ⟨sc,v,k1,k2,k3,k4⟩:=hin m hm
   rw [k3] at hc
   obtain ⟨_,_,k5⟩:=p3 m sc v k1 k2
   obtain ⟨cv,k6,k7,k8⟩:=k5 j c hc
   rw [Nat.zero_add] at k7 k8
   exact ⟨cv,by simp only [cAt,Bool.false_eq_true,if_false,k4];exact k6,k7 _ _,k8⟩
  | true=>
   obtain ⟨t,cs,hb,hcs⟩:=x_t6 hc
   rw [hbox,gd_] at hb
   have hb':(inBx ps ls)[m]?=some (some (t,cs)):=by
    cases hx:(inBx ps ls)[m]? with
    | none=>rw [hx] at hb;simp at hb
    | some y=>rw [hx] at hb;simp only [Option.getD_some] at hb;rw [hb]
   obtain ⟨_,_,vals,ty,k1,k2,k3⟩:=h5 m t cs hb'
   rw [Nat.zero_add] at k1 k3
   obtain ⟨cv,k4,k5,k6⟩:=k3 j c hcs
   exact ⟨cv,by simp only [cAt,if_true,bcell,k1];exact k4,k5 _ _,k6⟩
 refine ⟨by subst hst;simp [p1,p2],fun m hm=>?_,fun q c hc=>?_,fun m t cs hb=>?_,hU.1,fun m t ht=>?_,fun q c hc=>?_,hU.2⟩
 ·rcases Nat.lt_or_ge m N with h | h
  ·obtain ⟨sc,v,k1,k2,k3,k4⟩:=hin m h
   rw [k3,k4]
   exact (p3 m sc v k1 k2).1 _ _
  ·rw [hslot,gd_,List.getElem?_eq_none (by omega)]
   trivial
 ·obtain ⟨cv,k1,k2,_⟩:=hcell q c hc
  exact ⟨cv,k1,k2⟩
 ·rw [hbox,gd_] at hb
  have hb':(inBx ps ls)[m]?=some (some (t,cs)):=by
   cases hx:(inBx ps ls)[m]? with
   | none=>rw [hx] at hb;simp at hb
   | some y=>rw [hx] at hb;simp only [Option.getD_some] at hb;rw [hb]
  obtain ⟨k0,k1,vals,ty,k2,k3,_⟩:=h5 m t cs hb'
  rw [Nat.zero_add] at k1 k2
  exact ⟨by rw [k0];exact Nat.zero_le _,k1,vals,ty,k2,k3⟩
 ·rcases Nat.lt_or_ge m N with h | h
  ·obtain ⟨sc,v,k1,k2,k3,k4⟩:=hin m h
   rw [k3] at ht
   exact (p3 m sc v k1 k2).2.1 t ht
  ·rw [hslot,gd_,List.getElem?_eq_none (by omega)] at ht
   simp [stS] at ht
 ·obtain ⟨cv,_,_,k⟩:=hcell q c hc
  exact k
end Go.Kn
namespace Go.Kn
variable [Ctx]
variable {P:Program} {D:Key×Nat→Prop} {st st':St} {tm:Array Value} {w w1:World} {g:Gh} {ds:List Deferred} {E:Env}
inductive RS where
 | tmp (t:Nat) | cell (a:Nat) (t:TypeId)
def RS.var:RS→ResultVar
 | .tmp t=> .tmp t
 | .cell a t=> .cell a t
def resSrc (E:Env):RS→Pr SC
 | .tmp t=> .rs t fun x=> .ret (x_t3 t x)
 | .cell a t=> .rs a fun x=>loadR E t (x_t3 a x)
def fR (m:Md):Md:=if noR m then m else .f
def dropR (z:List Cell) (a:List (Md×Cell)):List (Md×Cell):=List.zipWith (fun z x=>if noR x.1 then x else (.f,z)) z a
def isVal:Cell→Bool
 | .val _ _ _=>true
 | _=>false
def dropP (e:ET) (ms:List Md) (a:List (Md×Cell)):Pr (List (Md×Cell)):=
 if ms.all noR then .ret a else if (x_d9 e).length=a.length && a.all (fun x=>noR x.1 || isVal x.2) then .ret (dropR (x_d9 e) a) else .fail
def x_ut (E:Env):List (Bool×ET×List Md)→List RS→Pr (List (Md×Cell))
 | [],[]=> .ret []
 | r::rs,t::ts=>(resSrc E t).bind fun x=>(zipV r.1 r.2.2 x).bind fun a0=>(dropP r.2.1 r.2.2 a0).bind fun a=>(x_ut E rs ts).bind fun b=> .ret (a++b)
 | _,_=> .fail
def x_i1:Nat→List Par→Pr (List (Md×Cell))
 | _,[]=> .ret []
 | k, .val _ _ _::ps=>x_i1 (k+1) ps
 | k, .ptr _ ms _::ps=>if ms.length=0 || !ms.all noR then .fail else .ln k ms.length ((x_ot k 0 0 ms.length).bind fun cs=>(x_i1 (k+1) ps).bind fun b=> .ret (ms.zip cs++b))
 | k, .nl _::ps=>x_i1 (k+1) ps
 | k, .via j::ps=> .ln k 1 (.rb k 0 fun x=> .chk (x.1 == 0) (match x.2 with
   | .ptr m 0 0=>if m=j then .rb j 0 fun y=> .chk (y.1 == 0) (x_i1 (k+1) ps) else .fail
   | _=> .fail))
noncomputable def endP (E:Env) (F:FSp) (ts:List RS):Pr (resE F.ps F.rs).val:=
 (x_ut E F.rs ts).bind fun a=>(x_i1 0 F.ps).bind fun b=>(giveCs (a++b)).bind fun ls=>x_kl (resE F.ps F.rs) ls
noncomputable def endK (E:Env) (F:FSp) (ts:List RS) (e:Ex) (st:St):Option (resE F.ps F.rs).val:=match e with
 | .exit _=>none
 | _=>(endP E F ts).run st [] [] fun a _ _ _=>some a
theorem zipV_ends {agg:Bool} {ms:List Md} {x:SC} {v:Value} {a:List (Md×Cell)} (O:Opd D st tm w g x v) (h1:(zipV agg ms x).Ends st a st') :
  st'=st∧ ∃ c,a=ms.zip c∧c.length=ms.length∧c.length=v.cells.toList.length∧(∀ (j:Nat) y,c[j]?=some y→ ∃ cv,v.cells.toList[j]?=some cv∧okCell D st tm w g y cv)∧x_hv agg v:=by
 unfold zipV at h1
 split at h1
 ·rename_i cs
  split at h1
  ·rename_i hl
   obtain ⟨rfl,hs⟩:=Pr.er h1
   obtain ⟨h5,h6⟩:=x_fp (agg:=true) O (.inl ⟨rfl,rfl⟩)
   obtain ⟨us,rfl,_⟩:=O.agg
   exact ⟨hs,cs,rfl,hl.symm,h5,h6,_,rfl⟩
  ·exact (Pr.ef h1).elim
 ·rename_i c
  split at h1
  ·rename_i hl
   obtain ⟨rfl,hs⟩:=Pr.er h1
   obtain ⟨h5,h6⟩:=x_fp (agg:=false) O (.inr ⟨rfl,_,rfl,rfl⟩)
   exact ⟨hs,[c],rfl,hl.symm,h5,h6,O.one.1⟩
  ·exact (Pr.ef h1).elim
 ·exact (Pr.ef h1).elim
def x_0m (P:Program) (tm:Array Value) (w:World) (t:RS) (v:Value):Prop:=(match t with
 | .tmp t=>(pure (tm.getD t undef):Sem Value)
 | .cell a t=>do loadVar t (←asAddr (tm.getD a undef))).run P w= .ok v w
theorem x_us {t:TypeId} {v v':Value} (h:(Instr.loadAt t v).run P w= .ok v' w):((do loadVar t (←asAddr v)):Sem Value).run P w= .ok v' w:=by
 cases v with
 | pointer a=>
  cases a with
  | some a=>simpa [Instr.loadAt,Instr.sureAddr,asAddr] using h
  | none=>simp [Instr.loadAt,Instr.sureAddr] at h
 | _=>simp [Instr.loadAt,Instr.sureAddr] at h
theorem x_p2 {T:Tab} (TO:x_fu P T.ti) (I:Inv D st tm w g) {t:RS} {x:SC} {s1:St} (he:(resSrc T.toEnv t).Ends st x s1):s1=st∧ ∃ v,x_0m P tm w t v∧Opd D st tm w g x v:=by
 cases t with
 | tmp t=>
  have he:(Pr.rs t fun x=> .ret (x_t3 t x)).Ends st x s1:=he
  have he:=Pr.ends_rs he
  obtain ⟨rfl,hs⟩:=Pr.er he
  exact ⟨hs,_,rfl,x_t9 I t⟩
 | cell a t=>
  have he:(Pr.rs a fun x=>loadR T.toEnv t (x_t3 a x)).Ends st x s1:=he
  have he:=Pr.ends_rs he
  obtain ⟨hs,v,h1,h2⟩:=x_we TO I (x_t9 I a) he
  refine ⟨hs,v,?_,h2⟩
  show ((do loadVar t (←asAddr (tm.getD a undef))):Sem Value).run P w=_
  exact x_us h1
theorem x_zu:∀ e:ET, ∃ c:List Value,(x_d9 e).length=c.length∧ ∀ (j:Nat) x,(x_d9 e)[j]?=some x→ ∃ cv,c[j]?=some cv∧okCell D st tm w g x cv
 | .p x y=>by
  obtain ⟨c,hl,hc⟩:=x_zu x
  obtain ⟨d,hl',hd⟩:=x_zu y
  refine ⟨c++d,by simp [x_d9,hl,hl'],fun j z hz=>?_⟩
  simp only [x_d9,List.getElem?_append] at hz ⊢
  rw [←hl]
  split at hz
  ·rename_i a;rw [if_pos a];exact hc j z hz
  ·rename_i a;rw [if_neg a];exact hd _ z hz
 | .u=>⟨[],rfl,fun j x hx=>by simp [x_d9] at hx⟩
 | .sl x=>⟨_,x_gg (x:= .nil x) (v:= .slice none 0 0) ⟨trivial,by simp [stC],rfl⟩⟩
 | .i k=>⟨_,x_gg (x:=x_id ⟨.i k,(0:Int)⟩) (v:= .int k 0) ⟨trivial,by simp [stC,x_id],rfl,rfl⟩⟩
 | .b=>⟨_,x_gg (x:=x_id ⟨.b,false⟩) (v:= .bool false) ⟨trivial,by simp [stC,x_id],rfl,rfl⟩⟩
 | .s=>⟨_,x_gg (x:=x_id ⟨.s,ByteArray.empty⟩) (v:= .string ByteArray.empty) ⟨trivial,by simp [stC,x_id],rfl,rfl⟩⟩
 | .er=>⟨_,x_gg (x:=x_id ⟨.er,false⟩) (v:= .nilIface) ⟨trivial,by simp [stC,x_id],rfl,_,rfl,by simp [isErr]⟩⟩
theorem drop_ends {e:ET} {ms:List Md} {c:List Cell} {us:List Value} {a:List (Md×Cell)} {s1:St} (he:(dropP e ms (ms.zip c)).Ends st a s1) (hl:c.length=ms.length) (hu:us.length=ms.length)
  (hc:∀ (j:Nat) y,c[j]?=some y→ ∃ cv,us[j]?=some cv∧okCell D st tm w g y cv) :
  s1=st∧a.map (·.1)=ms.map fR∧(∀ (j:Nat) m u,ms[j]?=some m→us[j]?=some u→noR m=false→x_d7 u)∧ ∃ zs:List Value,zs.length=ms.length∧(∀ (j:Nat) m,ms[j]?=some m→noR m=true→zs[j]?=us[j]?)∧ ∀ (j:Nat) x,a[j]?=some x→ ∃ cv,zs[j]?=some cv∧okCell D st tm w g x.2 cv:=by
 unfold dropP at he
 split at he
 ·rename_i ha
  obtain ⟨rfl,hs⟩:=Pr.er he
  refine ⟨hs,?_,fun j m u hm _ hn=>?_,us,hu,fun _ _ _ _=>rfl,fun j x hx=>?_⟩
  ·rw [List.map_fst_zip (by omega)]
   conv=>lhs;rw [←List.map_id ms]
   refine List.map_congr_left fun m hm=>?_
   simp [fR,List.all_eq_true.1 ha m hm]
  ·rw [List.all_eq_true.1 ha m (List.mem_of_getElem? hm)] at hn;cases hn
  ·rw [List.getElem?_zip_eq_some] at hx
   exact hc j x.2 hx.2
 ·split at he
  ·rename_i hn
   simp only [Bool.and_eq_true,decide_eq_true_eq] at hn
   obtain ⟨hn,hv⟩:=hn
   obtain ⟨rfl,hs⟩:=Pr.er he
   obtain ⟨zs,k1,k2⟩:=x_zu (D:=D) (st:=st) (tm:=tm) (w:=w) (g:=g) e
   have hz:(ms.zip c).length=ms.length:=by simp [hl]
   have hnl:(x_d9 e).length=ms.length:=by omega
   refine ⟨hs,?_,fun j m u hm hu' hno=>?_,List.zipWith (fun (m:Md×Value) u=>if noR m.1 then u else m.2) (ms.zip zs) us,by simp;omega,fun j m hm hr=>?_,fun j x hx=>?_⟩
   ·apply List.ext_getElem?
    intro j
    simp only [dropR,List.getElem?_map,List.getElem?_zipWith]
    rcases Nat.lt_or_ge j ms.length with h | h
    ·rw [ge_ (by omega),ge_ (by omega),ge_ h]
     simp only [Option.map_some,List.getElem_zip,fR]
     split<;>rfl
    ·rw [List.getElem?_eq_none (by omega),List.getElem?_eq_none h];simp
   ·have h:=(List.getElem?_eq_some_iff.1 hm).1
    have hx:(ms.zip c)[j]?=some (m,c[j]):=by rw [List.getElem?_zip_eq_some];exact ⟨hm,ge_ (by omega)⟩
    have h1:=List.all_eq_true.1 hv _ (List.mem_of_getElem? hx)
    simp only [hno,Bool.false_or] at h1
    obtain ⟨cv,h2,h3⟩:=hc j _ (ge_ (show j<c.length by omega))
    rw [hu'] at h2
    obtain rfl:=Option.some.inj h2
    obtain ⟨hnx,_,hr⟩:=h3
    revert h1 hnx hr
    generalize c[j]=y
    intro h1 hnx hr
    match y,h1,hnx,hr with
    | .val .f e v,_,_,hr=>exact x_eb hr
    | .val .r e v,_,_,hr=>exact x_eb hr
    | .val (.x _) e v,_,_,hr=>obtain ⟨x,rfl,hr⟩:=hr;exact x_eb hr
   ·have h:=(List.getElem?_eq_some_iff.1 hm).1
    have hm':ms[j]=m:=(List.getElem?_eq_some_iff.1 hm).2
    simp only [List.getElem?_zipWith]
    rw [ge_ (show j<(ms.zip zs).length by simp;omega),ge_ (show j<us.length by omega)]
    simp [hm',hr]
   ·have h:j<ms.length:=by
     have:=(List.getElem?_eq_some_iff.1 hx).1
     simp only [dropR,List.length_zipWith] at this
     omega
    simp only [dropR,List.getElem?_zipWith] at hx ⊢
    rw [ge_ (show j<(x_d9 e).length by omega),ge_ (show j<(ms.zip c).length by omega)] at hx
    rw [ge_ (show j<(ms.zip zs).length by simp;omega),ge_ (show j<us.length by omega)]
    simp only [List.getElem_zip,sj_] at hx ⊢
    obtain ⟨cv,h1,h2⟩:=hc j _ (ge_ (by omega))
    obtain ⟨cv',h3,h4⟩:=k2 j _ (ge_ (by omega))
    refine ⟨_,rfl,?_⟩
    rw [←hx]
    by_cases hr:noR ms[j]=true
    ·rw [if_pos hr,if_pos hr]
     rw [ge_ (by omega)] at h1
     rw [Option.some.inj h1];exact h2
    ·rw [if_neg hr,if_neg hr]
     rw [ge_ (by omega)] at h3
     rw [Option.some.inj h3];exact h4
  ·exact (Pr.ef he).elim
theorem x_me {T:Tab} (TO:x_fu P T.ti) (I:Inv D st tm w g):∀ (rs:List (Bool×ET×List Md)) (ts:List RS) (r:List (Md×Cell)) (s1:St),(x_ut T.toEnv rs ts).Ends st r s1→
  s1=st∧rs.length=ts.length∧r.map (·.1)=(rs.flatMap (fun r=>r.2.2)).map fR∧ ∃ vs:List Value,vs.length=ts.length∧(∀ (j:Nat) t v,ts[j]?=some t→vs[j]?=some v→x_0m P tm w t v)∧
   (∀ (j:Nat) q v,rs[j]?=some q→vs[j]?=some v→x_hv q.1 v∧v.cells.size=q.2.2.length)∧
   (∀ (j:Nat) m u,(rs.flatMap (fun r=>r.2.2))[j]?=some m→(vs.flatMap fun v=>v.cells.toList)[j]?=some u→noR m=false→x_d7 u)∧
   ∃ us:List Value,r.length=us.length∧us.length=(vs.flatMap fun v=>v.cells.toList).length∧
    (∀ (j:Nat) m,(rs.flatMap (fun r=>r.2.2))[j]?=some m→noR m=true→us[j]?=(vs.flatMap fun v=>v.cells.toList)[j]?)∧
    ∀ (j:Nat) x,r[j]?=some x→ ∃ cv,us[j]?=some cv∧okCell D st tm w g x.2 cv
 | [],[],r,s1,he=>by obtain ⟨rfl,hs⟩:=Pr.er he;exact ⟨hs,rfl,rfl,[],rfl,by simp,by simp,by simp,[],rfl,rfl,by simp,by simp⟩
 | [],_::_,r,s1,he=>(Pr.ef he).elim
 | _::_,[],r,s1,he=>(Pr.ef he).elim
 | q::rs,t::ts,r,s1,he=>by
  obtain ⟨x,s0,h0,he⟩:=Pr.eb he
  obtain ⟨hs0,v,hv,O⟩:=x_p2 TO I h0
  rw [hs0] at he
  obtain ⟨a0,s,h1,h2⟩:=Pr.eb he
  obtain ⟨hs,c,rfl,hl,hlv,hc,hf⟩:=zipV_ends O h1
  rw [hs] at h2
  obtain ⟨a,s',hd,h2⟩:=Pr.eb h2
  obtain ⟨hs',hm,hpl,zs,z1,z2,z3⟩:=drop_ends hd hl (by omega) hc
  rw [hs'] at h2
  obtain ⟨b,s'',h3,h4⟩:=Pr.eb h2
  obtain ⟨rfl,hs''⟩:=Pr.er h4
  obtain ⟨k1,k2,k3,vs,k0,kr,k5,kp,us,k6,k7,k8,k9⟩:=x_me TO I rs ts b s'' h3
  have hal:a.length=q.2.2.length:=by have:=congrArg List.length hm;simpa using this
  refine ⟨hs''.trans k1,by simp [k2],?_,v::vs,by simp [k0],fun j t' v' ht hv'=>?_,fun j q' v' hq hv'=>?_,fun j m u hm hu' hno=>?_,zs++us,by simp;omega,by simp only [List.flatMap_cons,List.length_append];omega,fun j m hm hr=>?_,fun j x hx=>?_⟩
  ·rw [List.map_append,k3,List.flatMap_cons,List.map_append,hm]
  ·cases j with
   | zero=>
    simp only [List.getElem?_cons_zero,sj_] at ht hv'
    subst ht;subst hv'
    exact hv
   | succ j=>exact kr j t' v' (by simpa using ht) (by simpa using hv')
  ·cases j with
   | zero=>
    simp only [List.getElem?_cons_zero,sj_] at hq hv'
    subst hq;subst hv'
    exact ⟨hf,(Array.length_toList (xs:=v.cells)).symm.trans (hlv.symm.trans hl)⟩
   | succ j=>exact k5 j q' v' (by simpa using hq) (by simpa using hv')
  ·simp only [List.flatMap_cons,List.getElem?_append] at hm hu'
   rw [show v.cells.toList.length=q.2.2.length by omega] at hu'
   split at hm
   ·rename_i h;rw [if_pos h] at hu';exact hpl j m u hm hu' hno
   ·rename_i h;rw [if_neg h] at hu';exact kp _ m u hm hu' hno
  ·simp only [List.flatMap_cons,List.getElem?_append] at hm ⊢
   rw [z1]
   rw [show v.cells.toList.length=q.2.2.length by omega]
   split at hm
   ·rename_i h;rw [if_pos h,if_pos h];exact z2 j m hm hr
   ·rename_i h;rw [if_neg h,if_neg h];exact k8 _ m hm hr
  ·rw [List.getElem?_append] at hx ⊢
   rw [z1]
   rw [hal] at hx
   split at hx
   ·rename_i h;rw [if_pos h];exact z3 j x hx
   ·rename_i h;rw [if_neg h];exact k9 _ x hx
end Go.Kn
namespace Go.Kn
variable [Ctx]
variable {P:Program} {D:Key×Nat→Prop} {st st':St} {tm:Array Value} {w w1:World} {g:Gh} {ds:List Deferred} {E:Env}
def x_xa:List Value→Value
 | [v]=>v
 | vs=> .tuple vs.toArray
theorem x_vl {α β : Type} (f : α→Sem β) (w:World):∀ (l:List α) (vs:List β),vs.length=l.length→(∀ (j:Nat) a v,l[j]?=some a→vs[j]?=some v→(f a).run P w= .ok v w)→(l.mapM f).run P w= .ok vs w
 | [],[],_,_=>by simp
 | [],_::_,h,_=>by simp at h
 | _::_,[],h,_=>by simp at h
 | a::l,v::vs,hl,hf=>by
  have h0:=hf 0 a v rfl rfl
  have h1:=x_vl f w l vs (by simpa using hl) (fun j a v h1 h2=>hf (j+1) a v (by simpa using h1) (by simpa using h2))
  simp [List.mapM_cons,h0,h1]
theorem x_pw {fn:Func} {ts:List RS} (h:fn.results=(ts.map RS.var).toArray) (tm:Array Value) (w:World) (vs:List Value) (hl:vs.length=ts.length) (hv:∀ (j:Nat) t v,ts[j]?=some t→vs[j]?=some v→x_0m P tm w t v) :
  (results fn tm).run P w= .ok (x_xa vs) w:=by
 unfold results
 rw [h,Array.mapM_eq_mapM_toList]
 simp only [Sem.run_bind,Sem.run_map]
 rw [x_vl _ w (ts.map RS.var) vs (by simp [hl]) (fun j a v ha hv'=>by
  rw [List.getElem?_map,Option.map_eq_some_iff] at ha
  obtain ⟨t,ht,rfl⟩:=ha
  have:=hv j t v ht hv'
  cases t<;>exact this)]
 rcases vs with _ | ⟨t,_ | ⟨u,vs⟩⟩<;>simp [x_xa]
end Go.Kn
namespace Go.Kn
variable [Ctx]
open Classical
variable {P:Program} {D:Key×Nat→Prop} {st st':St} {tm:Array Value} {w w1:World} {g:Gh} {ds:List Deferred} {E:Env}
def plabs:Nat→List Par→List Pl
 | _,[]=>[]
 | k, .val _ _ _::ps=>plabs (k+1) ps
 | k, .ptr _ ms _::ps=>(List.range ms.length).map (fun j=>⟨true,k,j⟩)++plabs (k+1) ps
 | k, .via _::ps=>plabs (k+1) ps
 | k, .nl _::ps=>plabs (k+1) ps
def isPtr (ps:List Par) (k:Nat):Prop:=(∃ e ms o,ps[k]?=some (.ptr e ms o))∨ ∃ j,ps[k]?=some (.via j)
noncomputable def finG (g1:Gh) (X:Nat→Option Pl) (L:List Pl) (ps:List Par):Gh:=
 {γ:=fun b=>match g1.γ b with
   | .fr=> .fr
   | .lent=> .lent
   | .out=> .out
   | .row h=>if hx:∃ j,X j=some h then .row (L.getD hx.choose p0) else .out
   | .bx n=>if isPtr ps n then .bx n else .out
  bb:=g1.bb }
theorem fin_stp {g1:Gh} {X:Nat→Option Pl} {L:List Pl} {ps:List Par}:Stp w g1 w (finG g1 X L ps):=
 ⟨fun b h=>⟨by simp [finG,h],rfl⟩,fun b h=>⟨by simp [finG,h],rfl⟩,fun b _ h=>⟨by simp [finG,h],rfl⟩,Nat.le_refl _,rfl,rfl,rfl⟩
theorem x_yk {g1:Gh} {X:Nat→Option Pl} {L:List Pl} {ps:List Par} {s1:St} (hinj:∀ j j' h,X j=some h→X j'=some h→j=j') {j:Nat} {m:Md} {a:LV} {cv:Value} {p:Pl} (hm:noR m=true) (hp:L[j]?=some p)
  (h:got s1 w g1 X j m a cv):hand w (finG g1 X L ps) p m a cv:=by
 have hfr:∀ b,g1.γ b= .fr→(finG g1 X L ps).γ b= .fr:=fun b hb=>by simp [finG,hb]
 cases m with
 | f=>exact lrep.mono h (fun b hb=>⟨hfr b hb,rfl⟩) fun b hb=>⟨hfr b hb,rfl⟩
 | r=>simp [noR] at hm
 | x t=>
  obtain ⟨x,v,rfl,h⟩:=h
  refine ⟨x,v,rfl,?_⟩
  rcases h with ⟨rfl,rfl⟩ | ⟨q,hq,hr⟩
  ·exact x_br.nil rfl rfl
  ·refine x_br.mono hr (fun b hb=>?_) (fun _ _=>rfl) fun a cs _ hr=>rep.mono hfr (fun _ _=>rfl) _ _ _ hr
   have hx:∃ j,X j=some q:=⟨j,hq⟩
   have hj:hx.choose=j:=hinj _ _ _ hx.choose_spec hq
   have hb:g1.γ b= .row q:=hb
   show (finG g1 X L ps).γ b= .row p
   simp only [finG,hb,dif_pos hx,hj,gd_,hp,Option.getD_some]
theorem x_xx (v:Value):x_xv v=v.cells.toList:=by cases v<;>rfl
theorem res_form {rs:List (Bool×ET×List Md)} {vs:List Value} (hl:rs.length=vs.length)
  (h:∀ (j:Nat) q v,rs[j]?=some q→vs[j]?=some v→x_hv q.1 v∧v.cells.size=q.2.2.length) :
  form rs (x_xa vs)∧vcs (x_xa vs)=vs.flatMap fun v=>v.cells.toList:=by
 have tup:∀ us:List Value,vcs (.tuple us.toArray)=us.flatMap fun v=>v.cells.toList:=fun us=>by
  show us.flatMap x_xv=_
  exact x_kw fun v _=>x_xx v
 rcases vs with _ | ⟨t,_ | ⟨u,vs⟩⟩
 ·obtain rfl:rs=[]:=List.length_eq_zero_iff.1 hl
  exact ⟨⟨#[],rfl,rfl,fun i h=>by simp at h⟩,rfl⟩
 ·obtain ⟨q,rfl⟩:=List.length_eq_one_iff.1 hl
  obtain ⟨h1,h2⟩:=h 0 q t rfl rfl
  refine ⟨⟨h1,h2⟩,?_⟩
  obtain ⟨_,h4,_⟩:=x_tx (cs:=List.replicate q.2.2.length .dead) h1 h2 (by simp)
  simp only [x_xa,List.flatMap_cons,List.flatMap_nil,List.append_nil]
  exact h4
 ·refine ⟨?_,?_⟩
  ·rcases rs with _ | ⟨a,_ | ⟨b,rs⟩⟩
   ·simp at hl
   ·simp at hl
   ·refine ⟨_,rfl,by simp at hl ⊢;omega,fun i hi hi'=>?_⟩
    have hti:i<(t::u::vs).length:=by omega
    have:=h i _ _ (ge_ hi) (ge_ hti)
    have e2:((t::u::vs).toArray)[i]'(by simpa using hti)=(t::u::vs)[i]:=rfl
    exact e2▸this
  ·show vcs (.tuple (t::u::vs).toArray)=_
   rw [tup]
end Go.Kn
namespace Go.Kn
variable [Ctx]
open Classical
variable {P:Program} {D:Key×Nat→Prop} {st st':St} {tm:Array Value} {w w1:World} {g:Gh} {ds:List Deferred} {E:Env}
def x_mc (w:World) (g:Gh) (st:St):Nat→List Par→List (Md×Cell)→List Value→Prop
 | _,[],r,cvs=>r=[]∧cvs=[]
 | k, .val _ _ _::ps,r,cvs=>x_mc w g st (k+1) ps r cvs
 | k, .ptr _ ms _::ps,r,cvs=> ∃ c r' vals ty cvs',r=ms.zip c++r'∧c.length=ms.length∧g.γ (g.bb k)= .bx k∧w.heap[g.bb k]?=some (.cells vals ty (0,0))∧vals.size=ms.length∧
   cvs=vals.toList++cvs'∧ms.all noR=true∧okBx st k 0=true∧x_mc w g st (k+1) ps r' cvs'
 | k, .nl _::ps,r,cvs=>x_mc w g st (k+1) ps r cvs
 | k, .via j::ps,r,cvs=> ∃ ty,g.γ (g.bb k)= .bx k∧w.heap[g.bb k]?=some (.cells #[.pointer (some ⟨g.bb j,0,none⟩)] ty (0,0))∧okBx st k 0=true∧okBx st j 0=true∧x_mc w g st (k+1) ps r cvs
theorem x_gw (I:Inv D st tm w g):∀ (ps:List Par) (k:Nat) (r:List (Md×Cell)) (s1:St),(x_i1 k ps).Ends st r s1→
  s1=st∧ ∃ cvs:List Value,x_mc w g st k ps r cvs∧r.length=cvs.length∧ ∀ (j:Nat) x,r[j]?=some x→ ∃ cv,cvs[j]?=some cv∧okCell D st tm w g x.2 cv
 | [],k,r,s1,he=>by obtain ⟨rfl,hs⟩:=Pr.er he;exact ⟨hs,[],⟨rfl,rfl⟩,rfl,fun j x h=>by simp at h⟩
 | .val _ _ _::ps,k,r,s1,he=>x_gw I ps (k+1) r s1 he
 | .nl _::ps,k,r,s1,he=>x_gw I ps (k+1) r s1 he
 | .via j::ps,k,r,s1,he=>by
  simp only [x_i1] at he
  obtain ⟨⟨t1,cs1,hb1,hl1⟩,he⟩:=Pr.ends_ln he
  obtain ⟨⟨x1,x2⟩,hx,he⟩:=Pr.ends_rb he
  obtain ⟨cs',h8,h9⟩:=x_fx I hx
  obtain ⟨hb,ha⟩:=Pr.ek he
  simp only at ha h8 h9 hb
  clear he
  obtain rfl:x1=0:=beq_iff_eq.1 hb
  split at ha
  ·split at ha
   ·rename_i m hm
    subst hm
    obtain ⟨y,hy,hc⟩:=Pr.ends_rb ha
    obtain ⟨hb,hd⟩:=Pr.ek hc
    obtain ⟨hs,cvs,h1,h2,h3⟩:=x_gw I ps (k+1) r s1 hd
    obtain ⟨cs2,h10,h11⟩:=x_fx I hy
    rw [beq_iff_eq.1 hb] at h10
    have hok:=x_ek.2 ⟨cs2,h10⟩
    have hat:aAt st ⟨true,k,0⟩=some (.ptr m 0 0):=by simp [aAt,hx]
    obtain ⟨cv,h12,h13⟩:=I.cel _ _ hat
    have hcv:cv= .pointer (some ⟨g.bb m,0,none⟩):=h13 hok
    obtain ⟨_,hγ,vals,ty,hh,hsz⟩:=I.box k t1 cs1 hb1
    have:vals= #[.pointer (some ⟨g.bb m,0,none⟩)]:=by
     simp only [cAt,if_true,bcell,hh] at h12
     rw [hcv] at h12
     have h1:vals.size=1:=by omega
     apply Array.ext (by simpa using h1)
     intro i hi hi'
     obtain rfl:i=0:=by omega
     rw [Array.getElem?_eq_getElem hi] at h12
     exact Option.some.inj h12
    exact ⟨hs,cvs,⟨ty,hγ,by rw [←this];exact hh,x_ek.2 ⟨_,h8⟩,hok,h1⟩,h2,h3⟩
   ·exact (Pr.ef ha).elim
  ·exact (Pr.ef ha).elim
 | .ptr _ ms _::ps,k,r,s1,he=>by
  simp only [x_i1] at he
  split at he
  ·exact (Pr.ef he).elim
  ·rename_i hm
   simp only [Bool.or_eq_true,not_or,decide_eq_true_eq,Bool.not_eq_true',Bool.not_eq_false] at hm
   obtain ⟨⟨t1,cs1,hb1,hl1⟩,he⟩:=Pr.ends_ln he
   obtain ⟨c,s,h1,h2⟩:=Pr.eb he
   obtain ⟨hs,hl,hb,hc⟩:=x_f1 I _ _ _ _ h1
   rw [hs] at h2
   obtain ⟨b,s',h3,h4⟩:=Pr.eb h2
   obtain ⟨rfl,hs'⟩:=Pr.er h4
   obtain ⟨hs2,cvs,h5,h6,h7⟩:=x_gw I ps (k+1) b s' h3
   obtain ⟨_,hγ,vals,ty,hh,hsz⟩:=I.box k t1 cs1 hb1
   have hcc:∀ (j:Nat) y,c[j]?=some y→ ∃ cv,vals.toList[j]?=some cv∧okCell D st tm w g y cv:=by
    intro j y hy
    obtain ⟨c0,h8,h9⟩:=hc j y hy
    obtain ⟨k1,k2,cv,k3,k4⟩:=x_jd I h8 h9 p0
    refine ⟨cv,?_,k1,k2,k4⟩
    simpa [cAt,bcell,hh] using k3
   obtain ⟨h8,h9⟩:=x_qa (ms:=ms) hl (by simp;omega) hcc h6 h7
   exact ⟨hs'.trans hs2,_,⟨c,b,vals,ty,cvs,rfl,hl,hγ,hh,by omega,rfl,hm.2,hb (by omega),h5⟩,h8,h9⟩
end Go.Kn
namespace Go.Kn
variable [Ctx]
open Classical
variable {P:Program} {D:Key×Nat→Prop} {st st':St} {tm:Array Value} {w w1:World} {g:Gh} {ds:List Deferred} {E:Env}
theorem x_oa {g0 g1 G2:Gh} (hbb:∀ k,okBx st k 0=true→g1.bb k=g0.bb k):∀ (ps:List Par) (k:Nat) (r:List (Md×Cell)) (cvs:List Value) (ls:List LV),x_mc w g1 st k ps r cvs→ls.length=r.length→
  (∀ (j:Nat) x cv a p,r[j]?=some x→cvs[j]?=some cv→ls[j]?=some a→(plabs k ps)[j]?=some p→noR x.1=true→hand w G2 p x.1 a cv)→
  (∀ j,isPtr ps j→g1.γ (g1.bb (k+j))= .bx (k+j)→G2.γ (g1.bb (k+j))= .bx (k+j))→x_le g0 w G2 k ps ls
 | [],k,r,cvs,ls,hf,hl,hh,hG=>trivial
 | .val agg e ms::ps,k,r,cvs,ls,hf,hl,hh,hG=>x_oa hbb ps (k+1) r cvs ls hf hl hh fun j hj h=>by
   rw [show k+1+j=k+(j+1) by omega] at h ⊢
   exact hG (j+1) (by simpa [isPtr] using hj) h
 | .ptr e ms _::ps,k,_,_,ls,⟨c,r',vals,ty,cvs',rfl,hc,hγ,hh0,hv,rfl,hno,hok,hrest⟩,hl,hh,hG=>by
  have hz:(ms.zip c).length=ms.length:=by simp [hc]
  obtain ⟨z1,z2⟩:=x_zn (a:=r') hc
  have hll:ls.length=ms.length+r'.length:=by rw [hl,List.length_append,hz]
  have hlab:((List.range ms.length).map fun j=>(⟨true,k,j⟩ : Pl)).length=ms.length:=by simp
  have hvl:vals.toList.length=ms.length:=by simpa using hv
  have hb:=hbb k hok
  refine ⟨⟨vals,ty,?_,by rw [←hb];exact hh0,⟨by simp;omega,hvl,fun j m a cv hm ha hcv=>?_⟩⟩,?_⟩
  ·rw [←hb]
   exact hG 0 (.inl ⟨e,ms,_,rfl⟩) hγ
  ·have hj:=(List.getElem?_eq_some_iff.1 hm).1
   obtain ⟨y,hy⟩:=z1 j m hm
   rw [List.getElem?_take,if_pos hj] at ha
   exact hh j (m,y) cv a ⟨true,k,j⟩ hy (by rw [List.getElem?_append_left (by omega)];exact hcv) ha (by
    simp only [plabs]
    rw [List.getElem?_append_left (by rw [hlab];exact hj)]
    simp [hj]) (List.all_eq_true.1 hno m (List.mem_of_getElem? hm))
  ·refine x_oa hbb ps (k+1) r' cvs' _ hrest (by simp;omega) (fun j x cv a p hx hcv ha hp hm=>?_) fun j hj h=>by
    rw [show k+1+j=k+(j+1) by omega] at h ⊢
    exact hG (j+1) (by simpa [isPtr] using hj) h
   rw [List.getElem?_drop] at ha
   exact hh (ms.length+j) x cv a p (z2 j x hx) (by rw [List.getElem?_append_right (by rw [hvl];omega),hvl,Nat.add_sub_cancel_left];exact hcv) ha (by
    simp only [plabs]
    rw [List.getElem?_append_right (by rw [hlab];omega),hlab,Nat.add_sub_cancel_left]
    exact hp) hm
 | .nl y::ps,k,r,cvs,ls,hf,hl,hh,hG=>x_oa hbb ps (k+1) r cvs ls hf hl hh fun j hj h=>by
   rw [show k+1+j=k+(j+1) by omega] at h ⊢
   exact hG (j+1) (by simpa [isPtr] using hj) h
 | .via i::ps,k,r,cvs,ls,⟨ty,hγ,hh0,hok,hok',hrest⟩,hl,hh,hG=>by
  have hb:=hbb k hok
  have hb':=hbb i hok'
  refine ⟨⟨ty,?_,by rw [←hb, ←hb'];exact hh0⟩,x_oa hbb ps (k+1) r cvs ls hrest hl hh fun j hj h=>by
   rw [show k+1+j=k+(j+1) by omega] at h ⊢
   exact hG (j+1) (by simpa [isPtr] using hj) h⟩
  rw [←hb]
  exact hG 0 (.inr ⟨i,rfl⟩) hγ
end Go.Kn
namespace Go.Kn
variable [Ctx]
open Classical
variable {P:Program} {D:Key×Nat→Prop} {st st':St} {tm:Array Value} {w w1:World} {g:Gh} {ds:List Deferred} {E:Env} {T:Tab}
theorem x_kv {s s' st2:St} {g1:Gh} (Z1:Z s g s' g1):∀ (ps:List Par) (k:Nat) (r:List (Md×Cell)) (cvs:List Value),x_mc w g st2 k ps r cvs→x_mc w g1 st2 k ps r cvs
 | [],k,r,cvs,h=>h
 | .val _ _ _::ps,k,r,cvs,h=>x_kv Z1 ps (k+1) r cvs h
 | .ptr _ ms _::ps,k,r,cvs,⟨c,r',vals,ty,cvs',h1,h2,h3,h4,h5,h6,h7,h8,h9⟩=>
  ⟨c,r',vals,ty,cvs',h1,h2,by rw [Z1.bb];exact Z1.bx _ _ h3,by rw [Z1.bb];exact h4,h5,h6,h7,h8,x_kv Z1 ps (k+1) r' cvs' h9⟩
 | .nl y::ps,k,r,cvs,h=>x_kv Z1 ps (k+1) r cvs h
 | .via j::ps,k,r,cvs,⟨ty,h1,h2,h3,h4,h5⟩=>⟨ty,by rw [Z1.bb];exact Z1.bx _ _ h1,by rw [Z1.bb];exact h2,h3,h4,x_kv Z1 ps (k+1) r cvs h5⟩
theorem end_ok {F:FSp} {ts:List RS} {st0:St} {w0:World} {g0:Gh} {r:(resE F.ps F.rs).val} (TO:x_fu P T.ti) (I:Inv D0 st tm w g) (hF:Far st0 w0 g0 st w g) (he:(endP T.toEnv F ts).Ends st r st') :
  ∃ vs:List Value,vs.length=ts.length∧(∀ (j:Nat) t v,ts[j]?=some t→vs[j]?=some v→x_0m P tm w t v)∧fEnd F w0 g0 r (.returned (x_xa vs)) w:=by
 obtain ⟨a,s1,h1,h2⟩:=Pr.eb he
 obtain ⟨rfl,k2,k3,vs,k0,kr,k5,kp,us,k6,k7,k8,k9⟩:=x_me TO I _ _ _ _ h1
 refine ⟨vs,k0,kr,?_⟩
 obtain ⟨b,s2,h3,h4⟩:=Pr.eb h2
 obtain ⟨rfl,cvs,m1,m2,m3⟩:=x_gw I _ _ _ _ h3
 obtain ⟨ls,s3,h5,h6⟩:=Pr.eb h4
 obtain ⟨hofl,_⟩:=x_fq h6
 have hls:=x_v8 hofl
 obtain ⟨f1,f2⟩:=res_form (k2.trans k0.symm) k5
 have hal:(a++b).length=(us++cvs).length:=by simp only [List.length_append,k6,m2]
 obtain ⟨g1,X,G1,Z1,hl1,hgot,hX,hinj⟩:=x_po (cvs:=us++cvs) I h5 hal (fun j x hx=>by
  rw [List.getElem?_append] at hx
  rw [List.getElem?_append, ←k6]
  split at hx
  ·rename_i h;rw [if_pos h];exact k9 j x hx
  ·rename_i h;rw [if_neg h];exact m3 _ x hx)
 have hra:a.length=resN F.rs:=by have:=congrArg List.length k3;simpa [resN] using this
 let L:List Pl:=(List.range (resN F.rs)).map (fun j=>(⟨false,0,j⟩ : Pl))++plabs 0 F.ps
 have hL1:((List.range (resN F.rs)).map (fun j=>(⟨false,0,j⟩ : Pl))).length=resN F.rs:=by simp
 have S2:=(hF.stp.trans G1.stp).trans (fin_stp (w:=w) (g1:=g1) (X:=X) (L:=L) (ps:=F.ps))
 refine ⟨finG g1 X L F.ps,S2,⟨fun b hb=>G1.inv.uni b fun e=>hb (by simp [finG,e]),G1.inv.lib.tag fun b hb=>by simp [finG,hb]⟩,f1,⟨by rw [hls,List.length_take,hl1,List.length_append,hra];show min (resN F.rs) (resN F.rs+b.length)=resN F.rs;omega,by rw [f2, ←k7, ←k6,hra];rfl,fun j m y cv hm hy hcv hno=>?_,fun j m cv hm hcv hno=>kp j m cv hm (by rw [←f2];exact hcv) hno⟩,?_⟩
 ·have hj:=(List.getElem?_eq_some_iff.1 hm).1
  have hj':j<resN F.rs:=hj
  rw [hls,List.getElem?_take,if_pos hj'] at hy
  rw [f2, ←k8 j m hm hno] at hcv
  have haj:(a.map (·.1))[j]?=some m:=by
   rw [k3,List.getElem?_map,hm,Option.map_some]
   simp [fR,hno]
  rw [List.getElem?_map,Option.map_eq_some_iff] at haj
  obtain ⟨x,hx,rfl⟩:=haj
  have hg:=hgot j x cv y (by rw [List.getElem?_append_left (by omega)];exact hx) (by rw [List.getElem?_append_left (by omega)];exact hcv) hy
  exact x_yk hinj hno (by
   show (_++_)[j]?=_
   rw [List.getElem?_append_left (by rw [hL1];exact hj')]
   simp [hj']) hg
 ·rw [hls]
  refine x_oa (fun k hk=>by rw [Z1.bb];exact (hF.bb k hk).2) F.ps 0 b cvs _ ?_ (by simp only [List.length_drop,hl1,List.length_append];omega) (fun j x cv y p hx hcv hy hp hm=>?_) fun j hj h=>?_
  ·exact x_kv Z1 F.ps 0 b cvs m1
  ·rw [List.getElem?_drop] at hy
   have hg:=hgot (resN F.rs+j) x cv y (by rw [List.getElem?_append_right (by omega),hra,Nat.add_sub_cancel_left];exact hx) (by rw [List.getElem?_append_right (by omega), ←k6,hra,Nat.add_sub_cancel_left];exact hcv) hy
   exact x_yk hinj hm (by
    show (_++_)[resN F.rs+j]?=_
    rw [List.getElem?_append_right (by rw [hL1];omega),hL1,Nat.add_sub_cancel_left]
    exact hp) hg
  ·rw [Nat.zero_add] at h ⊢
   show (finG g1 X L F.ps).γ (g1.bb j)=_
   simp only [finG,h]
   rw [if_pos hj]
theorem x_x7 {f:FuncId} {fn:Func} {c:Code} {F:FSp} {ts:List RS} {H:Hint} {K:Nat} (hf:P.funcs[f]?=some fn) (hb:fn.body=some c) (hn:(fn.name == "runtime.NumGoroutine")=false)
  (hres:fn.results=(ts.map RS.var).toArray) (hpk:pkOk F.pk F.ps.length=true) (TO:TOk P T) (hm:P.follows .mixedOrders=true) (hrun:∀ v,run T H K c (x_ub F.pk F.ps fn.ntmps (lv _ v)) (endK T.toEnv F ts)=F.fn v) (hmk:F.nv=false:=by rfl):FOk P f F:=by
 refine .plain ⟨fn,hf,by rw [hb];rfl,hn⟩ hmk fun w g vs ls v r hU ha hv hr=>?_
 have hls:=x_v8 hv
 have hrun':run T H K c (x_ub F.pk F.ps fn.ntmps ls) (endK T.toEnv F ts)=some r:=by rw [←hls,hrun,hr]
 refine calls_of_wp hf hb (run_ok TO hm c _ _ w g (endK T.toEnv F ts) _ (x_z2 hpk hU ha) hrun' fun e st' tm' w' g' I' Far hk=>?_)
 have fin:((endP T.toEnv F ts).run st' [] [] fun a _ _ _=>some a)=some r→ ∃ v,(results fn tm').run P w'= .ok v w'∧fEnd F w g r (.returned v) w':=fun h=>by
  obtain ⟨a,tr,ws,hev,hka⟩:=Pr.run_ev _ _ _ _ _ _ h
  obtain rfl:=Option.some.inj hka
  obtain ⟨vs,h1,h2,h3⟩:=end_ok TO.ty I' Far ⟨tr,ws,hev,rfl⟩
  exact ⟨_,x_pw hres tm' w' vs h1 h2,h3⟩
 cases e with
 | normal=>exact ⟨rfl,fin hk⟩
 | ret=>exact ⟨rfl,fin hk⟩
 | exit id=>simp [endK] at hk
def frzC:Cell→Pr LV
 | .val .f e v=> .ret ⟨e,v⟩
 | _=> .fail
noncomputable def nvP (E:Env) (F:FSp) (t:Nat):Pr (resE F.ps F.rs).val:=(resSrc E (.tmp t)).bind fun
 | .one (.ptr n s 0)=> .ln n (resE F.ps F.rs).cells ((x_ot n s 0 (resE F.ps F.rs).cells).bind fun cs=>(mapP frzC cs).bind fun ls=>x_kl (resE F.ps F.rs) ls)
 | _=> .fail
noncomputable def nvK (E:Env) (F:FSp) (t:Nat) (e:Ex) (st:St):Option (resE F.ps F.rs).val:=match e with
 | .exit _=>none
 | _=>(nvP E F t).run st [] [] fun a _ _ _=>some a
theorem x_vd:∀ (cs:List Cell) (ls:List LV) (s1:St),(mapP frzC cs).Ends st ls s1→s1=st∧ls.length=cs.length∧ ∀ (j:Nat) a,ls[j]?=some a→cs[j]?=some (.val .f a.1 a.2)
 | [],ls,s1,he=>by
  obtain ⟨rfl,hs⟩:=Pr.er he
  exact ⟨hs,rfl,fun j a h=>by simp at h⟩
 | c::cs,ls,s1,he=>by
  obtain ⟨a,s,h1,h2⟩:=Pr.eb he
  obtain ⟨r,s',h3,h4⟩:=Pr.eb h2
  obtain ⟨rfl,hs'⟩:=Pr.er h4
  unfold frzC at h1
  split at h1
  ·rename_i e v
   obtain ⟨rfl,hs⟩:=Pr.er h1
   rw [hs] at h3
   obtain ⟨k1,k2,k3⟩:=x_vd cs r s' h3
   refine ⟨hs'.trans k1,congrArg Nat.succ k2,fun j a h=>?_⟩
   cases j with
   | zero=>
    have h:(⟨e,v⟩ : LV)=a:=Option.some.inj h
    subst h
    rfl
   | succ j=>exact k3 j a h
  ·exact (Pr.ef h1).elim
theorem nv_ok {F:FSp} {t:Nat} {st0:St} {w0:World} {g0:Gh} {r:(resE F.ps F.rs).val} (TO:x_fu P T.ti) (I:Inv D0 st tm w g) (hF:Far st0 w0 g0 st w g) (hg0:∀ b,g0.γ b= .fr∨g0.γ b= .out) (h0:0<(resE F.ps F.rs).cells)
  (he:(nvP T.toEnv F t).Ends st r st'):∃ v,x_0m P tm w (.tmp t) v∧mEnd F w0 g0 r (.returned v) w:=by
 obtain ⟨x,s1,h1,h2⟩:=Pr.eb he
 obtain ⟨hs1,v,hv,O⟩:=x_p2 TO I h1
 rw [hs1] at h2
 refine ⟨v,hv,?_⟩
 split at h2
 ·rename_i n s
  obtain ⟨⟨t1,cs1,hb1,hl1⟩,h2⟩:=Pr.ends_ln h2
  obtain ⟨cs,s2,h3,h4⟩:=Pr.eb h2
  obtain ⟨hs2,hl,hb,hc⟩:=x_f1 I _ _ _ _ h3
  rw [hs2] at h4
  obtain ⟨ls,s3,h5,h6⟩:=Pr.eb h4
  obtain ⟨hs3,hll,hfz⟩:=x_vd _ _ _ h5
  obtain ⟨hofl,_⟩:=x_fq h6
  have hls:=x_v8 hofl
  have hvv:=O.one.2.2.2 (hb h0)
  obtain ⟨_,hbx,vals,ty,hh,hsz⟩:=I.box n t1 cs1 hb1
  have hge:w0.heap.size≤g.bb n:=by
   rcases Nat.lt_or_ge (g.bb n) w0.heap.size with hlt | hge
   ·exfalso
    rcases hg0 (g.bb n) with h | h
    ·have:=(hF.stp.fr _ h).1;rw [hbx] at this;cases this
    ·have:=(hF.stp.out _ hlt h).1;rw [hbx] at this;cases this
   ·exact hge
  refine ⟨g,g.bb n,vals,ty,hF.stp,⟨I.uni,I.lib⟩,hvv,hge,by rw [hbx];simp,hh,by rw [hls];omega,fun j a cv ha hcv=>?_⟩
  rw [hls] at ha
  have hcj:=hfz j a ha
  obtain ⟨c0,h8,h9⟩:=hc j _ hcj
  obtain ⟨k1,k2,cv',k3,k4⟩:=x_jd I h8 h9 p0
  have:cv'=cv:=by
   simp only [cAt,if_true,bcell,hh,Nat.zero_add] at k3
   rw [hcv] at k3
   exact (Option.some.inj k3).symm
  rw [this] at k4
  exact k4
 ·exact (Pr.ef h2).elim
theorem fok_nv {f:FuncId} {fn:Func} {c:Code} {x:ET} {rs:List (Bool×ET×List Md)} {pf:(argE [Par.val false (.sl x) [.f]]).val→Option (resE [Par.val false (.sl x) [.f]] rs).val} {t:Nat} {H:Hint} {K:Nat} (hf:P.funcs[f]?=some fn) (hb:fn.body=some c) (hn:(fn.name == "runtime.NumGoroutine")=false)
  (hres:fn.results= #[.tmp t]) (h0:0<(resE [Par.val false (.sl x) [.f]] rs).cells) (TO:TOk P T) (hm:P.follows .mixedOrders=true)
  (hrun:∀ v,run T H K c (x_ub [] [Par.val false (.sl x) [.f]] fn.ntmps (lv _ v)) (nvK T.toEnv { ps:=[.val false (.sl x) [.f]],rs:=rs,fn:=pf,nv:=true } t)=pf v) :
  FOk P f { ps:=[.val false (.sl x) [.f]],rs:=rs,fn:=pf,nv:=true } :=by
 refine ⟨⟨fn,hf,by rw [hb];rfl,hn⟩,fun _ w g vs ls v r hg0 hU hl hr hv hfn=>?_,fun h=>by cases h⟩
 have hls:=x_v8 hv
 have e1:ls=[⟨.sl x,v.1⟩]:=by rw [←hls];rfl
 subst e1
 obtain ⟨cv,rfl⟩ : ∃ cv,vs=[cv]:=List.length_eq_one_iff.1 hl.symm
 obtain ⟨hp,hrep⟩:=hr 0 _ cv rfl rfl
 have hcells:cv.cells.toList=[cv]:=by cases cv<;>simp [x_d7,Value.cells] at hp ⊢
 have ha:x_gu w g 0 [Par.val false (.sl x) [.f]] [⟨.sl x,v.1⟩] [cv]:=by
  refine ⟨[⟨.sl x,v.1⟩],[],cv,[],rfl,rfl,⟨rfl,by rw [hcells];rfl,fun j m a u hm ha hu=>?_⟩,hp,rfl,rfl⟩
  rw [hcells] at hu
  cases j with
  | zero=>
   obtain rfl:=Option.some.inj hm
   obtain rfl:=Option.some.inj ha
   obtain rfl:=Option.some.inj hu
   exact hrep
  | succ j=>simp at hm
 have hrun':=(hrun v).trans hfn
 refine calls_of_wp hf hb (run_ok TO hm c _ _ w g (nvK T.toEnv { ps:=[.val false (.sl x) [.f]],rs:=rs,fn:=pf,nv:=true } t) _ (x_z2 (pk:=[]) (ps:=[Par.val false (.sl x) [.f]]) (n:=fn.ntmps) rfl hU ha) hrun'
  fun e st' tm' w' g' I' Far hk=>?_)
 have fin:((nvP T.toEnv { ps:=[.val false (.sl x) [.f]],rs:=rs,fn:=pf,nv:=true } t).run st' [] [] fun a _ _ _=>some a)=some r→ ∃ v,(results fn tm').run P w'= .ok v w'∧mEnd { ps:=[.val false (.sl x) [.f]],rs:=rs,fn:=pf,nv:=true } w g r (.returned v) w':=fun h=>by
  obtain ⟨a,tr,ws,hev,hka⟩:=Pr.run_ev _ _ _ _ _ _ h
  obtain rfl:=Option.some.inj hka
  obtain ⟨u,h1,h2⟩:=nv_ok TO.ty I' Far hg0 h0 ⟨tr,ws,hev,rfl⟩
  refine ⟨_,x_pw (ts:=[.tmp t]) (by rw [hres];rfl) tm' w' [u] rfl (fun j y z hy hz=>?_),h2⟩
  cases j with
  | zero=>
   obtain rfl:=Option.some.inj hy
   obtain rfl:=Option.some.inj hz
   exact h1
  | succ j=>simp at hy
 cases e with
 | normal=>exact ⟨rfl,fin hk⟩
 | ret=>exact ⟨rfl,fin hk⟩
 | exit id=>simp [nvK] at hk
end Go.Kn
namespace Go.Kn
variable [Ctx]
variable {P:Program} {H:Type} {enc:TypeId×Value→H} {w:World} {base:Nat} {spare:Nat→Bool} {held:Bool}
def fieldL (P:Program) (q:TypeId→ET→Bool) (f:Field) (e:ET) (off:Nat):Bool:=f.offset == off && P.cellsOf f.type == e.cells && q f.type e
def layFs (P:Program) (q:TypeId→ET→Bool):List Field→ET→Nat→Bool
 | [f],e,off=>fieldL P q f e off
 | f::h::fs, .p x y,off=>fieldL P q f x off && layFs P q (h::fs) y (off+x.cells)
 | _,_,_=>false
def layTy (P:Program):Nat→TypeId→ET→Bool
 | 0,_,_=>false
 | d+1,t,e=>match P.underlying t with
  | some (.int k)=>decide (e= .i k)
  | some .bool=>decide (e= .b)
  | some .string=>decide (e= .s)
  | some (.struct fs)=>P.cellsOf t == e.cells && layFs P (layTy P d) fs.toList e 0
  | some (.slice el)=>match e with
   | .sl x=>P.cellsOf el == x.cells && x.cells != 0 && layTy P d el x
   | _=>false
  | _=>false
def wfE:(e:ET)→e.val→Prop
 | .i k,n=>k.min≤n∧n≤k.max
 | .s,v=>ByteArray.size v≤maxLen
 | .sl x,l=>List.length l≤maxLen∧ ∀ a∈l,wfE x a
 | .p x y,v=>wfE x v.1∧wfE y v.2
 | _,_=>True
theorem x_nx {α β : Type} {f : α→Option β}:∀ {l:List α} {r:List β},l.mapM f=some r→r.length=l.length∧ ∀ (j:Nat) a,l[j]?=some a→ ∃ b,r[j]?=some b∧f a=some b
 | [],r,h=>by simp at h;subst h;simp
 | a::l,r,h=>by
  simp only [List.mapM_cons,Option.pure_def,Option.bind_eq_bind,Option.bind_eq_some_iff,sj_] at h
  obtain ⟨b,h1,r',h2,rfl⟩:=h
  obtain ⟨h3,h4⟩:=x_nx h2
  refine ⟨by simp [h3],fun j c hc=>?_⟩
  cases j with
  | zero=>simp only [List.getElem?_cons_zero,sj_] at hc ⊢;subst hc;exact ⟨b,rfl,h1⟩
  | succ j=>simpa using h4 j c (by simpa using hc)
theorem x_wf {α : Type} {Q:Nat→α→Prop}:∀ (n:Nat),(∀ i,i<n→ ∃ a,Q i a)→ ∃ l:List α,l.length=n∧ ∀ i (h:i<l.length),Q i l[i]
 | 0,_=>⟨[],rfl,fun i h=>by simp at h⟩
 | n+1,h=>by
  obtain ⟨l,h1,h2⟩:=x_wf n fun i hi=>h i (by omega)
  obtain ⟨a,ha⟩:=h n (by omega)
  refine ⟨l++[a],by simp [h1],fun i hi=>?_⟩
  rw [List.getElem_append]
  split
  ·rename_i hlt;exact h2 i hlt
  ·rename_i hge
   simp only [List.length_append,List.length_singleton] at hi
   have:i=n:=by omega
   subst this
   simpa using ha
theorem x_qs {t el:TypeId} {fuel:Nat} {cs:List Value} {r:DataW H×List MemPlace} (hu:P.underlying t=some (.slice el)) (h:DataW.trod enc P w base spare held (fuel+1) t cs=some r) :
  cs=[.slice none 0 0]∨ ∃ a len cap,cs=[.slice (some a) len cap]∧len≤cap∧cap≤maxLen∧
   (spare a.block=true→ ∀ i,i<cap→ ∃ l y,w.cells? base (a.add (i*P.cellsOf el)) (P.cellsOf el)=some l∧DataW.trod enc P w base spare held fuel el l=some y):=by
 unfold DataW.trod at h
 rw [hu] at h
 split at h<;>rename_i he<;>(try (simp at he;done))<;>(try (simp at h;done))
 ·exact .inl rfl
 ·rename_i e a len cap
  simp only [sj_,TypeDesc.slice.injEq] at he
  subst he
  split at h
  ·rename_i hcnd
   simp only [Option.bind_eq_some_iff,Option.map_eq_some_iff] at h
   obtain ⟨elems,h1,rest,h2,_⟩:=h
   refine .inr ⟨a,len,cap,rfl,hcnd.2.1,hcnd.2.2,fun hs i hi=>?_⟩
   rw [if_pos hs] at h2
   rcases Nat.lt_or_ge i len with hlt | hge
   ·obtain ⟨y,_,h4⟩:=(x_nx h1).2 i i (by rw [List.getElem?_range hlt])
    simp only [Option.bind_eq_some_iff] at h4
    obtain ⟨l,h5,h6⟩:=h4
    exact ⟨l,y,h5,h6⟩
   ·obtain ⟨y,_,h4⟩:=(x_nx h2).2 (i-len) (i-len) (by rw [List.getElem?_range (by omega)])
    simp only [Option.bind_eq_some_iff] at h4
    obtain ⟨l,h5,h6⟩:=h4
    rw [show len+(i-len)=i by omega] at h5
    exact ⟨l,y,h5,h6⟩
  ·simp at h
theorem x_s8 {a:Addr} {n:Nat} {l:List Value} (h:w.cells? base a n=some l):(List.range n).mapM (fun i=>w.cell? (a.add i))=some l:=by
 unfold World.cells? at h
 split at h
 ·exact h
 ·simp at h
theorem x_ul:∀ (fuel d:Nat) (t:TypeId) (e:ET) (cs:List Value) (r:DataW H×List MemPlace),layTy P d t e=true→DataW.trod enc P w base spare held fuel t cs=some r→
  (∀ b,spare b=true)→ ∃ v:e.val,rep w (fun b=>b<w.heap.size) e v cs∧wfE e v
 | 0,d,t,e,cs,r,hl,h,hs=>by simp [DataW.trod] at h
 | fuel+1,0,t,e,cs,r,hl,h,hs=>by simp [layTy] at hl
 | fuel+1,d+1,t,e,cs,r,hl,h,hs=>by
  unfold layTy at hl
  split at hl
  ·rename_i k hu
   obtain rfl:=of_decide_eq_true hl
   obtain ⟨n,rfl,_,hw⟩:=DataW.trod_int hu h
   simp only [Lit.wf,Bool.and_eq_true,decide_eq_true_eq] at hw
   exact ⟨n,rfl,hw⟩
  ·rename_i hu
   obtain rfl:=of_decide_eq_true hl
   obtain ⟨b,rfl,_⟩:=DataW.trod_bool hu h
   exact ⟨b,rfl,trivial⟩
  ·rename_i hu
   obtain rfl:=of_decide_eq_true hl
   obtain ⟨s,rfl,_,hw⟩:=DataW.trod_string hu h
   exact ⟨s,rfl,hw⟩
  ·rename_i fs hu
   simp only [Bool.and_eq_true,beq_iff_eq] at hl
   obtain ⟨xs,n,hn,rfl,hlen,hxl,hf⟩:=DataW.trod_struct hu h
   obtain rfl:fuel=n:=by omega
   have key:∀ (l:List Field) (j off:Nat) (e:ET),layFs P (layTy P d) l e off=true→(∀ i f,l[i]?=some f→fs[j+i]?=some f)→off+e.cells≤cs.length→
     ∃ v:e.val,rep w (fun b=>b<w.heap.size) e v ((cs.drop off).take e.cells)∧wfE e v:=by
    intro l
    have one:∀ (f:Field) (j off:Nat) (e:ET),fieldL P (layTy P d) f e off=true→fs[j]?=some f→ ∃ v:e.val,rep w (fun b=>b<w.heap.size) e v ((cs.drop off).take e.cells)∧wfE e v:=by
     intro f j off e hfl hj
     simp only [fieldL,Bool.and_eq_true,beq_iff_eq] at hfl
     obtain ⟨⟨h1,h2⟩,h3⟩:=hfl
     have h4:=hf j f hj
     have hj':j<xs.length:=by rw [hxl];exact (Array.getElem?_eq_some_iff.1 hj).1
     rw [ge_ hj',h1,h2] at h4
     exact x_ul fuel d f.type e _ _ h3 h4 hs
    induction l with
    | nil=>intro j off e h;simp [layFs] at h
    | cons f l ih=>
     intro j off e h hg hle
     cases l with
     | nil=>exact one f j off e (by simpa [layFs] using h) (by simpa using hg 0 f rfl)
     | cons f' l=>
      cases e with
      | p x y=>
       simp only [layFs,Bool.and_eq_true] at h
       simp only [ET.cells] at hle
       obtain ⟨v1,r1,w1⟩:=one f j off x h.1 (by simpa using hg 0 f rfl)
       obtain ⟨v2,r2,w2⟩:=ih (j+1) (off+x.cells) y h.2 (fun i f0 hi=>by
        have:=hg (i+1) f0 (by simpa using hi)
        rwa [show j+(i+1)=j+1+i by omega] at this) (by omega)
       refine ⟨(v1,v2),⟨_,_,?_,r1,r2⟩,w1,w2⟩
       rw [ET.cells,List.take_add,List.drop_drop]
      | _=>simp [layFs] at h
   obtain ⟨v,h1,h2⟩:=key fs.toList 0 0 e hl.2 (fun i f hi=>by simpa using hi) (by omega)
   rw [List.drop_zero,List.take_of_length_le (by omega)] at h1
   exact ⟨v,h1,h2⟩
  ·rename_i el hu
   split at hl
   ·rename_i x
    simp only [Bool.and_eq_true,beq_iff_eq,bne_iff_ne,ne_eq] at hl
    obtain ⟨⟨hc,hc0⟩,hx⟩:=hl
    rcases x_qs hu h with rfl | ⟨a,len,cap,rfl,hle,hmx,hel⟩
    ·exact ⟨[],⟨_,rfl,x_br.nil rfl rfl⟩,by simp,by simp⟩
    ·have hel:=hel (hs _)
     rw [hc] at hel
     by_cases h0:cap=0
     ·subst h0
      obtain rfl:len=0:=by omega
      exact ⟨[],⟨_,rfl, .inl ⟨some a,rfl,rfl,by simp⟩⟩,by simp,by simp⟩
     ·have first:=hel 0 (by omega)
      obtain ⟨l0,y0,hl0,_⟩:=first
      have hcell:=(x_nx (x_s8 hl0)).2 0 0 (by rw [List.getElem?_range (by omega)])
      obtain ⟨c0,_,hc1⟩:=hcell
      have hsp:a.spot=none∧ ∃ cs ty fz,w.heap[a.block]?=some (.cells cs ty fz):=by
       have:a.add (0*x.cells)=a:=by simp [Addr.add]
       rw [this] at hc1
       have h2:a.add 0=a:=by simp [Addr.add]
       rw [h2] at hc1
       unfold World.cell? at hc1
       split at hc1
       ·rename_i cc ty fz hh
        split at hc1
        ·simp at hc1
        ·rename_i hsp
         exact ⟨by simpa using hsp,cc,ty,fz,hh⟩
       ·simp at hc1
      obtain ⟨hsp,cs,ty,fz,hh⟩:=hsp
      obtain ⟨b,o,sp⟩:=a
      simp only at hsp hh
      subst hsp
      have hplain:∀ n m,((⟨b,o,none⟩ : Addr).add n).add m=⟨b,o+n+m,none⟩:=fun n m=>by simp only [Addr.add];split<;>split<;>simp_all
      have hrow:∀ i,i<cap→ ∃ v:x.val,(rep w (fun b=>b<w.heap.size) x v ((cs.toList.drop (o+i*x.cells)).take x.cells)∧wfE x v)∧o+(i+1)*x.cells≤cs.size:=by
       intro i hi
       obtain ⟨l,y,h1,h2⟩:=hel i hi
       obtain ⟨h3,h4⟩:=x_nx (x_s8 h1)
       have hget:∀ j,j<x.cells→ ∃ v,l[j]?=some v∧cs[o+i*x.cells+j]?=some v:=fun j hj=>by
        obtain ⟨v,h5,h6⟩:=h4 j j (by rw [List.getElem?_range hj])
        rw [hplain] at h6
        exact ⟨v,h5,by simpa [World.cell?,hh] using h6⟩
       have hsz:o+(i+1)*x.cells≤cs.size:=by
        obtain ⟨v,_,h6⟩:=hget (x.cells-1) (by omega)
        have:=(Array.getElem?_eq_some_iff.1 h6).1
        rw [Nat.succ_mul];omega
       have hl:l=(cs.toList.drop (o+i*x.cells)).take x.cells:=by
        simp only [List.length_range] at h3
        rw [Nat.succ_mul] at hsz
        apply List.ext_getElem?
        intro j
        rcases Nat.lt_or_ge j x.cells with hj | hj
        ·obtain ⟨v,h5,h6⟩:=hget j hj
         rw [h5,List.getElem?_take,if_pos hj,List.getElem?_drop,Array.getElem?_toList,h6]
        ·rw [List.getElem?_eq_none (by omega),List.getElem?_eq_none (by simp;omega)]
       obtain ⟨v,h7,h8⟩:=x_ul fuel d el x l y hx h2 hs
       exact ⟨v,⟨by rw [←hl];exact h7,h8⟩,hsz⟩
      obtain ⟨xs,hxs,hxq⟩:=x_wf len fun i hi=>by
       obtain ⟨v,h1,_⟩:=hrow i (by omega)
       exact ⟨v,h1⟩
      refine ⟨xs,⟨_,rfl, .inr ⟨b,o,cap,cs,ty,fz,by rw [hxs],?_,by omega,hh,?_,by simp,fun i hi=>(hxq i hi).1⟩⟩,?_,fun a ha=>?_⟩
      ·exact (Array.getElem?_eq_some_iff.1 hh).1
      ·simp only [Bool.false_eq_true,if_false,hxs]
       obtain ⟨_,_,hsz⟩:=hrow (cap-1) (by omega)
       have:=Nat.mul_le_mul_right x.cells (show len≤cap-1+1 by omega)
       omega
      ·show xs.length≤maxLen
       omega
      ·obtain ⟨i,hi,rfl⟩:=List.mem_iff_getElem.1 ha
       exact (hxq i hi).2
   ·simp at hl
  ·simp at hl
end Go.Kn
namespace Go.Kn
variable [Ctx]
variable {P:Program} {H:Type} {enc:TypeId×Value→H} {w:World}
theorem x_iy {x:ET} (v:x.val):x_so x x v=some v:=by simp [x_so]
theorem x_qk:∀ (e:ET) (v:e.val) (r:List LV),x_e6 e (lv e v++r)=some (v,r)
 | .p x y,v,r=>by simp [lv,x_e6,x_qk x,x_qk y]
 | .u,v,r=>rfl
 | .sl x,v,r=>by
  show (x_so (.sl x) (.sl x) v).map _=_
  rw [x_iy];rfl
 | .i k,v,r=>by
  show (x_so (.i k) (.i k) v).map _=_
  rw [x_iy];rfl
 | .b,v,r=>by
  show (x_so .b .b v).map _=_
  rw [x_iy];rfl
 | .s,v,r=>by
  show (x_so .s .s v).map _=_
  rw [x_iy];rfl
 | .er,v,r=>by
  show (x_so .er .er v).map _=_
  rw [x_iy];rfl
theorem ofLV_of (e:ET) (v:e.val):ofLV e (lv e v)=some v:=by
 have:=x_qk e v []
 rw [List.append_nil] at this
 simp [ofLV,this]
def x_tu (es:List (Bool×ET)):List Par:=es.map fun x=> .val x.1 x.2 (List.replicate x.2.cells .f)
def lawTy (P:Program) (t:TypeId) (x:Bool×ET):Bool:=layTy P 1000 t x.2 && (x.1 == aggOf P t) && P.readableRec t && decide (t<P.types.size)
def x_jp (P:Program):List TypeId→List (Bool×ET)→Bool
 | [],[]=>true
 | t::ts,x::xs=>lawTy P t x && x_jp P ts xs
 | _,_=>false
def lawG (w:World):Gh:= { γ:=fun b=>if b<w.heap.size then .fr else .out,bb:=fun _=>0 }
theorem law_hands {e:ET} {v:e.val} {cs:List Value} (h:rep w (fun b=>b<w.heap.size) e v cs) (lab:Nat→Pl):Hands w (lawG w) lab (List.replicate e.cells .f) (lv e v) cs:=by
 have hr:rep w (lawG w).fr e v cs:=rep.mono (fun b hb=>by simp [Gh.fr,lawG,hb]) (fun _ _=>rfl) e v cs h
 obtain ⟨hl,hg⟩:=(x_n5 e v cs (x_on e v cs hr)).get
 have hc:=hr.length
 refine ⟨by simp;omega,by simp [hc],fun j m a cv hm ha hcv=>?_⟩
 obtain ⟨cv',h1,h2⟩:=hg j a ha
 rw [hcv] at h1
 obtain rfl:=Option.some.inj h1
 rw [List.getElem?_replicate] at hm
 split at hm
 ·obtain rfl:=Option.some.inj hm
  exact h2
 ·simp at hm
theorem law_agg {t:TypeId} {agg:Bool} {v:Value} {e:ET} {base:Nat} (ha:agg=aggOf P t) (hv:Value.okWide P w .any base t v) (hl:layTy P 1000 t e=true):x_hv agg v:=by
 subst ha
 unfold layTy at hl
 unfold Value.okWide at hv
 unfold x_hv aggOf
 cases hu:P.underlying t with
 | none=>rw [hu] at hl;simp at hl
 | some d=>
  rw [hu] at hl hv
  cases d<;>simp only [Bool.false_eq_true] at hl<;>simp only [Cell.okWide,Cell.ok,hu] at hv<;>simp only [Bool.false_eq_true,if_false,if_true]
  case struct=>obtain ⟨cs,h1,_⟩:=hv;exact ⟨cs,h1⟩
  all_goals (cases v<;>simp at hv ⊢ <;>simp [x_d7])
theorem x_0z {base:Nat}:∀ (ts:List TypeId) (es:List (Bool×ET)) (k:Nat) (args:List Value) (ds:List (DataW H)) (ps:List MemPlace),x_jp P ts es=true→DataW.TrodAll enc P w 0 (fun _=>true) true ts args ds ps→
  (∀ (j:Nat) t v,ts[j]?=some t→args[j]?=some v→Value.okWide P w .any base t v)→
  ∃ v:(argE (x_tu es)).val,wfE (argE (x_tu es)) v∧x_gu w (lawG w) k (x_tu es) (lv _ v) args
 | [],[],k,args,ds,ps,hl,h,hv=>by
  obtain ⟨rfl,_,_⟩:=ChangeShapes.trodAll_nil h
  exact ⟨(),trivial,rfl,rfl⟩
 | [],_::_,k,args,ds,ps,hl,h,hv=>by simp [x_jp] at hl
 | _::_,[],k,args,ds,ps,hl,h,hv=>by simp [x_jp] at hl
 | t::ts,x::es,k,_,_,_,hl,h,hv=>by
  obtain ⟨v,vs,d,ds,p,q,rfl,rfl,rfl,h1,h2⟩:=ChangeShapes.trodAll_cons h
  simp only [x_jp,lawTy,Bool.and_eq_true,beq_iff_eq,decide_eq_true_eq] at hl
  obtain ⟨⟨⟨⟨l1,l2⟩,l3⟩,l4⟩,l5⟩:=hl
  obtain ⟨fuel,h1⟩:=h1
  obtain ⟨a,r1,r2⟩:=x_ul fuel 1000 t x.2 _ _ l1 h1 (fun _=>rfl)
  obtain ⟨u,r3,r4⟩:=x_0z ts es (k+1) vs ds q l5 h2 (fun j t v ht hv'=>hv (j+1) t v (by simpa using ht) (by simpa using hv'))
  exact ⟨(a,u),⟨r2,r3⟩,lv _ a,lv _ u,v,vs,rfl,rfl,law_hands r1 _,law_agg l2 (hv 0 t v rfl rfl) l1,r4⟩
theorem x_1c {w':World} (hb:RowKit.Below w.heap.size w w') (hlo:laidOutB P=true):∀ (ts:List TypeId) (es:List (Bool×ET)) (args:List Value) (ds:List (DataW H)) (ps:List MemPlace),x_jp P ts es=true→DataW.TrodAll enc P w 0 (fun _=>true) true ts args ds ps→
  DataW.TrodAll enc P w' 0 (fun b=>decide (b<w.heap.size)) true ts args ds ps
 | [],[],args,ds,ps,hl,h=>by
  obtain ⟨rfl,rfl,rfl⟩:=ChangeShapes.trodAll_nil h
  rfl
 | [],_::_,args,ds,ps,hl,h=>by simp [x_jp] at hl
 | _::_,[],args,ds,ps,hl,h=>by simp [x_jp] at hl
 | t::ts,x::es,_,_,_,hl,h=>by
  obtain ⟨v,vs,d,ds,p,q,rfl,rfl,rfl,h1,h2⟩:=ChangeShapes.trodAll_cons h
  simp only [x_jp,lawTy,Bool.and_eq_true,beq_iff_eq,decide_eq_true_eq] at hl
  obtain ⟨⟨⟨⟨l1,l2⟩,l3⟩,l4⟩,l5⟩:=hl
  have hlt:∀ x∈p,x.block<w.heap.size:=by obtain ⟨m,hm⟩:=h1;exact DataW.trod_lt m _ _ _ hm
  exact ⟨p,q,RowKit.Below.trod hlo l3 l4 h1 hb hlt,x_1c hb hlo ts es vs ds q l5 h2,rfl⟩
def lawF (es:List (Bool×ET)) (fn:(argE (x_tu es)).val→Option (resE (x_tu es) [(false, .b,[.f])]).val):FSp:= { ps:=x_tu es,rs:=[(false, .b,[.f])],fn:=fn }
theorem law_calls (hC:Ctx.ok w) (hAt:∀ b,Ctx.at_ b→b<w.heap.size) {f:FuncId} {es:List (Bool×ET)} {fn:(argE (x_tu es)).val→Option (resE (x_tu es) [(false, .b,[.f])]).val} (hF:FOk P f (lawF es fn)) (hp:∀ v,wfE (argE (x_tu es)) v→ ∃ u,fn v=some (true,u))
  {ts:List TypeId} {args:Array Value} {ds:List (DataW H)} {ps:List MemPlace} {base:Nat} (hl:x_jp P ts es=true) (h:DataW.TrodAll enc P w 0 (fun _=>true) true ts args.toList ds ps)
  (hv:∀ (j:Nat) t v,ts[j]?=some t→args.toList[j]?=some v→Value.okWide P w .any base t v):Calls P f args w fun e w'=>e= .returned (.bool true)∧RowKit.Below w.heap.size w w':=by
 obtain ⟨v,h1,h2⟩:=x_0z ts es 0 args.toList ds ps hl h hv
 obtain ⟨u,hu⟩:=hp v h1
 have:=hF.ok rfl w (lawG w) args.toList _ v (true,u) ⟨fun b hb=>by
  simp only [lawG] at hb
  split at hb
  ·assumption
  ·simp at hb,fun b hb=>by simp only [lawG];rw [if_pos (hAt b hb)],hC⟩ h2 (ofLV_of _ v) hu
 have e0:(x_pc (lawF es fn).pk args.toList).toArray=args:=by
  show (x_pc [] args.toList).toArray=args
  have:x_pc [] args.toList=args.toList:=by cases args.toList<;>rfl
  rw [this,Array.toArray_toList]
 rw [e0] at this
 refine this.mono fun e w' he=>?_
 cases e with
 | returned rv=>
  obtain ⟨g',S,hU,hf,hh,_⟩:=he
  obtain ⟨f1,f2⟩:=hf
  have f1:x_d7 rv:=f1
  have hcv:vcs rv=[rv]:=by
   cases rv<;>simp [vcs,x_d7] at f1 ⊢
  rw [hcv] at hh
  have h3:=hh.h 0 .f ⟨.b,true⟩ rv rfl rfl rfl rfl
  have h3:false=false∧[rv]=[.bool true]:=h3
  refine ⟨by rw [List.singleton_inj.1 h3.2],S.oth.1,S.oth.2.1,S.oth.2.2,S.size,fun k hk=>(S.fr k (by simp [lawG,hk])).2⟩
 | panicked c=>exact he.elim
 | outgrown=>exact he.elim
theorem law_post {C:Checked} {f:FuncId} {fn:Func} {s:ChangeSpec} {W:World} (hC:Ctx.ok W) (hAt:∀ b,Ctx.at_ b→b<W.heap.size)
  (hvars:s.vars=[]) {rt:TypeId} (hrt:fn.resultTypes.toList=[rt]) (hbool:C.prog.underlying rt=some .bool) (hlo:laidOutB C.prog=true) {es:List (Bool×ET)} (hl:x_jp C.prog fn.params.toList es=true)
  (hs:∀ ds:List (DataW H),ds.length=es.length→s.fn H ds= { results:=[.lit (.bool true)],args:=ds })
  {g:(argE (x_tu es)).val→Option (resE (x_tu es) [(false, .b,[.f])]).val} (hF:FOk C.prog f (lawF es g)) (hp:∀ v,wfE (argE (x_tu es)) v→ ∃ u,g v=some (true,u))
  {base:Nat} {args:Array Value} {ds gs:List (DataW H)} {before:List MemPlace} (hval:∀ (j:Nat) t v,fn.params[j]?=some t→args[j]?=some v→Value.okWide C.prog W .any base t v)
  (hW:DataW.Whole enc C.prog fn.params.toList s.vars false W args.toList ds gs before) :
  Calls C.prog f args W fun e W'=> ∃ v,e= .returned v∧s.post enc C.prog fn false true false false W args v W':=by
 have hW':=hW
 obtain ⟨p,q,hA,hV,rfl,hfz,hnd⟩:=hW
 rw [hvars] at hV
 obtain ⟨rfl,rfl⟩:=ChangeShapes.trodVars_none hV
 refine (law_calls hC hAt hF hp hl hA (base:=base) fun j t v ht hv=>hval j t v (by simpa using ht) (by simpa using hv)).mono fun e W' ⟨he,bel⟩=>?_
 subst he
 have hlen:∀ (ts:List TypeId) (vs:List Value) (ds:List (DataW H)) (p:List MemPlace) (es:List (Bool×ET)),x_jp C.prog ts es=true→DataW.TrodAll enc C.prog W 0 (fun _=>true) true ts vs ds p→ds.length=es.length:=by
  intro ts
  induction ts with
  | nil=>intro vs ds p es hl h;obtain ⟨_,rfl,_⟩:=ChangeShapes.trodAll_nil h;cases es<;>simp [x_jp] at hl ⊢
  | cons t ts ih=>
   intro vs ds p es hl h
   cases es with
   | nil=>simp [x_jp] at hl
   | cons x es=>
    obtain ⟨v,vs,d,ds,p,q,rfl,rfl,rfl,h1,h2⟩:=ChangeShapes.trodAll_cons h
    simp only [x_jp,Bool.and_eq_true] at hl
    simp [ih vs ds q es hl.2 h2]
 have hfs:=hs (ds++[]) (by rw [List.append_nil];exact hlen _ _ _ _ _ hl hA)
 have hsz:fn.resultTypes.size=1:=by have:=congrArg List.length hrt;simpa using this
 refine ⟨_,rfl,ds,[],p++[],[],p,[],hW',?_,?_,?_,bel.frame _,fun h=>by cases h⟩
 ·rw [hfs,hrt,hsz]
  exact ChangeShapes.trodAll_mk1 (RowKit.shut_bool hbool _)
 ·rw [hfs,List.append_nil]
  exact x_1c bel hlo _ _ _ _ _ hl hA
 ·rw [hfs,hvars];rfl
theorem x_07 {C:Checked} {os:Os} {f:FuncId} {fn:Func} {s:ChangeSpec} (own:ownKnob C.prog.godebug=none) (started:os.Started) (noInit:C.prog.inits.idxOf? f=none) (hfn:C.prog.funcs[f]?=some fn)
  (witness:∃ (w:World) (tape:Tape) (i:Input),w.os=os∧(w.forCall tape i).Shaped C.prog∧i.vars=[]∧Input.okWide C.prog (w.forCall tape i) .any w.heap.size f i∧
   s.pre6 enc C.prog fn [] false (w.forCall tape i).memory i.args∧({}:Assume).holds C.prog (lone (Frame.enter C.prog f i.args .normal) [] (w.forCall tape i)))
  (hctx:∀ w:World,w.ShapedOpen C.prog→Ctx.ok w∧ ∀ b,Ctx.at_ b→b<w.heap.size)
  (hvars:s.vars=[]) {rt:TypeId} (hrt:fn.resultTypes.toList=[rt]) (hbool:C.prog.underlying rt=some .bool) (hlo:laidOutB C.prog=true) {es:List (Bool×ET)} (hl:x_jp C.prog fn.params.toList es=true)
  (hs:∀ ds:List (DataW H),ds.length=es.length→s.fn H ds= { results:=[.lit (.bool true)],args:=ds })
  {g:(argE (x_tu es)).val→Option (resE (x_tu es) [(false, .b,[.f])]).val} (hF:FOk C.prog f (lawF es g)) (hp:∀ v,wfE (argE (x_tu es)) v→ ∃ u,g v=some (true,u)) :
  ReturnsInHanded {} C os f .any (s.pre6 enc C.prog fn [] false) (s.post enc C.prog fn false true false false):=by
 refine returnsInHanded_of_change_shaped own started noInit hfn witness ?_
 intro W base args ds gs before hval hW _ _ hsh _
 exact law_post (hctx W hsh).1 (hctx W hsh).2 hvars hrt hbool hlo hl hs hF hp hval hW
end Go.Kn
namespace Go.Kn
variable [Ctx]
variable {P:Program}
def tiOf (l:List (TypeId×TInf)) (t:TypeId):Option TInf:=(l.find? fun x=>x.1 == t).map (·.2)
def tabOf (ti:TypeId→Option TInf) (l:List (FuncId×FSp)):Tab:= { ti:=ti,fs:=fun f=>(l.find? fun x=>x.1 == f).map (·.2) }
theorem tabOk_of {l:List (TypeId×TInf)} (h:(l.all fun x=>x_pn P (tiOf l) x.1 x.2)=true):x_fu P (tiOf l):=by
 intro t i ht
 simp only [tiOf,Option.map_eq_some_iff] at ht
 obtain ⟨x,h1,rfl⟩:=ht
 have h2:=List.find?_some h1
 have h3:=List.mem_of_find?_eq_some h1
 obtain rfl:x.1=t:=by simpa using h2
 exact List.all_eq_true.1 h x h3
theorem tok0 {ti:TypeId→Option TInf} (h:x_fu P ti):TOk P (tabOf ti []):=⟨h,fun f F hf=>by simp [tabOf] at hf,fun _ _ _ h=>by cases h⟩
inductive Dir where
 | l | r | b | t | e | lp (n:Nat)
def subc:Code→List Dir→Code
 | .seq a _, .l::p=>subc a p
 | .seq _ b, .r::p=>subc b p
 | .block _ c, .b::p=>subc c p
 | .cond _ x _, .t::p=>subc x p
 | .cond _ _ y, .e::p=>subc y p
 | .loop c, .lp _::p=>subc c p
 | c,_=>c
noncomputable def cont {R:Type} (T:Tab) (H:Hint) (K:Nat):Code→List Dir→(Ex→St→Option R)→(Ex→St→Option R)
 | .seq a b, .l::p,k=>cont T H K a p fun e st'=>match e with
  | .normal=>run T H K b st' k
  | e=>k e st'
 | .seq _ b, .r::p,k=>cont T H K b p k
 | .block id c, .b::p,k=>cont T H K c p fun e st'=>match e with
  | .exit j=>if j=id then k .normal st' else k (.exit j) st'
  | e=>k e st'
 | .cond _ x _, .t::p,k=>cont T H K x p k
 | .cond _ _ y, .e::p,k=>cont T H K y p k
 | .loop c, .lp n::p,k=>cont T H K c p fun e st'=>match e with
  | .normal=>loopN (fun st k=>run T H K c st k) n st' k
  | e=>k e st'
 | _,_,k=>k
noncomputable def lpg {R:Type} (T:Tab) (H:Hint) (K:Nat) (c:Code) (p:List Dir) (n:Nat) (st:St) (k:Ex→St→Option R):Option R:=
 loopN (fun st k=>run T H K (subc c (p++[.lp 0])) st k) n st (cont T H K c p k)
def bs (l:List UInt8):ByteArray:=⟨l.toArray⟩
def msk (l:List Nat) (r n:Nat):Bool:=(l.getD r 0).testBit n
end Go.Kn
namespace Go.Kn
open Go.RowKit (Below)
variable [Ctx]
variable {P:Program} {w w':World} {g:Gh}
end Go.Kn
namespace Go.Kn
open Go.RowKit (Below)
theorem x_qj {P:Program} {w w':World} {n:String} (h:∀ b,P.globalNamed n=some b→w'.heap[b]?=w.heap[b]?):w'.var? P n=w.var? P n:=by
 unfold World.var?
 cases hg:P.globalNamed n with
 | none=>rfl
 | some g=>simp only [Option.bind_some,h g hg]
def pow10:String:= "internal/strconv.uint64pow10"
@[reducible] def textCtx (P:Program):Ctx where
 at_ b:=P.globalNamed pow10=some b
 ok w:=Lib.TabIs P w pow10 .u64 Lib.pow10Tab
 stable w w' h hw:=by
  unfold Lib.TabIs at hw ⊢
  rw [x_qj h];exact hw
@[reducible] def fullCtx (P:Program) (g:Nat):Ctx where
 at_ b:=P.globalNamed pow10=some b∨b=g∨P.globalNamed "strconv.ErrSyntax" =some b∨P.globalNamed "strconv.ErrRange" =some b
 ok w:=Lib.TabIs P w pow10 .u64 Lib.pow10Tab∧(∃ m,w.cell? ⟨g,0,none⟩=some (.int .i64 m))∧(∃ tp p,w.var? P "strconv.ErrSyntax" =some #[.iface tp p])∧ ∃ tp p,w.var? P "strconv.ErrRange" =some #[.iface tp p]
 stable w w' h hw:=by
  obtain ⟨h1,⟨m,h2⟩,⟨tp,p,h3⟩,tp',p',h4⟩:=hw
  refine ⟨?_,⟨m,?_⟩,⟨tp,p,?_⟩,tp',p',?_⟩
  ·unfold Lib.TabIs at h1 ⊢
   rw [x_qj fun b hb=>h b (.inl hb)];exact h1
  ·unfold World.cell? at h2 ⊢
   simp only [h g (.inr (.inl rfl))];exact h2
  ·rw [x_qj fun b hb=>h b (.inr (.inr (.inl hb)))];exact h3
  ·rw [x_qj fun b hb=>h b (.inr (.inr (.inr hb)))];exact h4
end Go.Kn
namespace Go.Kn
abbrev i6 (n:Int):Int:=IntKind.i64.wrap n
@[reducible] def ck {α : Type} (p:Prop) [Decidable p] (x:Option α):Option α:=bif decide p then x else none
@[reducible] def it {α : Type} (p:Prop) [Decidable p] (x y:Option α):Option α:=bif decide p then x else y
@[reducible] def nit {α : Type} (p:Prop) [Decidable p] (x y:Option α):Option α:=bif !(decide p) then x else y
@[reducible] def ix {α β : Type} (i:Int) (l:List β) (x:Option α):Option α:=ck (0≤i) (ck (i<(l.length:Int)) x)
@[reducible] def ban (x y:Int):Int:=((BitVec.ofInt (IntKind.bits .i64) x &&& BitVec.ofInt (IntKind.bits .i64) y).toNat:Int)
@[reducible] def bor (x y:Int):Int:=((BitVec.ofInt (IntKind.bits .i64) x ||| BitVec.ofInt (IntKind.bits .i64) y).toNat:Int)
@[reducible] def bxo (x y:Int):Int:=((BitVec.ofInt (IntKind.bits .i64) x ^^^ BitVec.ofInt (IntKind.bits .i64) y).toNat:Int)
@[reducible] def gr {α β : Type} (b:Nat) (x y:List α) (k:Option β):Option β:=ck ((x.length+y.length)*b≤x_en) k
def lp1 {A0 R:Type} (b:(A0→Option R)→A0→Option R):Nat→A0→Option R
 | 0,_=>none
 | n+1,x0=>b (lp1 b n) x0
def lp2 {A0 A1 R:Type} (b:(A0→A1→Option R)→A0→A1→Option R):Nat→A0→A1→Option R
 | 0,_,_=>none
 | n+1,x0,x1=>b (lp2 b n) x0 x1
def lp3 {A0 A1 A2 R:Type} (b:(A0→A1→A2→Option R)→A0→A1→A2→Option R):Nat→A0→A1→A2→Option R
 | 0,_,_,_=>none
 | n+1,x0,x1,x2=>b (lp3 b n) x0 x1 x2
def lp4 {A0 A1 A2 A3 R:Type} (b:(A0→A1→A2→A3→Option R)→A0→A1→A2→A3→Option R):Nat→A0→A1→A2→A3→Option R
 | 0,_,_,_,_=>none
 | n+1,x0,x1,x2,x3=>b (lp4 b n) x0 x1 x2 x3
def lp5 {A0 A1 A2 A3 A4 R:Type} (b:(A0→A1→A2→A3→A4→Option R)→A0→A1→A2→A3→A4→Option R):Nat→A0→A1→A2→A3→A4→Option R
 | 0,_,_,_,_,_=>none
 | n+1,x0,x1,x2,x3,x4=>b (lp5 b n) x0 x1 x2 x3 x4
def lp6 {A0 A1 A2 A3 A4 A5 R:Type} (b:(A0→A1→A2→A3→A4→A5→Option R)→A0→A1→A2→A3→A4→A5→Option R):Nat→A0→A1→A2→A3→A4→A5→Option R
 | 0,_,_,_,_,_,_=>none
 | n+1,x0,x1,x2,x3,x4,x5=>b (lp6 b n) x0 x1 x2 x3 x4 x5
def lp7 {A0 A1 A2 A3 A4 A5 A6 R:Type} (b:(A0→A1→A2→A3→A4→A5→A6→Option R)→A0→A1→A2→A3→A4→A5→A6→Option R):Nat→A0→A1→A2→A3→A4→A5→A6→Option R
 | 0,_,_,_,_,_,_,_=>none
 | n+1,x0,x1,x2,x3,x4,x5,x6=>b (lp7 b n) x0 x1 x2 x3 x4 x5 x6
def lp8 {A0 A1 A2 A3 A4 A5 A6 A7 R:Type} (b:(A0→A1→A2→A3→A4→A5→A6→A7→Option R)→A0→A1→A2→A3→A4→A5→A6→A7→Option R):Nat→A0→A1→A2→A3→A4→A5→A6→A7→Option R
 | 0,_,_,_,_,_,_,_,_=>none
 | n+1,x0,x1,x2,x3,x4,x5,x6,x7=>b (lp8 b n) x0 x1 x2 x3 x4 x5 x6 x7
theorem lpe1 {A0 R:Type} {b:(A0→Option R)→A0→Option R} {g:Nat→A0→Option R} (h:∀ x0,g 0 x0=none) (k:∀ n x0,g (n+1) x0=b (g n) x0):∀ n,g n=lp1 b n
 | 0=>by funext x0;exact h x0
 | n+1=>by funext x0;rw [k,lpe1 h k n];rfl
theorem lpe2 {A0 A1 R:Type} {b:(A0→A1→Option R)→A0→A1→Option R} {g:Nat→A0→A1→Option R} (h:∀ x0 x1,g 0 x0 x1=none) (k:∀ n x0 x1,g (n+1) x0 x1=b (g n) x0 x1):∀ n,g n=lp2 b n
 | 0=>by funext x0 x1;exact h x0 x1
 | n+1=>by funext x0 x1;rw [k,lpe2 h k n];rfl
theorem lpe3 {A0 A1 A2 R:Type} {b:(A0→A1→A2→Option R)→A0→A1→A2→Option R} {g:Nat→A0→A1→A2→Option R} (h:∀ x0 x1 x2,g 0 x0 x1 x2=none) (k:∀ n x0 x1 x2,g (n+1) x0 x1 x2=b (g n) x0 x1 x2):∀ n,g n=lp3 b n
 | 0=>by funext x0 x1 x2;exact h x0 x1 x2
 | n+1=>by funext x0 x1 x2;rw [k,lpe3 h k n];rfl
theorem lpe4 {A0 A1 A2 A3 R:Type} {b:(A0→A1→A2→A3→Option R)→A0→A1→A2→A3→Option R} {g:Nat→A0→A1→A2→A3→Option R} (h:∀ x0 x1 x2 x3,g 0 x0 x1 x2 x3=none) (k:∀ n x0 x1 x2 x3,g (n+1) x0 x1 x2 x3=b (g n) x0 x1 x2 x3):∀ n,g n=lp4 b n
 | 0=>by funext x0 x1 x2 x3;exact h x0 x1 x2 x3
 | n+1=>by funext x0 x1 x2 x3;rw [k,lpe4 h k n];rfl
theorem lpe5 {A0 A1 A2 A3 A4 R:Type} {b:(A0→A1→A2→A3→A4→Option R)→A0→A1→A2→A3→A4→Option R} {g:Nat→A0→A1→A2→A3→A4→Option R} (h:∀ x0 x1 x2 x3 x4,g 0 x0 x1 x2 x3 x4=none) (k:∀ n x0 x1 x2 x3 x4,g (n+1) x0 x1 x2 x3 x4=b (g n) x0 x1 x2 x3 x4):∀ n,g n=lp5 b n
 | 0=>by funext x0 x1 x2 x3 x4;exact h x0 x1 x2 x3 x4
 | n+1=>by funext x0 x1 x2 x3 x4;rw [k,lpe5 h k n];rfl
theorem lpe6 {A0 A1 A2 A3 A4 A5 R:Type} {b:(A0→A1→A2→A3→A4→A5→Option R)→A0→A1→A2→A3→A4→A5→Option R} {g:Nat→A0→A1→A2→A3→A4→A5→Option R} (h:∀ x0 x1 x2 x3 x4 x5,g 0 x0 x1 x2 x3 x4 x5=none) (k:∀ n x0 x1 x2 x3 x4 x5,g (n+1) x0 x1 x2 x3 x4 x5=b (g n) x0 x1 x2 x3 x4 x5):∀ n,g n=lp6 b n
 | 0=>by funext x0 x1 x2 x3 x4 x5;exact h x0 x1 x2 x3 x4 x5
 | n+1=>by funext x0 x1 x2 x3 x4 x5;rw [k,lpe6 h k n];rfl
theorem lpe7 {A0 A1 A2 A3 A4 A5 A6 R:Type} {b:(A0→A1→A2→A3→A4→A5→A6→Option R)→A0→A1→A2→A3→A4→A5→A6→Option R} {g:Nat→A0→A1→A2→A3→A4→A5→A6→Option R} (h:∀ x0 x1 x2 x3 x4 x5 x6,g 0 x0 x1 x2 x3 x4 x5 x6=none) (k:∀ n x0 x1 x2 x3 x4 x5 x6,g (n+1) x0 x1 x2 x3 x4 x5 x6=b (g n) x0 x1 x2 x3 x4 x5 x6):∀ n,g n=lp7 b n
 | 0=>by funext x0 x1 x2 x3 x4 x5 x6;exact h x0 x1 x2 x3 x4 x5 x6
 | n+1=>by funext x0 x1 x2 x3 x4 x5 x6;rw [k,lpe7 h k n];rfl
theorem lpe8 {A0 A1 A2 A3 A4 A5 A6 A7 R:Type} {b:(A0→A1→A2→A3→A4→A5→A6→A7→Option R)→A0→A1→A2→A3→A4→A5→A6→A7→Option R} {g:Nat→A0→A1→A2→A3→A4→A5→A6→A7→Option R} (h:∀ x0 x1 x2 x3 x4 x5 x6 x7,g 0 x0 x1 x2 x3 x4 x5 x6 x7=none) (k:∀ n x0 x1 x2 x3 x4 x5 x6 x7,g (n+1) x0 x1 x2 x3 x4 x5 x6 x7=b (g n) x0 x1 x2 x3 x4 x5 x6 x7):∀ n,g n=lp8 b n
 | 0=>by funext x0 x1 x2 x3 x4 x5 x6 x7;exact h x0 x1 x2 x3 x4 x5 x6 x7
 | n+1=>by funext x0 x1 x2 x3 x4 x5 x6 x7;rw [k,lpe8 h k n];rfl
end Go.Kn
namespace Go.Kn
variable [Ctx] {P:Program}
def mds:Nat→Nat→List Md
 | 0,_=>[]
 | k+1,n=>(match n % 3 with | 0=>Md.f | 1=> .r | _=> .x 0)::mds k (n / 3)
def dirs:Nat→Nat→List Dir
 | 0,_=>[]
 | k+1,n=>(match n % 5 with | 0=>Dir.l | 1=> .r | 2=> .b | 3=> .t | _=> .e)::dirs k (n / 5)
def va (e:ET) (n:Nat):Par:= .val true e (mds e.cells n)
def vo (e:ET) (n:Nat):Par:= .val false e (mds 1 n)
def vp (e:ET) (n:Nat):Par:= .ptr e (mds e.cells n) 0
def ra (e:ET) (n:Nat):Bool×ET×List Md:=(true,e,mds e.cells n)
def ro (e:ET) (n:Nat):Bool×ET×List Md:=(false,e,mds 1 n)
def csl:Nat→List LV→List Cell
 | _,[]=>[]
 | n,x::l=> .val (match n % 3 with | 0=>Md.f | 1=> .r | _=> .x 0) x.1 x.2::csl (n / 3) l
def cs (e:ET) (n:Nat) (v:e.val):List Cell:=csl n (lv e v)
@[reducible] def sv (e:ET) (n:Nat) (v:e.val):SC:= .agg (cs e n v)
@[reducible] def bv (e:ET) (n:Nat) (v:e.val):Option (Nat×List Cell):=some (1,cs e n v)
@[reducible] def vi (v:Int):SC:= .one (.val .f (.i .i64) v)
@[reducible] def vb (v:Bool):SC:= .one (.val .f .b v)
@[reducible] def vs (v:ByteArray):SC:= .one (.val .f .s v)
@[reducible] def vl (e:ET) (n:Nat) (v:List e.val):SC:= .one (.val (match n with | 0=>Md.f | 1=> .r | _=> .x 0) (.sl e) v)
@[reducible] def vt (n t off:Nat):SC:= .one (.ptr n t off)
@[reducible] def dd (n:Nat):List SC:=List.replicate n .dead
@[reducible] def dn (n:Nat):List (Option (Nat×List Cell)):=List.replicate n none
structure TT (P:Program) where
 T:Tab
 ok:TOk P T
noncomputable def t0 {ti:TypeId→Option TInf} (h:x_fu P ti):TT P:=⟨tabOf ti [],tok0 h⟩
noncomputable def cn {f:FuncId} {F:FSp} (h:FOk P f F) (t:TT P):TT P:=
 ⟨{ t.T with fs:=fun g=> @Bool.rec (fun _=>Option FSp) (t.T.fs g) (some F) (Nat.beq f g) },⟨t.ok.ty,fun g G hg=>by
  have hg : @Bool.rec (fun _=>Option FSp) (t.T.fs g) (some F) (Nat.beq f g)=some G:=hg
  cases hb:Nat.beq f g with
  | false=>rw [hb] at hg;exact t.ok.fn g G hg
  | true=>
   rw [hb] at hg
   obtain rfl:=Option.some.inj hg
   obtain rfl:=Nat.eq_of_beq_eq_true hb
   exact h,t.ok.fg⟩⟩
noncomputable def cg (g:FuncId) {f:FuncId} {F:FSp} (h:FOk P f F) (t:TT P):TT P:=
 ⟨{ t.T with ff:=fun a b=> @Bool.rec (fun _=>Option FSp) (t.T.ff a b) (some F) (Nat.beq f a && Nat.beq g b) },⟨t.ok.ty,t.ok.fn,fun a b G hg=>by
  have hg : @Bool.rec (fun _=>Option FSp) (t.T.ff a b) (some F) (Nat.beq f a && Nat.beq g b)=some G:=hg
  cases hb:Nat.beq f a && Nat.beq g b with
  | false=>rw [hb] at hg;exact t.ok.fg a b G hg
  | true=>
   rw [hb] at hg
   obtain rfl:=Option.some.inj hg
   simp only [Bool.and_eq_true] at hb
   obtain rfl:=Nat.eq_of_beq_eq_true hb.1
   exact h⟩⟩
noncomputable def sf (k:Nat) (t:TT P):TT P:=⟨{ t.T with sh:=k },⟨t.ok.ty,t.ok.fn,t.ok.fg⟩⟩
noncomputable def fz (z:List Nat) (t:TT P):TT P:=⟨{ t.T with frz:=fun n=>z.contains n },⟨t.ok.ty,t.ok.fn,t.ok.fg⟩⟩
structure Bd (P:Program) where
 F:FSp
 t:TT P
 h:Hint
 K:Nat
 fn:Func
 ts:List RS
noncomputable def Bd.body (B:Bd P):Code:=B.fn.body.getD .skip
noncomputable def Bd.e (B:Bd P):Ex→St→Option (resE B.F.ps B.F.rs).val:=match B.F.nv,B.ts with
 | true,[.tmp t]=>nvK B.t.T.toEnv B.F t
 | _,_=>endK B.t.T.toEnv B.F B.ts
noncomputable def Bd.run (B:Bd P) (v:(argE B.F.ps).val):Option (resE B.F.ps B.F.rs).val:=Kn.run B.t.T B.h B.K B.body (x_ub B.F.pk B.F.ps B.fn.ntmps (lv _ v)) B.e
noncomputable def lq (B:Bd P) (p:List Dir) (n:Nat) (st:St):Option (resE B.F.ps B.F.rs).val:=lpg B.t.T B.h B.K B.body p n st B.e
def Bd.good (B:Bd P):Bool:=B.fn.body.isSome && !(B.fn.name == "runtime.NumGoroutine") && pkOk B.F.pk B.F.ps.length && !B.F.nv
theorem bok {B:Bd P} {f:FuncId} (hm:P.follows .mixedOrders=true) (hf:P.funcs[f]?=some B.fn) (hr:∀ v,B.run v=B.F.fn v:=by intro v;kernel_rfl) (hg:B.good=true:=by kernel_rfl) (hres:B.fn.results=(B.ts.map RS.var).toArray:=by kernel_rfl):FOk P f B.F:=by
 simp only [Bd.good,Bool.and_eq_true,Bool.not_eq_true'] at hg
 obtain ⟨⟨⟨h1,h2⟩,h3⟩,h4⟩:=hg
 obtain ⟨c,hc⟩:=Option.isSome_iff_exists.1 h1
 refine x_x7 (T:=B.t.T) (H:=B.h) (K:=B.K) (c:=c) (ts:=B.ts) hf hc h2 hres h3 B.t.ok hm (fun v=>?_) h4
 have:=hr v
 unfold Bd.run Bd.body Bd.e at this
 rw [hc,h4] at this
 exact this
theorem bokn {f:FuncId} {fn:Func} {x:ET} {rs:List (Bool×ET×List Md)} {pf:(argE [Par.val false (.sl x) [.f]]).val→Option (resE [Par.val false (.sl x) [.f]] rs).val} {tt:TT P} {H:Hint} {K t:Nat} (hm:P.follows .mixedOrders=true) (hf:P.funcs[f]?=some fn)
  (hr:∀ v,(Bd.mk ⟨[.val false (.sl x) [.f]],rs,[],pf,true⟩ tt H K fn [.tmp t]).run v=pf v:=by intro v;kernel_rfl) (hb:fn.body.isSome=true:=by kernel_rfl) (hn:(fn.name == "runtime.NumGoroutine")=false:=by kernel_rfl) (hres:fn.results= #[.tmp t]:=by kernel_rfl)
  (h0:0<(resE [Par.val false (.sl x) [.f]] rs).cells:=by decide):FOk P f ⟨[.val false (.sl x) [.f]],rs,[],pf,true⟩:=by
 obtain ⟨c,hc⟩:=Option.isSome_iff_exists.1 hb
 refine fok_nv (T:=tt.T) (H:=H) (K:=K) (c:=c) (t:=t) hf hc hn hres h0 tt.ok hm fun v=>?_
 have:=hr v
 unfold Bd.run Bd.body Bd.e at this
 have hc':fn.body=some c:=hc
 simp only [hc'] at this
 exact this
def hn (l:List Nat):Hint:=⟨msk l,fun _ _=>false,fun _=>false,fun _=>none⟩
def h2 (l:List Nat) (k:List (Nat×Nat)) (s:List Nat):Hint:=⟨msk l,fun r i=>k.contains (r,i),fun n=>s.contains n,fun _=>none⟩
def h3 (l:List Nat) (k:List (Nat×Nat)) (s:List Nat) (a:Nat) (d:List Nat):Hint:=⟨msk l,fun r i=>k.contains (r,i),fun n=>s.contains n,fun r=>if r=a then some fun n=>d.contains n else none⟩
@[reducible] def u1 {A R:Type} (f:A→R):A×Unit→R:=fun v=>f v.1
@[reducible] def u2 {A B R:Type} (f:A→B→R):A×B×Unit→R:=fun v=>f v.1 v.2.1
@[reducible] def u3 {A B C R:Type} (f:A→B→C→R):A×B×C×Unit→R:=fun v=>f v.1 v.2.1 v.2.2.1
@[reducible] def u4 {A B C D R:Type} (f:A→B→C→D→R):A×B×C×D×Unit→R:=fun v=>f v.1 v.2.1 v.2.2.1 v.2.2.2.1
end Go.Kn
