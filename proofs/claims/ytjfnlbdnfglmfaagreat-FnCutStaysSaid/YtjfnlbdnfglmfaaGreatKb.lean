/- A small machine over plain lists, and the proof that what it computes is what the Go function computes. -/
import Derived.Test.YtjfnlbdnfglmfaaGreatKa
import Derived.Laws.MakeOwn
import Derived.Laws.IdiomStrings
import Derived.Laws.AppendOwn
set_option linter.all false
namespace Go.Kn
variable [Ctx]
variable {P:Program} {D:Key×Nat→Prop} {st st':St} {tm:Array Value} {w w1:World} {g:Gh} {ds:List Deferred} {E:Env}
variable {T:Tab} {keep:Bool} {i:Nat} {o:Oper}
structure Grow (w w1:World):Prop where
 size:w.heap.size≤w1.heap.size
 old:∀ b,b<w.heap.size→w1.heap[b]?=w.heap[b]?
 oth:w1.os=w.os∧w1.tape=w.tape∧w1.output=w.output
theorem x_zo (a:Array Obj) (x:Obj) {b:Nat} (h:b<a.size):(a.push x)[b]?=a[b]?:=by rw [Array.getElem?_push,if_neg (Nat.ne_of_lt h)]
theorem x_1f (a:Array Obj) (x:Obj):(a.push x)[a.size]?=some x:=by rw [Array.getElem?_push,if_pos rfl]
theorem Grow.alloc (w:World) (x:Obj):Grow w (w.alloc x):=⟨by simp,fun b h=>x_zo w.heap x h,rfl,rfl,rfl⟩
theorem Grow.drew (w:World) (x:Obj):Grow w (w.drew.alloc x):=⟨by simp,fun b h=>x_zo w.heap x h,rfl,rfl,rfl⟩
theorem x_ou (w:World) (x:Obj):(w.alloc x).heap[w.heap.size]?=some x:=x_1f w.heap x
theorem x_v9 (w:World) (x:Obj):(w.drew.alloc x).heap[w.heap.size]?=some x:=x_1f w.heap x
def Gh.new (g:Gh) (b:Nat) (t:Tg):Gh:= { g with γ:=fun c=>if c=b then t else g.γ c }
theorem Inv.lt (I:Inv D st tm w g) {b:Nat} (h:g.γ b≠ .out):b<w.heap.size:=I.uni b h
theorem new_old (I:Inv D st tm w g) {b b':Nat} {t t':Tg} (hb:w.heap.size≤b) (h:g.γ b'=t) (ht:t≠ .out):(g.new b t').γ b'=t:=by
 have:b'<w.heap.size:=I.uni b' (by rw [h];exact ht)
 have:b'≠b:=by omega
 simp [Gh.new,this,h]
theorem new_mem (I:Inv D st tm w g) (G:Grow w w1) {b:Nat} {t:Tg} (hb:w.heap.size≤b) (hb':b<w1.heap.size) (but:Pl→Prop):Mem D st tm w g w1 (g.new b t) but:=by
 have key:∀ b' t',g.γ b'=t'→t'≠ .out→(g.new b t).γ b'=t'∧w1.heap[b']?=w.heap[b']?:=fun b' t' h h'=>
  ⟨new_old I hb h h',G.old b' (I.uni b' (by rw [h];exact h'))⟩
 refine ⟨⟨fun b' h=>key b' _ h (by simp),fun b' h=>key b' _ h (by simp),fun b' hl h=>?_,G.size,G.oth⟩,rfl,fun q t x v _ _ b' h=>key b' _ h (by simp),fun n b' h=>key b' _ h (by simp),fun b' h=>?_⟩
 ·have:b'≠b:=by omega
  exact ⟨by simp [Gh.new,this,h],G.old b' hl⟩
 ·by_cases hbb:b'=b
  ·subst hbb;exact hb'
  ·simp only [Gh.new,hbb,if_false] at h
   exact Nat.lt_of_lt_of_le (I.uni b' h) G.size
theorem rep_new (I:Inv D st tm w g) (G:Grow w w1) {b:Nat} {t:Tg} (hb:w.heap.size≤b) {e:ET} {v:e.val} {cs:List Value} (h:rep w g.fr e v cs):rep w1 (g.new b t).fr e v cs:=
 rep.mono (fun b' hb'=>new_old I hb hb' (by simp)) (fun b' hb'=>G.old b' (I.uni b' (by rw [show g.γ b'= .fr from hb'];simp))) e v cs h
theorem x_rd (I:Inv D st tm w g) (G:Grow w w1):Goes D D st tm w g st tm w1 g:=by
 have key:∀ b t',g.γ b=t'→t'≠ .out→g.γ b=t'∧w1.heap[b]?=w.heap[b]?:=fun b t' h h'=>⟨h,G.old b (I.uni b (by rw [h];exact h'))⟩
 refine (⟨I.len,rfl,fun _ _=>rfl,fun q _ c hc=>?_,fun b h=>key b _ h (by simp),fun b h=>key b _ h (by simp),fun q t x v _ _ b h=>key b _ h (by simp),
  fun n _ _=>⟨.same _,rfl⟩,fun n h=>h.elim,fun q h=>h.elim,fun q h=>h.elim,fun n t cs hb=>?_,fun b h=>Nat.lt_of_lt_of_le (I.uni b h) G.size,fun _ h=>h⟩ :
  Chg D D st st tm tm w w1 g g (fun _=>False) (fun _=>False)).goes I ⟨fun b h=>key b _ h (by simp),fun b h=>key b _ h (by simp),fun b hl h=>⟨h,G.old b hl⟩,G.size,G.oth⟩
 ·cases hb:q.bx with
  | true=>exact I.bcell rfl (fun n b h=>key b _ h (by simp)) hb hc
  | false=>simp [cAt,hb]
 ·obtain ⟨h1,h2,vals,ty,h3,h4⟩:=I.box n t cs hb
  exact ⟨.inr ⟨cs,hb,rfl⟩,h1,h2,vals,ty,by rw [(key _ _ h2 (by simp)).2];exact h3,h4⟩
theorem x_lv (I:Inv D st tm w g) (G:Grow w w1) {s:Nat} (hs:x_o5 D s) {x:ET} {xs:List x.val} {b cap:Nat} {cells:Array Value} {ty:TypeId} {fz:Nat×Nat}
  (hb:w.heap.size≤b) (hh:w1.heap[b]?=some (.cells cells ty fz)) (hcap:xs.length≤cap) (hsz:cap*x.cells≤cells.size) (hfz:∀ j,j<cells.size→ ¬ (fz.1≤j∧j<fz.2))
  (hr:∀ j (h:j<xs.length),rep w g.fr x xs[j] ((cells.toList.drop (j*x.cells)).take x.cells))
  (he:(putD o (.one (.val (.x s) (.sl x) xs))).Ends st () st') :
  ∃ D' g',Goes D D' st tm w g st' (dput o tm (.slice (some ⟨b,0,none⟩) xs.length cap)) w1 g'∧ ∀ k t,D' (k,t)→D (k,t)∨t=s:=by
 have hlt:b<w1.heap.size:=(Array.getElem?_eq_some_iff.1 hh).1
 unfold putD at he
 unfold dput
 cases hd:o.dst with
 | none=>rw [hd] at he;obtain ⟨_,rfl⟩:=Pr.er he;exact ⟨D,g,x_rd I G,fun _ _ h=> .inl h⟩
 | some d=>
  rw [hd] at he
  obtain ⟨_,rfl⟩:=Pr.er (Pr.ends_wr he)
  by_cases h:d<tm.size
  ·refine ⟨_,g.new b (.row ⟨false,d,0⟩),x_u1 I h (new_mem I G hb hlt _) (hs _) (.inr ⟨b,0,cap,cells,ty,fz,rfl,?_,hcap,hh,by simpa using hsz,fun _=>hfz,fun j hj=>?_⟩),fun k t h=>?_⟩
   ·simp [Gh.own,Gh.new]
   ·rw [Nat.zero_add];exact rep_new I G hb (hr j hj)
   ·exact h.imp id fun h=>congrArg Prod.snd h
  ·have h1:∀ v,tm.setIfInBounds d v=tm:=fun v=>by simp [Array.setIfInBounds,h]
   have h2:∀ sc,Wr.put st (.sl d sc)=st:=fun sc=>by
    have hl:st.sl.length≤d:=by rw [I.len];exact Nat.le_of_not_lt h
    simp [Wr.put,List.set_eq_of_length_le hl]
   simp only [h1,h2]
   exact ⟨D,g,x_rd I G,fun _ _ h=> .inl h⟩
theorem x_y2 {s t:TypeId} {x:Operand} (TO:x_fu P T.ti) (hf:x_o5 D (i+1)) (ho:o.op= .convert s t x) (I:Inv D st tm w g) (he:(opR T keep i o).Ends st () st') :
  OpOk P o D st tm w g st' (i+1) ds:=by
 simp only [opR,ho] at he
 obtain ⟨a,s1,h1,h2⟩:=Pr.eb he
 obtain ⟨rfl,O⟩:=x_bp (ds:=ds) I h1
 obtain ⟨la,s1,h3,h4⟩:=Pr.eb h2
 obtain ⟨rfl,hl⟩:=x_fn I O h3
 split at h4
 ·rename_i ts tt hts htt
  split at h4
  ·exact (Pr.ef h4).elim
  ·rename_i hn
   simp only [Bool.or_eq_true,not_or,Bool.not_eq_true] at hn
   obtain ⟨⟨⟨n1,n2⟩,n3⟩,n4⟩:=hn
   obtain ⟨c1,c2,c3⟩:=x_yc (P:=P) TO I hts htt ⟨n1,n2,n3,n4⟩ hl
   have ex:∀ v w',(convert s t ((⟨tm,ds⟩ : Act).eval x)).run P w= .ok v w'→(execOp (⟨tm,ds⟩ : Act).eval o).run P w= .ok (.value v) w':=by
    intro v w' h
    simp only [execOp,ho,Sem.run_bind,h,Result.andThen_ok,Sem.run_pure]
   split at h4
   ·rename_i hte
    exact x_dd I (ex _ _ (c1 _ _ _ rfl hte)) (x_ht _ _) h4
   ·rename_i hte
    exact x_dd I (ex _ _ (c2 _ rfl hte)) (x_se _) h4
   ·rename_i sb hse hte
    split at h4
    ·rename_i hb
     obtain ⟨el,hu,hel⟩:=x_u3 TO hb
     have hus:=und_s TO hts n1 n3 hse
     have hv:=x_mi hl
     have hr:=run_bytes_of_string (P:=P) w s t el sb hus hu hel
     have hge:=grownCap_ge w sb.size 0 el
     have hbs:(bytesRow sb (grownCap w sb.size 0 el)).size=grownCap w sb.size 0 el:=by
      have:sb.data.size=sb.size:=rfl
      simp [bytesRow,this];omega
     have hlb:(x_co sb).length=sb.size:=by simp [x_co]
     obtain ⟨D',g',G,hD⟩:=x_lv (cells:=bytesRow sb (grownCap w sb.size 0 el)) (ty:=el) (fz:=((bytesRow sb (grownCap w sb.size 0 el)).size,(bytesRow sb (grownCap w sb.size 0 el)).size+1)) (cap:=grownCap w sb.size 0 el) (xs:=x_co sb) (x:= .i .u8) I (Grow.drew w _) hf (Nat.le_refl _) (x_v9 w _) (by rw [hlb];exact hge)
      (by simp [ET.cells,hbs]) (fun j hj=>by dsimp only;omega) (fun j hj=>by
       have hj':j<sb.data.size:=by rw [hlb] at hj;exact hj
       have hb:=bytesRow_at sb (grownCap w sb.size 0 el) j hj'
       simp only [ET.cells,Nat.mul_one,rep]
       have h0:(bytesRow sb (grownCap w sb.size 0 el)).toList[j]?=some (.int .u8 (sb.data[j].toNat:Int)):=by rw [Array.getElem?_toList];exact hb
       have hjl:j<(bytesRow sb (grownCap w sb.size 0 el)).toList.length:=(List.getElem?_eq_some_iff.1 h0).1
       rw [List.drop_eq_getElem_cons hjl]
       simp only [List.take_succ_cons,List.take_zero]
       rw [(List.getElem?_eq_some_iff.1 h0).2]
       simp [x_co]) h4
     rw [hlb] at G
     exact x_gr (ex _ _ (by rw [hv];exact hr)) ⟨D',g',rfl,G,hD⟩
    ·exact (Pr.ef h4).elim
   ·rename_i hse hte
    split at h4
    ·rename_i hb
     exact x_dd I (ex _ _ (c3 _ rfl hb hte)) (x_se _) h4
    ·exact (Pr.ef h4).elim
   ·exact (Pr.ef h4).elim
 ·exact (Pr.ef h4).elim
theorem x_zq (z:Array Value):∀ (n j:Nat),j<n→((madeCells z (n*z.size)).toList.drop (j*z.size)).take z.size=z.toList:=by
 intro n j hj
 have hlt:j*z.size+z.size≤n*z.size:=by
  have:(j+1)*z.size≤n*z.size:=Nat.mul_le_mul_right _ hj
  rw [Nat.add_mul] at this;omega
 apply List.ext_getElem
 ·simp [madeCells];omega
 ·intro m h1 h2
  simp only [List.length_take,List.length_drop,Array.length_toList] at h1 h2
  have hm:(j*z.size+m) % z.size=m:=by
   rw [Nat.mul_comm,Nat.mul_add_mod]
   exact Nat.mod_eq_of_lt h2
  simp [madeCells,hm,getElem!_pos z m h2]
theorem x_nh (TO:x_fu P T.ti) {t:TypeId} {te:TInf} (h:T.ti t=some te) (hp:te.ptr=false):∃ inf z,P.info? t=some inf∧inf.zero=some z∧inf.size=te.e.cells∧inf.bytes=te.bytes∧
  z.cells.size=te.e.cells∧ ∀ (w:World) (fr:Nat→Prop),rep w fr te.e te.e.zero z.cells.toList:=by
 obtain ⟨inf,h1,h2,h3,h4⟩:=TO.info h
 obtain ⟨z,h5,h6,_⟩:=h4 hp
 have hr:∀ (w:World) (fr:Nat→Prop),rep w fr te.e te.e.zero z.cells.toList:=fun w fr=>by
  obtain ⟨c,h7,h8⟩:=x_f6 (w:=w) (fr:=fr) te.e _ _ h6
  rw [List.append_nil] at h7
  rw [h7];exact h8
 refine ⟨inf,z,h1,h5,by rw [h2,TInf.n,hp];rfl,h3,?_,hr⟩
 have:=(hr { (default:World) with } fun _=>True).length
 simpa using this
theorem x_uk {t:TypeId} {n m:Operand} (TO:x_fu P T.ti) (hf:x_o5 D (i+1)) (ho:o.op= .makeSlice t n m) (I:Inv D st tm w g) (he:(opR T keep i o).Ends st () st') :
  OpOk P o D st tm w g st' (i+1) ds:=by
 simp only [opR,ho] at he
 split at he
 ·rename_i ti hti
  split at he
  ·rename_i te hte
   split at he
   ·exact (Pr.ef he).elim
   ·rename_i hn
    simp only [Bool.or_eq_true,not_or,Bool.not_eq_true,Bool.not_eq_false',Bool.not_eq_true'] at hn
    obtain ⟨ti',te',k1,k2,k3,k4,k5,k6,k7⟩:=x_ri TO (show elT T.toEnv t te.e=true by simpa using hn.2)
    have e1:ti=ti':=Option.some.inj (hti.symm.trans k1)
    subst e1
    obtain ⟨inf,z,z1,z2,z3,z4,z5,z6⟩:=x_nh TO hte hn.1
    obtain ⟨a,s,h1,h2⟩:=Pr.eb he
    obtain ⟨rfl,O⟩:=x_bp (ds:=ds) I h1
    obtain ⟨l,s,h3,h4⟩:=Pr.eb h2
    obtain ⟨rfl,hl⟩:=x_kh I O h3
    obtain ⟨b,s,h5,h6⟩:=Pr.eb h4
    obtain ⟨rfl,O'⟩:=x_bp (ds:=ds) I h5
    obtain ⟨c,s,h7,h8⟩:=Pr.eb h6
    obtain ⟨rfl,hc⟩:=x_kh I O' h7
    obtain ⟨c0,h8⟩:=Pr.ek h8
    obtain ⟨c1,h8⟩:=Pr.ek h8
    obtain ⟨c2,h8⟩:=Pr.ek h8
    have c0:=of_decide_eq_true c0
    have c1:=of_decide_eq_true c1
    have c2:=of_decide_eq_true c2
    have hc2:c.2.toNat*inf.bytes+c.2.toNat≤70368744177664:=by
     rw [z4, ←c0];rw [Nat.mul_add,Nat.mul_one] at c2;exact c2
    have hbytes:(inf.bytes:Int)*c.2≤281474976710656:=by
     have h0:c.2=(c.2.toNat:Int):=(Int.toNat_of_nonneg (by omega)).symm
     rw [h0, ←Int.natCast_mul,Nat.mul_comm]
     omega
    have h63:c.2≤9223372036854775807:=by omega
    have hmk:=run_make w t ti.el inf z k5 z1 z2 l.1 c.1 l.2 c.2 c1 (by omega) hbytes h63
    have hsz:inf.size=z.cells.size:=by rw [z3,z5]
    rw [hsz] at hmk
    obtain ⟨D',g',G,hD⟩:=x_lv (cells:=madeCells z.cells (c.2.toNat*z.cells.size)) (ty:=ti.el) (fz:=(0,0)) (xs:=List.replicate l.2.toNat te.e.zero) (cap:=c.2.toNat) (x:=te.e) I (Grow.alloc w _) hf (Nat.le_refl _) (x_ou w _) (by simp;omega)
     (by rw [size_madeCells,z5];exact Nat.le_refl _) (fun j hj=>by simp) (fun j hj=>by
      simp only [List.length_replicate] at hj
      have:=x_zq z.cells c.2.toNat j (by omega)
      rw [z5] at this
      rw [z5,this]
      simpa using z6 w g.fr) h8
    rw [List.length_replicate] at G
    refine x_gr (v:= .slice (some ⟨w.heap.size,0,none⟩) l.2.toNat c.2.toNat) ?_ ⟨D',g',rfl,G,hD⟩
    simp only [execOp,ho,hl,hc,Sem.run_bind,hmk,Result.andThen_ok,Sem.run_pure]
  ·exact (Pr.ef he).elim
 ·exact (Pr.ef he).elim
end Go.Kn
namespace Go.Kn
variable [Ctx]
variable {P:Program} {D:Key×Nat→Prop} {st st':St} {tm:Array Value} {w w1:World} {g:Gh} {ds:List Deferred} {E:Env}
variable {T:Tab} {keep:Bool} {i:Nat} {o:Oper}
theorem Goes.okCell {D':Key×Nat→Prop} {tm':Array Value} {w':World} {g':Gh} (G:Goes D D' st tm w g st' tm' w' g') {c:Cell} {cv:Value} (h:okCell D st tm w g c cv):okCell D' st' tm' w' g' c cv:=
 ⟨h.1,fun t ht=>G.d t (h.2.1 t ht),G.cel _ _ _ h.1 h.2.1 h.2.2⟩
theorem x_yh {w':World} {g':Gh} (S:Stp w g w' g') {e:ET} {v:e.val} {cv:Value} (h:lrep w g g.fr false e v cv):lrep w' g' g'.fr false e v cv:=
 lrep.mono h (fun b hb=>S.fr b hb) S.fr
theorem rep_stp {w':World} {g':Gh} (S:Stp w g w' g') {e:ET} {v:e.val} {cs:List Value} (h:rep w g.fr e v cs):rep w' g'.fr e v cs:=
 rep.mono (fun b hb=>(S.fr b hb).1) (fun b hb=>(S.fr b hb).2) e v cs h
theorem x_gl:∀ (cs:List Cell) (vs:List Value) (ls:List LV) {D:Key×Nat→Prop} {st s1:St} {tm:Array Value} {w:World} {g:Gh},Inv D st tm w g→(mapP x_rc cs).Ends st ls s1→
  cs.length=vs.length→(∀ (j:Nat) c,cs[j]?=some c→ ∃ cv,vs[j]?=some cv∧okCell D st tm w g c cv)→
  ∃ g',Goes D D st tm w g s1 tm w g'∧Lvs w g' g'.fr ls vs
 | [],vs,ls,D,st,s1,tm,w,g,I,he,hl,hc=>by
  obtain ⟨rfl,rfl⟩:=Pr.er he
  obtain rfl:vs=[]:=List.length_eq_zero_iff.1 hl.symm
  exact ⟨g, .refl I, .nil⟩
 | c::cs,vs,ls,D,st,s1,tm,w,g,I,he,hl,hc=>by
  cases vs with
  | nil=>simp at hl
  | cons v vs=>
   obtain ⟨a,s,h1,h2⟩:=Pr.eb he
   obtain ⟨cv,hv,hr⟩:=hc 0 c rfl
   simp only [List.getElem?_cons_zero,sj_] at hv
   subst hv
   obtain ⟨g1,G1,h1⟩:=x_pm I h1 hr.2.2
   obtain ⟨r,s',h3,h4⟩:=Pr.eb h2
   obtain ⟨g2,G2,hL⟩:=x_gl cs vs r G1.inv h3 (by simpa using hl) (fun j d hd=>by
    obtain ⟨cv,h5,h6⟩:=hc (j+1) d (by simpa using hd)
    exact ⟨cv,by simpa using h5,G1.okCell h6⟩)
   obtain ⟨rfl,rfl⟩:=Pr.er h4
   exact ⟨g2,G1.trans G2, .cons _ _ _ _ (x_yh G2.stp h1) hL⟩
theorem x_fp {sc:SC} {v:Value} (O:Opd D st tm w g sc v) {agg:Bool} {cs:List Cell} (h:(agg=true∧sc= .agg cs)∨(agg=false∧ ∃ c,sc= .one c∧cs=[c])) :
  cs.length=v.cells.toList.length∧ ∀ (j:Nat) c,cs[j]?=some c→ ∃ cv,v.cells.toList[j]?=some cv∧okCell D st tm w g c cv:=by
 rcases h with ⟨_,rfl⟩ | ⟨_,c,rfl,rfl⟩
 ·obtain ⟨us,rfl,h1,h2⟩:=O.agg
  exact ⟨by simpa [Value.cells] using h1,fun j c hj=>by simpa [Value.cells] using h2 j c hj⟩
 ·obtain ⟨hp,k1,k2,k3⟩:=O.one
  have hv:v.cells.toList=[v]:=by cases v<;>simp [Value.cells] at hp ⊢
  rw [hv]
  refine ⟨rfl,fun j c hj=>?_⟩
  cases j with
  | zero=>simp only [List.getElem?_cons_zero,sj_] at hj;subst hj;exact ⟨_,rfl,k1,k2,k3⟩
  | succ j=>simp at hj
theorem x_s9 {t:TypeId} {agg:Bool} {e:ET} {tm:Array Value} {w:World}:∀ (l:List (Nat×Operand)) (j:Nat) (r:List e.val) {D:Key×Nat→Prop} {st s1:St} {g:Gh},Inv D st tm w g→
  (elemsR E t agg e j l).Ends st r s1→
  ∃ g',Goes D D st tm w g s1 tm w g'∧r.length=l.length∧(∀ (k:Nat) p v,l[k]?=some p→r[k]?=some v→p.1=j+k∧rep w g'.fr e v ((⟨tm,ds⟩ : Act).eval p.2).cells.toList)
 | [],j,r,D,st,s1,g,I,he=>by
  obtain ⟨rfl,rfl⟩:=Pr.er he
  exact ⟨g, .refl I,rfl,fun k p v h=>by simp at h⟩
 | (q,x)::l,j,r,D,st,s1,g,I,he=>by
  simp only [elemsR] at he
  split at he
  ·rename_i hq
   obtain ⟨a,s,h1,h2⟩:=Pr.eb he
   obtain ⟨hs,O⟩:=x_bp (ds:=ds) I h1
   rw [hs] at h2
   obtain ⟨ls,s2,h3,h4⟩:=Pr.eb h2
   obtain ⟨v,s3,h5,h6⟩:=Pr.eb h4
   obtain ⟨r',s4,h7,h8⟩:=Pr.eb h6
   obtain ⟨rfl,rfl⟩:=Pr.er h8
   have key:∃ g1,Goes D D st tm w g s2 tm w g1∧Lvs w g1 g1.fr ls ((⟨tm,ds⟩ : Act).eval x).cells.toList:=by
    split at h3
    ·obtain ⟨hl,hc⟩:=x_fp (agg:=true) O (.inl ⟨rfl,rfl⟩)
     exact x_gl _ _ _ I h3 hl hc
    ·obtain ⟨hl,hc⟩:=x_fp (agg:=false) O (.inr ⟨rfl,_,rfl,rfl⟩)
     exact x_gl _ _ _ I h3 hl hc
    ·exact (Pr.ef h3).elim
   obtain ⟨g1,G1,hls⟩:=key
   obtain ⟨hs3,hp⟩:=x_ke h5 hls
   rw [hs3] at h7
   obtain ⟨g2,G2,hl2,hk⟩:=x_s9 l (j+1) r' G1.inv h7
   refine ⟨g2,G1.trans G2,by simp [hl2],fun k p u hp' hu=>?_⟩
   cases k with
   | zero=>
    simp only [List.getElem?_cons_zero,sj_] at hp' hu
    subst hp'
    subst hu
    exact ⟨hq,rep_stp G2.stp (x_p5 _ _ _ hp)⟩
   | succ k=>
    obtain ⟨h9,h10⟩:=hk k p u (by simpa using hp') (by simpa using hu)
    exact ⟨by omega,h10⟩
  ·exact (Pr.ef he).elim
theorem x_ww (sz:Nat) (f:Nat×Operand→Value):∀ (l:List (Nat×Operand)) (j:Nat) (cells:List Value),(∀ (k:Nat) p,l[k]?=some p→p.1=j+k∧(f p).cells.size=sz)→
  (j+l.length)*sz≤cells.length→
  ∃ out:List Value,Instr.fill (fun i=>some (i*sz,sz)) cells.toArray (l.map fun p=>(p.1,f p))=some out.toArray∧out.length=cells.length∧
   (∀ m,m<j*sz→out[m]?=cells[m]?)∧ ∀ (k:Nat) p,l[k]?=some p→(out.drop ((j+k)*sz)).take sz=(f p).cells.toList
 | [],j,cells,h,hl=>⟨cells,rfl,rfl,fun _ _=>rfl,fun k p hp=>by simp at hp⟩
 | p::l,j,cells,h,hl=>by
  obtain ⟨hp,hs⟩:=h 0 p rfl
  have hl':j*sz+sz+l.length*sz≤cells.length:=by
   simp only [List.length_cons] at hl
   rw [show j+(l.length+1)=j+1+l.length by omega,Nat.add_mul,Nat.add_mul,Nat.one_mul] at hl
   omega
  have hput:=putl (j*sz) (f p).cells.toList 0 cells (by simp [hs];omega)
  simp only [Nat.add_zero,Array.length_toList,hs] at hput
  obtain ⟨out,h1,h2,h3,h4⟩:=x_ww sz f l (j+1) (cells.take (j*sz)++(f p).cells.toList++cells.drop (j*sz+sz)) (fun k q hq=>by
   obtain ⟨h5,h6⟩:=h (k+1) q (by simpa using hq)
   exact ⟨by omega,h6⟩) (by rw [Nat.add_mul,Nat.add_mul,Nat.one_mul];simp [hs];omega)
  have hlen:(cells.take (j*sz)++(f p).cells.toList++cells.drop (j*sz+sz)).length=cells.length:=by simp [hs];omega
  refine ⟨out,?_,h2.trans hlen,fun m hm=>?_,fun k q hq=>?_⟩
  ·rw [←h1]
   simp only [List.map_cons,Instr.fill,hp,Nat.add_zero]
   have:¬ ((f p).cells.size≠sz || j*sz+(f p).cells.size>cells.toArray.size)=true:=by simp [hs];omega
   rw [if_neg this]
   congr 1
   rw [←hput]
   generalize (f p).cells=A
   obtain ⟨ul⟩:=A
   simp
  ·rw [h3 m (by rw [Nat.add_mul];omega)]
   simp only [List.getElem?_append,List.length_append,List.length_take,List.getElem?_take]
   rw [if_pos (by omega),if_pos (by omega),if_pos hm]
  ·cases k with
   | zero=>
    simp only [List.getElem?_cons_zero,sj_] at hq
    subst hq
    simp only [Nat.add_zero]
    apply List.ext_getElem?
    intro m
    rw [List.getElem?_take]
    split
    ·rename_i hm
     rw [List.getElem?_drop,h3 _ (by rw [Nat.add_mul];omega)]
     simp only [List.getElem?_append,List.length_append,List.length_take,Array.length_toList,hs]
     rw [show min (j*sz) cells.length=j*sz by omega,if_pos (by omega),if_neg (by omega)]
     congr 1;omega
    ·rw [List.getElem?_eq_none (by simp [hs];omega)]
   | succ k=>
    have:=h4 k q (by simpa using hq)
    rw [show j+(k+1)=j+1+k by omega]
    exact this
theorem x_su {t:TypeId} {n:Nat} {ps:Array (Nat×Operand)} (TO:x_fu P T.ti) (hf:x_o5 D (i+1)) (ho:o.op= .buildSlice t n ps) (I:Inv D st tm w g) (he:(opR T keep i o).Ends st () st') :
  OpOk P o D st tm w g st' (i+1) ds:=by
 simp only [opR,ho] at he
 split at he
 ·rename_i ti hti
  split at he
  ·rename_i te hte
   split at he
   ·rename_i hn
    simp only [Bool.and_eq_true,decide_eq_true_eq,Bool.not_eq_true'] at hn
    obtain ⟨⟨⟨n1,n2⟩,n3⟩,n4⟩:=hn
    obtain ⟨ti',te',k1,k2,k3,k4,k5,k6,k7⟩:=x_ri TO n3
    have e1:ti=ti':=Option.some.inj (hti.symm.trans k1)
    subst e1
    obtain ⟨inf,z,z1,z2,z3,z4,z5,z6⟩:=x_nh TO hte n2
    obtain ⟨r,s,h1,h2⟩:=Pr.eb he
    obtain ⟨g1,G1,hl,hr⟩:=x_s9 (ds:=ds) _ _ _ I h1
    have hpl:ps.toList.length=n:=by simpa using n1
    have hsz:∀ (k:Nat) p,ps.toList[k]?=some p→p.1=0+k∧((⟨tm,ds⟩ : Act).eval p.2).cells.size=te.e.cells:=fun k p hp=>by
     have hk:=(List.getElem?_eq_some_iff.1 hp).1
     obtain ⟨h3,h4⟩:=hr k p (r[k]'(by omega)) hp (ge_ (by omega))
     exact ⟨h3,by have:=h4.length;simpa using this⟩
    obtain ⟨out,f1,f2,f3,f4⟩:=x_ww te.e.cells (fun p=>(⟨tm,ds⟩ : Act).eval p.2) ps.toList 0 ((Array.range (n*te.e.cells)).map ((if n*te.e.cells=0 then #[] else z.cells)[· % (if n*te.e.cells=0 then #[] else z.cells).size]!)).toList hsz (by simp [n1])
    have hout:out.length=n*te.e.cells:=by rw [f2];simp
    obtain ⟨D',g',G,hD⟩:=x_lv (cells:=out.toArray) (ty:=ti.el) (fz:=(0,0)) (xs:=r) (cap:=n) (x:=te.e) G1.inv (Grow.alloc w _) hf (Nat.le_refl _) (x_ou w _) (by omega)
     (by simp [hout]) (fun j hj=>by simp) (fun j hj=>by
      have hjp:j<ps.toList.length:=by omega
      have h5:=f4 j _ (ge_ hjp)
      rw [Nat.zero_add] at h5
      rw [List.toList_toArray,h5]
      exact (hr j _ _ (ge_ hjp) (ge_ hj)).2) h2
    rw [show r.length=n by omega] at G
    refine x_gr (v:= .slice (some ⟨w.heap.size,0,none⟩) n n) ?_ ⟨D',g',rfl,G1.trans G,hD⟩
    have hmap:((ps.map fun p=>(p.1,(⟨tm,ds⟩ : Act).eval p.2)).toList)=ps.toList.map fun p=>(p.1,(⟨tm,ds⟩ : Act).eval p.2):=by simp
    have hb:∀ w,(Instr.buildSlice t n (ps.map fun p=>(p.1,(⟨tm,ds⟩ : Act).eval p.2))).run P w= .ok (.slice (some ⟨w.heap.size,0,none⟩) n n) (w.alloc (.cells out.toArray ti.el)):=by
     intro w
     have hle:¬ (n*te.e.cells>2 ^ 24):=by omega
     rw [Array.toArray_toList] at f1
     simp only [Instr.buildSlice,Sem.run_bind,run_underlying k5,k7,Result.andThen_ok,hle,if_false,Sem.run_ite,hmap]
     by_cases h0:n*te.e.cells=0
     ·simp only [h0,if_true] at f1 ⊢
      simp only [Sem.run_pure,Result.andThen_ok,f1]
      simp [newRow]
     ·simp only [h0,if_false] at f1 ⊢
      simp only [zeroValue,typeInfo,Sem.run_bind,run_program,Result.andThen_ok,z1,z2,Sem.run_pure,f1]
      simp [newRow]
    simp only [execOp,ho,Sem.run_bind,hb,Result.andThen_ok,Sem.run_pure]
   ·exact (Pr.ef he).elim
  ·exact (Pr.ef he).elim
 ·exact (Pr.ef he).elim
end Go.Kn
namespace Go.Kn
variable [Ctx]
variable {P:Program} {D:Key×Nat→Prop} {st st':St} {tm:Array Value} {w w1:World} {g:Gh} {ds:List Deferred} {E:Env}
variable {T:Tab} {keep:Bool} {i:Nat} {o:Oper}
theorem x_o1 {w:World} {b o:Nat} {v:Value} {cs:Array Value} {ty:TypeId} {fz:Nat×Nat} (h:w.heap[b]?=some (.cells cs ty fz)) :
  (w.setCell ⟨b,o,none⟩ v).heap[b]?=some (.cells (cs.setIfInBounds o v) ty fz)∧(∀ b',b'≠b→(w.setCell ⟨b,o,none⟩ v).heap[b']?=w.heap[b']?):=by
 constructor
 ·simp [World.setCell,Array.getElem?_modify,h]
 ·intro b' hb'
  simp [World.setCell,Array.getElem?_modify,Ne.symm hb']
structure Wrote (w w1:World) (b:Nat) (cs cs':Array Value) (ty:TypeId) (fz:Nat×Nat):Prop where
 was:w.heap[b]?=some (.cells cs ty fz)
 now:w1.heap[b]?=some (.cells cs' ty fz)
 oth:∀ b',b'≠b→w1.heap[b']?=w.heap[b']?
 size:w1.heap.size=w.heap.size
 rest:w1.os=w.os∧w1.tape=w.tape∧w1.output=w.output
theorem x_ls {b:Nat} {ty:TypeId} {fz:Nat×Nat}:∀ (vs:List Value) (o:Nat) (w:World) (cs:Array Value),w.heap[b]?=some (.cells cs ty fz)→o+vs.length≤cs.size→
  Wrote w (w.setCells b o vs) b cs (cs.toList.take o++vs++cs.toList.drop (o+vs.length)).toArray ty fz
 | [],o,w,cs,h,hl=>⟨h,by simpa [World.setCells] using h,fun _ _=>rfl,rfl,rfl,rfl,rfl⟩
 | v::r,o,w,cs,h,hl=>by
  simp only [List.length_cons] at hl
  obtain ⟨h1,h2⟩:=x_o1 (o:=o) (v:=v) h
  have ih:=x_ls r (o+1) (w.setCell ⟨b,o,none⟩ v) (cs.setIfInBounds o v) h1 (by simp;omega)
  refine ⟨h,?_,fun b' hb'=>(ih.oth b' hb').trans (h2 b' hb'),by rw [World.setCells,ih.size];simp,ih.rest⟩
  rw [World.setCells,ih.now]
  congr 2
  have:=putl 0 (v::r) o cs.toList (by simp;omega)
  have h3:=putl 0 r (o+1) (cs.setIfInBounds o v).toList (by simp;omega)
  simp only [Nat.zero_add,Array.toArray_toList,List.zipIdx_cons,List.foldl_cons] at this h3
  rw [←h3,this]
theorem x_0o {fr:Nat→Prop}:∀ (e:ET) (v:e.val) (cs:List Value),rep w fr e v cs→ ∀ c∈cs,c.oneCell'=true
 | .i _,_,_,h,c,hc=>by simp only [rep] at h;subst h;simp at hc;subst hc;rfl
 | .b,_,_,h,c,hc=>by simp only [rep] at h;subst h;simp at hc;subst hc;rfl
 | .s,_,_,h,c,hc=>by simp only [rep] at h;subst h;simp at hc;subst hc;rfl
 | .er,_,_,h,c,hc=>by
  obtain ⟨x,rfl,h⟩:=h
  simp only [List.mem_singleton] at hc
  subst hc
  cases c<;>simp [isErr] at h<;>rfl
 | .u,_,_,h,c,hc=>by simp only [rep] at h;subst h;simp at hc
 | .p x y,v,_,h,c,hc=>by
  obtain ⟨a,b,rfl,h1,h2⟩:=h
  rcases List.mem_append.1 hc with hc | hc
  ·exact x_0o x v.1 a h1 c hc
  ·exact x_0o y v.2 b h2 c hc
 | .sl x,v,_,h,c,hc=>by
  obtain ⟨sv,rfl,h⟩:=h
  simp only [List.mem_singleton] at hc
  subst hc
  rcases h with ⟨_,rfl,_⟩ | ⟨b,o,cap,cs,ty,fz,rfl,_⟩<;>rfl
theorem x_yo (I:Inv D st tm w g) {h:Pl} (hd:aAt st h=some .dead) {b:Nat} (hb:g.γ b= .row h) (hO:∀ b',b'≠b→w1.heap[b']?=w.heap[b']?) (hsz:w1.heap.size=w.heap.size)
  (ho:w1.os=w.os∧w1.tape=w.tape∧w1.output=w.output) (p:Pl):Goes D D st tm w g st tm w1 (g.tag h (.row p)):=by
 have key:∀ b' t',g.γ b'=t'→t'≠ .row h→(g.tag h (.row p)).γ b'=t'∧w1.heap[b']?=w.heap[b']?:=fun b' t' h1 h2=>by
  have:b'≠b:=fun e=>by subst e;rw [hb] at h1;exact h2 h1.symm
  exact ⟨by simp only [Gh.tag];rw [if_neg (by rw [h1];exact h2)];exact h1,hO b' this⟩
 have S:Stp w g w1 (g.tag h (.row p)):=⟨fun b h=>key b _ h (by simp),fun b h=>key b _ h (by simp),fun b hl h=>key b _ h (by simp),by rw [hsz];exact Nat.le_refl _,ho⟩
 refine (⟨I.len,rfl,fun _ _=>rfl,fun q _ c hc=>?_,S.fr,S.lent,fun q t x v _ ha b' h=>key b' _ h ?_,
  fun n _ _=>⟨.same _,rfl⟩,fun n h=>h.elim,fun q h=>h.elim,fun q h=>h.elim,fun n t cs hb=>?_,fun b' hb'=>?_,fun _ h=>h⟩ :
  Chg D D st st tm tm w w1 g (g.tag h (.row p)) (fun _=>False) (fun _=>False)).goes I S
 ·cases hq:q.bx with
  | true=>exact I.bcell (g':=g.tag h (.row p)) (w':=w1) rfl (fun n b h=>key b _ h (by simp)) hq hc
  | false=>simp [cAt,hq]
 ·intro e
  simp only [Tg.row.injEq] at e
  subst e
  rw [hd] at ha
  simp at ha
 ·obtain ⟨h1,h2,vals,ty,h3,h4⟩:=I.box n t cs hb
  exact ⟨.inr ⟨cs,hb,rfl⟩,h1,(key _ _ h2 (by simp)).1,vals,ty,by
   show w1.heap[g.bb n]?=_
   rw [(key _ _ h2 (by simp)).2];exact h3,h4⟩
 ·rw [hsz]
  refine I.uni b' fun e=>hb' ?_
  simp only [Gh.tag]
  rw [e]
  simp
theorem x_w4 (I:Inv D st tm w g) {s:Nat} (hs:x_o5 D s) {x:ET} {xs:List x.val} {v:Value}
  (hr:∀ d,o.dst=some d→x_br w (g.own ⟨false,d,0⟩) true (rep w g.fr x) x.cells xs v) (he:(putD o (.one (.val (.x s) (.sl x) xs))).Ends st () st') :
  ∃ D',Goes D D' st tm w g st' (dput o tm v) w g∧ ∀ k t,D' (k,t)→D (k,t)∨t=s:=by
 unfold putD at he
 unfold dput
 cases hd:o.dst with
 | none=>rw [hd] at he;obtain ⟨_,rfl⟩:=Pr.er he;exact ⟨D, .refl I,fun _ _ h=> .inl h⟩
 | some d=>
  rw [hd] at he
  obtain ⟨_,rfl⟩:=Pr.er (Pr.ends_wr he)
  by_cases h:d<tm.size
  ·exact ⟨_,x_u1 I h (.refl I _) (hs _) (hr d hd),fun k t h=>h.imp id fun h=>congrArg Prod.snd h⟩
  ·have h1:∀ v,tm.setIfInBounds d v=tm:=fun v=>by simp [Array.setIfInBounds,h]
   have h2:∀ sc,Wr.put st (.sl d sc)=st:=fun sc=>by
    have hl:st.sl.length≤d:=by rw [I.len];exact Nat.le_of_not_lt h
    simp [Wr.put,List.set_eq_of_length_le hl]
   simp only [h1,h2]
   exact ⟨D, .refl I,fun _ _ h=> .inl h⟩
theorem x_0l {t u el ty:TypeId} {inf:TypeInfo} {z:Value} (ht:P.underlying t=some (.slice el)) (hu:∃ d,P.underlying u=some d∧ ∀ k,d≠ .int k) (hi:P.info? el=some inf) (hz:inf.zero=some z)
  {vb:Value} {n:Nat} {news:List Value} (hlen:∀ w,(Builtin.lenOf vb).run P w= .ok n w) (w:World)
  (hfirst:∀ w':World,w'.heap=w.heap→(Builtin.firstCells inf.size n vb).run P w'= .ok news.toArray w') (base:Option Addr) (sLen sCap:Nat) :
  (sLen+n≤sCap→(Builtin.append_ #[t,u] ty #[.slice base sLen sCap,vb]).run P w=(match base with
   | none=> .ok (.slice none (sLen+n) sCap) w
   | some a=>((storeCells (a.add (sLen*inf.size)) news).run P w).andThen fun _ w=> .ok (.slice (some a) (sLen+n) sCap) w))∧
  (sCap<sLen+n→(sLen+n)*(inf.bytes+1)≤x_en→ ∀ olds:List Value,(∀ w':World,w'.heap=w.heap→(Builtin.firstCells inf.size sLen (.slice base sLen sCap)).run P w'= .ok olds.toArray w')→
   (Builtin.append_ #[t,u] ty #[.slice base sLen sCap,vb]).run P w= .ok (.slice (some ⟨w.heap.size,0,none⟩) (sLen+n) (grownCap w (sLen+n) sCap el))
    (w.drew.alloc (.cells (olds++news++(Builtin.zeroCells z.cells (grownCap w (sLen+n) sCap el-(sLen+n))).toList).toArray el))):=by
 obtain ⟨d,hd,hdi⟩:=hu
 have hnz:(match d with | .int _=>true | _=>false)=false:=by
  cases d with
  | int k=>exact absurd rfl (hdi k)
  | _=>rfl
 constructor
 ·intro hr
  cases base with
  | none=>simp [Builtin.append_,run_underlying ht,run_underlying hd,hnz,sizeOf,typeInfo,hi,hlen,hr,hfirst w rfl]
  | some a=>simp [Builtin.append_,run_underlying ht,run_underlying hd,hnz,sizeOf,typeInfo,hi,hlen,hr,hfirst w rfl]
 ·intro hr hb olds ho
  have hn:¬ (sLen+n≤sCap):=by omega
  have hb1:(sLen+n)*inf.bytes+(sLen+n)≤70368744177664:=by rw [Nat.mul_add,Nat.mul_one] at hb;exact hb
  have h63:¬ (9223372036854775807<((sLen:Int)+(n:Int))):=by omega
  have h48:¬ (281474976710656<Builtin.nextslicecap (sLen+n) sCap*inf.bytes):=by
   have:=nextslicecap_le hr
   have:=Nat.mul_le_mul_right inf.bytes this
   rw [Nat.mul_assoc] at this
   omega
  simp [Builtin.append_,run_underlying ht,run_underlying hd,hnz,sizeOf,typeInfo,zeroValue,hi,hz,hlen,hn,h63,h48,Question.forced,hfirst w.drew rfl,ho w.drew rfl,newRow,grownCap]
  congr 2
  apply Array.ext'
  simp [List.append_assoc]
theorem x_w7 {t u el ty:TypeId} {inf:TypeInfo} {z:Value} (ht:P.underlying t=some (.slice el)) (hu:P.underlying u=some (.int .i64)) (hi:P.info? el=some inf) (hz:inf.zero=some z) (hzs:z.cells.size=inf.size)
  {n:Nat} (w:World) (hn0:n*(inf.bytes+1)≤x_en) (base:Option Addr) (sLen sCap:Nat) :
  (sLen+n≤sCap→(Builtin.append_ #[t,u] ty #[.slice base sLen sCap, .int .i64 n]).run P w=(match base with
   | none=> .ok (.slice none (sLen+n) sCap) w
   | some a=>((storeCells (a.add (sLen*inf.size)) (Builtin.zeroCells z.cells n).toList).run P w).andThen fun _ w=> .ok (.slice (some a) (sLen+n) sCap) w))∧
  (sCap<sLen+n→(sLen+n)*(inf.bytes+1)≤x_en→ ∀ olds:List Value,(∀ w':World,w'.heap=w.heap→(Builtin.firstCells inf.size sLen (.slice base sLen sCap)).run P w'= .ok olds.toArray w')→
   (Builtin.append_ #[t,u] ty #[.slice base sLen sCap, .int .i64 n]).run P w= .ok (.slice (some ⟨w.heap.size,0,none⟩) (sLen+n) (grownCap w (sLen+n) sCap el))
    (w.drew.alloc (.cells (olds++(Builtin.zeroCells z.cells n).toList++(Builtin.zeroCells z.cells (grownCap w (sLen+n) sCap el-(sLen+n))).toList).toArray el))):=by
 have hg:x_en=70368744177664:=rfl
 have h0:n*inf.bytes+n≤70368744177664:=by rw [Nat.mul_add,Nat.mul_one] at hn0;omega
 have hw:IntKind.i64.wrap (n:Int)=(n:Int):=by
  simp only [IntKind.wrap,IntKind.bits,IntKind.signed]
  simp
  omega
 have hneg:¬ ((n:Int)<0):=by omega
 have hbig:¬ (281474976710656<(n:Int)*(inf.bytes:Int)):=by
  rw [←Int.natCast_mul];omega
 have hze:n*inf.size=0→Builtin.zeroCells z.cells n= #[]:=fun h=>by
  apply Array.size_eq_zero_iff.1
  simp [Builtin.zeroCells,hzs,h]
 constructor
 ·intro hr
  cases base with
  | none=>
   by_cases h:n*inf.size=0
   ·have h':=h
    simp only [Nat.mul_eq_zero] at h'
    simp [Builtin.append_,run_underlying ht,run_underlying hu,sizeOf,typeInfo,zeroValue,hi,hz,hw,hneg,hbig,asInt,asIntOf,hr,h']
   ·have h':=h
    simp only [Nat.mul_eq_zero] at h'
    simp [Builtin.append_,run_underlying ht,run_underlying hu,sizeOf,typeInfo,zeroValue,hi,hz,hw,hneg,hbig,asInt,asIntOf,hr,h']
  | some a=>
   by_cases h:n*inf.size=0
   ·have hz0:=hze h
    simp only [Nat.mul_eq_zero] at h
    simp [Builtin.append_,run_underlying ht,run_underlying hu,sizeOf,typeInfo,zeroValue,hi,hz,hw,hneg,hbig,asInt,asIntOf,hr,h,hz0]
   ·have h9:=h
    simp only [Nat.mul_eq_zero] at h
    simp [h9,Builtin.append_,run_underlying ht,run_underlying hu,sizeOf,typeInfo,zeroValue,hi,hz,hw,hneg,hbig,asInt,asIntOf,hr,h]
 ·intro hr hb olds ho
  have hn:¬ (sLen+n≤sCap):=by omega
  have hb1:(sLen+n)*inf.bytes+(sLen+n)≤70368744177664:=by rw [Nat.mul_add,Nat.mul_one] at hb;exact hb
  have h63:¬ (9223372036854775807<((sLen:Int)+(n:Int))):=by omega
  have h48:¬ (281474976710656<Builtin.nextslicecap (sLen+n) sCap*inf.bytes):=by
   have:=nextslicecap_le hr
   have:=Nat.mul_le_mul_right inf.bytes this
   rw [Nat.mul_assoc] at this
   omega
  by_cases h:n*inf.size=0
  ·have hz0:=hze h
   simp only [Nat.mul_eq_zero] at h
   simp [Builtin.append_,run_underlying ht,run_underlying hu,sizeOf,typeInfo,zeroValue,hi,hz,hw,hneg,hbig,asInt,asIntOf,hn,h63,h48,Question.forced,h,ho w.drew rfl,newRow,grownCap,hz0]
   congr 2
   apply Array.ext'
   simp
  ·have h9:=h
   simp only [Nat.mul_eq_zero] at h
   simp [h9,Builtin.append_,run_underlying ht,run_underlying hu,sizeOf,typeInfo,zeroValue,hi,hz,hw,hneg,hbig,asInt,asIntOf,hn,h63,h48,Question.forced,h,ho w.drew rfl,newRow,grownCap]
   congr 2
   apply Array.ext'
   simp [List.append_assoc]
end Go.Kn
namespace Go.Kn
variable [Ctx]
variable {P:Program} {D:Key×Nat→Prop} {st st':St} {tm:Array Value} {w w1:World} {g:Gh} {ds:List Deferred} {E:Env}
variable {T:Tab} {keep:Bool} {i:Nat} {o:Oper}
def x_o7 (w:World) (fr:Nat→Prop) (e:ET) (xs:List e.val) (cs:List Value):Prop:= ∀ j (h:j<xs.length),rep w fr e xs[j] ((cs.drop (j*e.cells)).take e.cells)
theorem x_qr {A B:List Value} {k n:Nat} (h:k+n≤A.length):((A++B).drop k).take n=(A.drop k).take n:=by
 rw [List.drop_append_of_le_length (by omega),List.take_append_of_le_length (by simp;omega)]
theorem x_tr {j n sz:Nat} (h:j<n):j*sz+sz≤n*sz:=by
 have:(j+1)*sz≤n*sz:=Nat.mul_le_mul_right _ h
 rw [Nat.add_mul] at this;omega
theorem x_o7.append {fr:Nat→Prop} {e:ET} {xs ys:List e.val} {a b c:List Value} (hx:x_o7 w fr e xs a) (hy:x_o7 w fr e ys b) (ha:a.length=xs.length*e.cells) (hb:ys.length*e.cells≤b.length) :
  x_o7 w fr e (xs++ys) (a++b++c):=by
 intro j hj
 rw [List.length_append] at hj
 rcases Nat.lt_or_ge j xs.length with h | h
 ·rw [List.getElem_append_left h,List.append_assoc,x_qr (by rw [ha];exact x_tr h)]
  exact hx j h
 ·rw [List.getElem_append_right h,List.append_assoc,List.drop_append]
  have h1:=x_tr (sz:=e.cells) (show j-xs.length<ys.length by omega)
  have h2:j*e.cells-a.length=(j-xs.length)*e.cells:=by rw [ha,Nat.sub_mul]
  have h3:a.drop (j*e.cells)=[]:=List.drop_eq_nil_of_le (by rw [ha];exact Nat.mul_le_mul_right _ h)
  rw [h3,List.nil_append,h2,x_qr (by omega)]
  exact hy _ (by omega)
theorem x_br.rows {ok:Nat→Prop} {wr:Bool} {e:ET} {xs:List e.val} {v:Value} (h:x_br w ok wr (rep w g.fr e) e.cells xs v) :
  ∃ cs:List Value,cs.length=xs.length*e.cells∧x_o7 w g.fr e xs cs∧(∀ w':World,(Builtin.lenOf v).run P w'= .ok xs.length w')∧
   (∀ w':World,w'.heap=w.heap→(Builtin.firstCells e.cells xs.length v).run P w'= .ok cs.toArray w'):=by
 rcases h with ⟨a0,rfl,rfl,_⟩ | ⟨b,o,cap,cs,ty,fz,rfl,h2,h3,h4,h5,h6,h7⟩
 ·refine ⟨[],by simp,fun j h=>by simp at h,fun w'=>by simp [Builtin.lenOf],fun w' _=>?_⟩
  cases a0 with
  | none=>simp [Builtin.firstCells]
  | some a0=>
   have hl0:=run_loadCells_list (P:=P) w' a0 [] (by simp)
   simp only [List.length_nil] at hl0
   simp [Builtin.firstCells,hl0]
 ·have hle:o+xs.length*e.cells≤cs.size:=by
   have:=Nat.mul_le_mul_right e.cells h3
   cases wr<;>simp at h5<;>omega
  refine ⟨(cs.toList.drop o).take (xs.length*e.cells),by simp;omega,fun j hj=>?_,fun w'=>by simp [Builtin.lenOf],fun w' hw=>?_⟩
  ·have h8:=h7 j hj
   have h9:=x_tr (sz:=e.cells) hj
   rw [List.drop_take,List.take_take,List.drop_drop,show min e.cells (xs.length*e.cells-j*e.cells)=e.cells by omega]
   exact h8
  ·have hl:((cs.toList.drop o).take (xs.length*e.cells)).length=xs.length*e.cells:=by simp;omega
   have:=run_loadCells_list (P:=P) w' ⟨b,o,none⟩ ((cs.toList.drop o).take (xs.length*e.cells)) (fun j v hj=>by
    rw [x_lu,x_hr]
    simp only [bcell,hw,h4]
    rw [List.getElem?_take] at hj
    split at hj
    ·rw [List.getElem?_drop] at hj;simpa using hj
    ·simp at hj)
   rw [hl] at this
   simpa [Builtin.firstCells] using this
theorem x_xm (s:ByteArray) (w:World) (fr:Nat→Prop) :
  ∃ cs:List Value,cs.length=(x_co s).length*(ET.i .u8).cells∧x_o7 w fr (.i .u8) (x_co s) cs∧(∀ w':World,(Builtin.lenOf (.string s)).run P w'= .ok (x_co s).length w')∧
   (∀ w':World,w'.heap=w.heap→(Builtin.firstCells (ET.i .u8).cells (x_co s).length (.string s)).run P w'= .ok cs.toArray w'):=by
 have hl:(x_co s).length=s.size:=by simp [x_co]
 refine ⟨s.data.toList.map fun b=> .int .u8 (b.toNat:Int),by simp [x_co,ET.cells],fun j hj=>?_,fun w'=>by simp [Builtin.lenOf,hl],fun w' hw=>?_⟩
 ·have hj':j<(s.data.toList.map fun b=>Value.int .u8 (b.toNat:Int)).length:=by simpa [x_co] using hj
  simp only [ET.cells,Nat.mul_one,rep]
  rw [List.drop_eq_getElem_cons hj']
  simp [x_co]
 ·simp only [Builtin.firstCells,hl,Sem.run_pure]
  have hd:(s.extract 0 s.size).data=s.data:=by
   rw [ByteArray.data_extract]
   exact Array.extract_size
  rw [hd]
  congr 1
  apply Array.ext'
  simp
theorem x_uc {c:Cell} {a b:LV} {s1 s2:St} (h:(look c).Ends st a s1) (k:(x_rz c).Ends st b s2):b=a:=by
 cases c with
 | val m e v=>exact (Pr.ef k).elim
 | nil x=>obtain ⟨rfl,_⟩:=Pr.er h;obtain ⟨rfl,_⟩:=Pr.er k;rfl
 | ref p t=>
  obtain ⟨x,s,h1,h2⟩:=Pr.eb h
  obtain ⟨h1,rfl⟩:=x_bn h1
  obtain ⟨rfl,_⟩:=Pr.er h2
  obtain ⟨y,s,k1,k2⟩:=Pr.eb k
  obtain ⟨k1,rfl⟩:=x_bn k1
  obtain ⟨⟨⟩,s',k2,k3⟩:=Pr.eb k2
  obtain ⟨rfl,_⟩:=Pr.er k3
  rw [h1] at k1
  simp only [sj_,Cell.val.injEq,ET.sl.injEq,true_and] at k1
  obtain ⟨x1,x2⟩:=x
  obtain ⟨y1,y2⟩:=y
  obtain ⟨rfl,k1⟩:=k1
  have:=eq_of_heq k1
  subst this
  rfl
 | win p t lo hi=>
  obtain ⟨x,s,h1,h2⟩:=Pr.eb h
  obtain ⟨h1,rfl⟩:=x_bn h1
  obtain ⟨rfl,_⟩:=Pr.er h2
  obtain ⟨y,s,k1,k2⟩:=Pr.eb k
  obtain ⟨k1,rfl⟩:=x_bn k1
  obtain ⟨⟨⟩,s',k2,k3⟩:=Pr.eb k2
  obtain ⟨rfl,_⟩:=Pr.er k3
  rw [h1] at k1
  simp only [sj_,Cell.val.injEq,ET.sl.injEq,true_and] at k1
  obtain ⟨x1,x2⟩:=x
  obtain ⟨y1,y2⟩:=y
  obtain ⟨rfl,k1⟩:=k1
  have:=eq_of_heq k1
  subst this
  rfl
 | _=>exact (Pr.ef h).elim
theorem mem_goes {g1:Gh} (I:Inv D st tm w g) (M:Mem D st tm w g w1 g1 (fun _=>False)):Goes D D st tm w g st tm w1 g1:=by
 refine (⟨I.len,rfl,fun _ _=>rfl,fun q _ c hc=>?_,M.stp.fr,M.stp.lent,fun q t x v hq ha b h=>M.live q t x v hq ha b h,
  fun n _ _=>⟨.same _,rfl⟩,fun n h=>h.elim,fun q h=>h.elim,fun q h=>h.elim,fun n t cs hb=>?_,M.uni,fun _ h=>h⟩ :
  Chg D D st st tm tm w w1 g g1 (fun _=>False) (fun _=>False)).goes I M.stp
 ·cases hq:q.bx with
  | true=>exact I.bcell M.bb M.box hq hc
  | false=>simp [cAt,hq]
 ·obtain ⟨h1,h2,vals,ty,h3,h4⟩:=I.box n t cs hb
  exact ⟨.inr ⟨cs,hb,by rw [M.bb]⟩,h1,by rw [M.bb];exact (M.box _ _ h2).1,vals,ty,by rw [M.bb,(M.box _ _ h2).2];exact h3,h4⟩
theorem x_xq {e:ET} {v v':List e.val} {t u el ty:TypeId} {inf:TypeInfo} {z va vb:Value} (I:Inv D st' tm w g) (hsz:inf.size=e.cells) (hzs:z.cells.size=e.cells)
  (hrow:(va= .slice none 0 0∧v=[])∨ ∃ h,aAt st' h=some .dead∧x_br w (g.own h) true (rep w g.fr e) e.cells v va)
  {news:List Value} (hn:news.length=v'.length*e.cells) (hr:x_o7 w g.fr e v' news) (RA:∀ (base:Option Addr) (sLen sCap:Nat),
   (sLen+v'.length≤sCap→(Builtin.append_ #[t,u] ty #[.slice base sLen sCap,vb]).run P w=(match base with
    | none=> .ok (.slice none (sLen+v'.length) sCap) w
    | some a=>((storeCells (a.add (sLen*inf.size)) news).run P w).andThen fun _ w=> .ok (.slice (some a) (sLen+v'.length) sCap) w))∧
   (sCap<sLen+v'.length→(sLen+v'.length)*(inf.bytes+1)≤x_en→ ∀ olds:List Value,(∀ w':World,w'.heap=w.heap→(Builtin.firstCells inf.size sLen (.slice base sLen sCap)).run P w'= .ok olds.toArray w')→
    (Builtin.append_ #[t,u] ty #[.slice base sLen sCap,vb]).run P w= .ok (.slice (some ⟨w.heap.size,0,none⟩) (sLen+v'.length) (grownCap w (sLen+v'.length) sCap el))
     (w.drew.alloc (.cells (olds++news++(Builtin.zeroCells z.cells (grownCap w (sLen+v'.length) sCap el-(sLen+v'.length))).toList).toArray el))))
  (hb:(v.length+v'.length)*(inf.bytes+1)≤x_en) (p:Pl) :
  ∃ vr w1 g1,(Builtin.append_ #[t,u] ty #[va,vb]).run P w= .ok vr w1∧Goes D D st' tm w g st' tm w1 g1∧x_br w1 (g1.own p) true (rep w1 g1.fr e) e.cells (v++v') vr:=by
 have grown:∀ (base:Option Addr) (cap:Nat) (olds:List Value),va= .slice base v.length cap→cap<v.length+v'.length→olds.length=v.length*e.cells→x_o7 w g.fr e v olds→
   (∀ w':World,w'.heap=w.heap→(Builtin.firstCells e.cells v.length va).run P w'= .ok olds.toArray w')→
   ∃ vr w1 g1,(Builtin.append_ #[t,u] ty #[va,vb]).run P w= .ok vr w1∧Goes D D st' tm w g st' tm w1 g1∧x_br w1 (g1.own p) true (rep w1 g1.fr e) e.cells (v++v') vr:=by
  intro base cap olds hva hcap hol hor hof
  subst hva
  rw [←hsz] at hof
  have hrun:=(RA base v.length cap).2 hcap hb olds hof
  have G:=Grow.drew w (.cells (olds++news++(Builtin.zeroCells z.cells (grownCap w (v.length+v'.length) cap el-(v.length+v'.length))).toList).toArray el)
  have hge:=grownCap_ge w (v.length+v'.length) cap el
  refine ⟨_,_,g.new w.heap.size (.row p),hrun,?_, .inr ⟨w.heap.size,0,_,_,_,_,by rw [List.length_append],by simp [Gh.own,Gh.new],by rw [List.length_append];exact hge,x_v9 w _,?_,fun _ j hj=>by simp,fun j hj=>?_⟩⟩
  ·exact mem_goes I (new_mem (t:= .row p) I G (Nat.le_refl _) (by simp) (fun _=>False))
  ·simp only [if_true,Nat.zero_add,List.size_toArray,List.length_append,Array.length_toList,size_zeroCells,hol,hn,hzs]
   rw [←Nat.add_mul, ←Nat.add_mul]
   exact Nat.mul_le_mul_right _ (by omega)
  ·have:=(x_o7.append (c:=(Builtin.zeroCells z.cells (grownCap w (v.length+v'.length) cap el-(v.length+v'.length))).toList) hor hr hol (by omega)) j hj
   rw [Nat.zero_add]
   exact rep_new I G (Nat.le_refl _) (by simpa using this)
 rcases hrow with ⟨rfl,rfl⟩ | ⟨h,hdead,hrow⟩
 ·by_cases h0:v'.length=0
  ·have hv':v'=[]:=List.length_eq_zero_iff.1 h0
   subst hv'
   have:=(RA none 0 0).1 (by simp)
   exact ⟨_,w,g,this, .refl I,x_br.nil (by simp) rfl⟩
  ·exact grown none 0 [] rfl (by simp;omega) (by simp) (fun j h=>by simp at h) (fun w' _=>by simp [Builtin.firstCells])
 ·obtain ⟨olds,k1,k2,k3,k4⟩:=hrow.rows (P:=P)
  have hrow0:=hrow
  rcases hrow with ⟨a0,rfl,rfl,ha0⟩ | ⟨b,q,cap,cs,bt,fz,rfl,h2,h3,h4,h5,h6,h7⟩
  ·obtain rfl:=ha0 rfl
   by_cases h0:v'.length=0
   ·have hv':v'=[]:=List.length_eq_zero_iff.1 h0
    subst hv'
    have:=(RA none 0 0).1 (by simp)
    exact ⟨_,w,g,this, .refl I,x_br.nil (by simp) rfl⟩
   ·exact grown none 0 [] rfl (by simp;omega) (by simp) (fun j h=>by simp at h) (fun w' _=>by simp [Builtin.firstCells])
  ·by_cases hroom:v.length+v'.length≤cap
   ·have hfit:q+v.length*e.cells+news.length≤cs.size:=by
     have:=Nat.mul_le_mul_right e.cells hroom
     rw [Nat.add_mul] at this
     simp only [if_true] at h5
     omega
    have W:=x_ls news (q+v.length*e.cells) w cs h4 hfit
    have hst:(storeCells ((⟨b,q,none⟩ : Addr).add (v.length*inf.size)) news).run P w= .ok () (w.setCells b (q+v.length*e.cells) news):=by
     rw [hsz,x_lu]
     have:=run_storeCells_cells (P:=P) b (q+v.length*e.cells) news 0 w (fun j hj=>by
      rw [x_hr]
      simp only [bcell,h4,Nat.add_zero]
      rw [Array.getElem?_eq_getElem (by omega)]
      rfl) (fun j hj=>by
      have:=h6 rfl (q+v.length*e.cells+j) (by omega)
      simp only [World.frozen?,h4,Nat.add_zero]
      simpa using this) (fun c hc=>by
      obtain ⟨m,hm,rfl⟩:=List.mem_iff_getElem.1 hc
      have he0:0<e.cells:=by
       rcases Nat.eq_zero_or_pos e.cells with h | h
       ·rw [hn,h] at hm;simp at hm
       ·exact h
      have hj:m / e.cells<v'.length:=by
       rw [Nat.div_lt_iff_lt_mul he0, ←hn];exact hm
      refine x_0o e _ _ (hr (m / e.cells) hj) _ ?_
      have hmm:m=m / e.cells*e.cells+m % e.cells:=by rw [Nat.mul_comm];exact (Nat.div_add_mod m e.cells).symm
      have hlt:=Nat.mod_lt m he0
      refine List.mem_iff_getElem?.2 ⟨m % e.cells,?_⟩
      rw [List.getElem?_take,if_pos hlt,List.getElem?_drop, ←hmm,ge_ hm])
     simpa using this
    have hrun:=(RA (some ⟨b,q,none⟩) v.length cap).1 hroom
    simp only [hst,Result.andThen_ok] at hrun
    have hbrow:g.γ b= .row h:=h2
    refine ⟨_,_,g.tag h (.row p),hrun,x_yo I hdead hbrow W.oth W.size W.rest p, .inr ⟨b,q,cap,_,bt,fz,by rw [List.length_append],x_t2 hbrow,by rw [List.length_append];exact hroom,W.now,?_,fun _ j hj=>h6 rfl j ?_,fun j hj=>?_⟩⟩
    ·simp only [if_true] at h5 ⊢
     simp only [List.size_toArray,List.length_append,List.length_take,List.length_drop,Array.length_toList]
     omega
    ·simp only [List.size_toArray,List.length_append,List.length_take,List.length_drop,Array.length_toList] at hj
     omega
    ·have key:∀ {y:e.val} {c:List Value},rep w g.fr e y c→rep (w.setCells b (q+v.length*e.cells) news) (g.tag h (.row p)).fr e y c:=fun hy=>
      rep.mono (fun b' hb'=>tag_fr hb') (fun b' hb'=>W.oth b' fun e=>by subst e;rw [show g.γ b'= .fr from hb'] at hbrow;simp at hbrow) _ _ _ hy
     rw [List.length_append] at hj
     refine key ?_
     rw [List.toList_toArray]
     rcases Nat.lt_or_ge j v.length with hlt | hge
     ·rw [List.getElem_append_left hlt]
      have h8:=x_tr (sz:=e.cells) hlt
      rw [List.append_assoc,x_qr (by simp;omega),List.drop_take,List.take_take,show min e.cells (q+v.length*e.cells-(q+j*e.cells))=e.cells by omega]
      exact h7 j hlt
     ·rw [List.getElem_append_right hge]
      have h8:=x_tr (sz:=e.cells) (show j-v.length<v'.length by omega)
      have hl1:(cs.toList.take (q+v.length*e.cells)).length=q+v.length*e.cells:=by simp;omega
      have h9:q+j*e.cells-(q+v.length*e.cells)=(j-v.length)*e.cells:=by rw [Nat.sub_mul];omega
      have h10:v.length*e.cells≤j*e.cells:=Nat.mul_le_mul_right _ hge
      rw [List.append_assoc,List.drop_append,List.drop_eq_nil_of_le (by rw [hl1];omega),List.nil_append,hl1,h9,x_qr (by omega)]
      exact hr _ (by omega)
   ·exact grown _ cap olds rfl (by omega) k1 k2 k4
theorem x_xi (TO:x_fu P T.ti) (I:Inv D st tm w g) {t u ty:TypeId} {x y r:SC} {va vb:Value} (O:Opd D st tm w g x va) (O':Opd D st tm w g y vb) (he:(x_00 T.toEnv i t u x y).Ends st r st') :
  ∃ e, ∃ xs:List e.val,r= .one (.val (.x (i+1)) (.sl e) xs)∧ ∀ p, ∃ vr w1 g1,(Builtin.append_ #[t,u] ty #[va,vb]).run P w= .ok vr w1∧Goes D D st tm w g st' tm w1 g1∧
   x_br w1 (g1.own p) true (rep w1 g1.fr e) e.cells xs vr:=by
 unfold x_00 at he
 split at he
 ·rename_i c
  obtain ⟨a,s0,h1,h2⟩:=Pr.eb he
  have hcr:=O.one.2.2.2
  obtain ⟨rfl,hlr⟩:=x_mu I h1 hcr
  obtain ⟨b,s1,h3,h4⟩:=Pr.eb h2
  obtain ⟨rfl,hlb⟩:=x_fn I O' h3
  split at h4
  ·rename_i e v
   split at h4
   ·exact (Pr.ef h4).elim
   ·rename_i hel
    obtain ⟨ti,te,k1,k2,k3,k4,k5,k6,k7⟩:=x_ri TO (t:=t) (e:=e) (by simpa using hel)
    obtain ⟨v',s2,h5,h6⟩:=Pr.eb h4
    obtain ⟨inf,z,z1,z2,z3,z4,z5,z6⟩:=x_nh TO k2 k4
    have RAdef:=fun (news:List Value)=> ∀ (base:Option Addr) (sLen sCap:Nat),
     (sLen+v'.length≤sCap→(Builtin.append_ #[t,u] ty #[.slice base sLen sCap,vb]).run P w=(match base with
      | none=> .ok (.slice none (sLen+v'.length) sCap) w
      | some a=>((storeCells (a.add (sLen*inf.size)) news).run P w).andThen fun _ w=> .ok (.slice (some a) (sLen+v'.length) sCap) w))∧
     (sCap<sLen+v'.length→(sLen+v'.length)*(inf.bytes+1)≤x_en→ ∀ olds:List Value,(∀ w':World,w'.heap=w.heap→(Builtin.firstCells inf.size sLen (.slice base sLen sCap)).run P w'= .ok olds.toArray w')→
      (Builtin.append_ #[t,u] ty #[.slice base sLen sCap,vb]).run P w= .ok (.slice (some ⟨w.heap.size,0,none⟩) (sLen+v'.length) (grownCap w (sLen+v'.length) sCap ti.el))
       (w.drew.alloc (.cells (olds++news++(Builtin.zeroCells z.cells (grownCap w (sLen+v'.length) sCap ti.el-(sLen+v'.length))).toList).toArray ti.el)))
    have hsrc:s2=s1∧ ∃ cs:List Value,cs.length=v'.length*e.cells∧x_o7 w g.fr e v' cs∧(v'.length*(inf.bytes+1)≤x_en→ ∀ (base:Option Addr) (sLen sCap:Nat),
     (sLen+v'.length≤sCap→(Builtin.append_ #[t,u] ty #[.slice base sLen sCap,vb]).run P w=(match base with
      | none=> .ok (.slice none (sLen+v'.length) sCap) w
      | some a=>((storeCells (a.add (sLen*inf.size)) cs).run P w).andThen fun _ w=> .ok (.slice (some a) (sLen+v'.length) sCap) w))∧
     (sCap<sLen+v'.length→(sLen+v'.length)*(inf.bytes+1)≤x_en→ ∀ olds:List Value,(∀ w':World,w'.heap=w.heap→(Builtin.firstCells inf.size sLen (.slice base sLen sCap)).run P w'= .ok olds.toArray w')→
      (Builtin.append_ #[t,u] ty #[.slice base sLen sCap,vb]).run P w= .ok (.slice (some ⟨w.heap.size,0,none⟩) (sLen+v'.length) (grownCap w (sLen+v'.length) sCap ti.el))
       (w.drew.alloc (.cells (olds++cs++(Builtin.zeroCells z.cells (grownCap w (sLen+v'.length) sCap ti.el-(sLen+v'.length))).toList).toArray ti.el)))):=by
     clear RAdef
     have z3':inf.size=e.cells:=by rw [z3,k3]
     have z5':z.cells.size=e.cells:=by rw [z5,k3]
     have z6':∀ (w:World) (fr:Nat→Prop),rep w fr e e.zero z.cells.toList:=by rw [←k3];exact z6
     have full:(∃ d,P.underlying u=some d∧ ∀ k,d≠ .int k)→ ∀ cs:List Value,(∀ w':World,(Builtin.lenOf vb).run P w'= .ok v'.length w')→
       (∀ w':World,w'.heap=w.heap→(Builtin.firstCells e.cells v'.length vb).run P w'= .ok cs.toArray w')→_:=fun hu cs hlen hfirst=>by
      rw [←z3'] at hfirst
      exact fun base sLen sCap=>x_0l (ty:=ty) k5 hu z1 z2 hlen w hfirst base sLen sCap
     split at h5
     ·rename_i sb
      split at h5
      ·rename_i hs
       obtain ⟨hc,rfl⟩:=x_fq h5
       obtain ⟨he8,hv8⟩:=x_f7 hc
       obtain rfl:=ET.sl.inj he8
       subst hv8
       obtain rfl:=x_mi hlb
       obtain ⟨cs,m1,m2,m3,m4⟩:=x_xm (P:=P) sb w g.fr
       exact ⟨rfl,cs,m1,m2,fun _=>full ⟨_,isTy_s TO hs,by simp⟩ cs m3 m4⟩
      ·exact (Pr.ef h5).elim
     ·rename_i n
      split at h5
      ·rename_i hs
       obtain ⟨hn0,h5⟩:=Pr.ek h5
       have hn0:=of_decide_eq_true hn0
       obtain ⟨rfl,rfl⟩:=Pr.er h5
       have hvb:vb= .int .i64 n:=by
        have:lrep w g g.rd false (.i .i64) n vb:=hlb
        simpa [lrep,rep] using this
       obtain ⟨m,rfl⟩:=Int.eq_ofNat_of_zero_le hn0
       subst hvb
       refine ⟨rfl,(Builtin.zeroCells z.cells m).toList,?_,fun j hj=>?_,fun hb base sLen sCap=>?_⟩
       ·simp [Builtin.zeroCells,z5']
       ·simp only [Int.ofNat_eq_natCast,Int.toNat_natCast,List.length_replicate] at hj
        have:=x_zq z.cells m j hj
        rw [z5'] at this
        have e1:(Builtin.zeroCells z.cells m).toList=(madeCells z.cells (m*e.cells)).toList:=by
         unfold Builtin.zeroCells madeCells
         rw [z5']
        rw [e1,this]
        simpa using z6' w g.fr
       ·simp only [Int.ofNat_eq_natCast,Int.toNat_natCast,List.length_replicate] at hb ⊢
        exact x_w7 (ty:=ty) k5 (isTy_i TO hs) z1 z2 (by rw [z5',z3']) w hb base sLen sCap
      ·exact (Pr.ef h5).elim
     ·rename_i e' w' _
      split at h5
      ·rename_i hs
       obtain ⟨hc,rfl⟩:=x_fq h5
       obtain ⟨he8,hv8⟩:=x_f7 hc
       subst he8
       subst hv8
       obtain ⟨_,_,_,_,_,_,q5,_⟩:=x_ri TO hs
       obtain ⟨cs,m1,m2,m3,m4⟩:=x_br.rows (P:=P) (show x_br w g.rd false (rep w g.fr e) e.cells _ vb from hlb)
       exact ⟨rfl,cs,m1,m2,fun _=>full ⟨_,q5,by simp⟩ cs m3 m4⟩
      ·exact (Pr.ef h5).elim
    clear RAdef
    obtain ⟨rfl,news,n1,n2,n3⟩:=hsrc
    simp only [k1,Option.bind_some,k2] at h6
    obtain ⟨hb,h6⟩:=Pr.ek h6
    have hb:=of_decide_eq_true hb
    obtain ⟨q,s3,h7,h8⟩:=Pr.eb h6
    obtain ⟨rfl,rfl⟩:=Pr.er h8
    have hq:=x_uc h1 h7
    subst hq
    obtain ⟨G,x0,v0,e0,hrow⟩:=x_uj I h7 hcr
    cases e0
    refine ⟨e,v++v',rfl,fun p=>?_⟩
    rw [←z4] at hb
    subst k3
    obtain ⟨vr,w1,g1,a1,a2,a3⟩:=x_xq (ty:=ty) (v:=v) (v':=v') G.inv z3 z5 hrow n1 n2 (n3 (Nat.le_trans (Nat.mul_le_mul_right _ (by omega)) hb)) hb p
    exact ⟨vr,w1,g1,a1,G.trans a2,a3⟩
  ·exact (Pr.ef h4).elim
 ·exact (Pr.ef he).elim
end Go.Kn
namespace Go.Kn
variable [Ctx]
variable {P:Program} {D:Key×Nat→Prop} {st st':St} {tm:Array Value} {w w1:World} {g:Gh} {ds:List Deferred} {E:Env}
variable {T:Tab} {keep:Bool} {i:Nat} {o:Oper}
theorem x_nu {c:Call} {b:Builtin} (ho:o.op= .call c) (hc:c.callee= .builtin b) (ρ : Operand→Value) (w:World) :
  (execOp ρ o).run P w=(builtin b c.argTypes o.type (c.args.map fun | .const _=>true | _=>false) (c.args.map ρ)).run P w:=by
 simp only [execOp,ho,resolve,hc,Sem.run_bind,Sem.run_pure,Result.andThen_ok,invoke]
 rfl
theorem x_08 {c:Call} {b:Builtin} (TO:x_fu P T.ti) (hf:x_o5 D (i+1)) (ho:o.op= .call c) (hc:c.callee= .builtin b) (I:Inv D st tm w g) (he:(opR T keep i o).Ends st () st') :
  OpOk P o D st tm w g st' (i+1) ds:=by
 simp only [opR,ho,hc] at he
 obtain ⟨cs,s,h1,h2⟩:=Pr.eb he
 obtain ⟨rfl,hl,Os⟩:=x_k7 (ds:=ds) I _ _ _ _ h1
 obtain ⟨r,s1,h3,h4⟩:=Pr.eb h2
 have hargs:(c.args.toList.map (⟨tm,ds⟩ : Act).eval).toArray=c.args.map (⟨tm,ds⟩ : Act).eval:=by rw [←Array.toList_map,Array.toArray_toList]
 have plain:b= .len∨b= .min∨b= .max∨b= .cap→OpOk P o D s tm w g st' (i+1) ds:=fun hb=>by
  obtain ⟨rfl,v,hr,O⟩:=x_uy (ty:=o.type) (consts:=c.args.map fun | .const _=>true | _=>false) TO I hb Os (by simpa using hl) h3
  rw [hargs] at hr
  exact x_dd I (by rw [x_nu ho hc,hr]) O h4
 cases b
 case len=>exact plain (.inl rfl)
 case min=>exact plain (.inr (.inl rfl))
 case max=>exact plain (.inr (.inr (.inl rfl)))
 case cap=>exact plain (.inr (.inr (.inr rfl)))
 case append=>
  unfold x_jz at h3
  split at h3
  ·rename_i heq;exact absurd heq (by simp)
  ·rename_i heq;exact absurd heq (by simp)
  ·rename_i heq;exact absurd heq (by simp)
  ·rename_i heq;exact absurd heq (by simp)
  ·rename_i x y _
   have hargs':=hargs
   generalize c.args.toList.map (⟨tm,ds⟩ : Act).eval=vs at Os hargs
   cases Os with
   | cons O Os=>
    rename_i va vs
    cases Os with
    | cons O' Os=>
     rename_i vb vs
     cases Os with
     | nil=>
      have hlen:c.args.toList.length=2:=by
       have:=congrArg Array.size hargs
       simpa using this.symm
      have htys:c.argTypes= #[c.argTypes.toList.headD 0,(c.argTypes.toList.drop 1).headD 0]:=by
       rw [hlen] at hl
       generalize c.argTypes=A at hl
       obtain ⟨l⟩:=A
       simp only at hl
       match l,hl with
       | [a,b],_=>rfl
      obtain ⟨e,xs,rfl,hk⟩:=x_xi (ty:=o.type) TO I O O' h3
      obtain ⟨vr,w1,g1,a1,a2,a3⟩:=hk (match o.dst with | some d=>⟨false,d,0⟩ | none=>⟨false,0,0⟩)
      obtain ⟨D',G,hD⟩:=x_w4 (s:=i+1) a2.inv hf (fun d hd=>by rw [hd] at a3;exact a3) h4
      refine x_gr (v:=vr) (w':=w1) ?_ ⟨D',g1,rfl,a2.trans G,hD⟩
      rw [x_nu ho hc, ←hargs,htys]
      simp only [builtin,Sem.run_bind,a1,Result.andThen_ok,Sem.run_pure]
  ·exact (Pr.ef h3).elim
 all_goals
  unfold x_jz at h3
  split at h3<;>first | exact (Pr.ef h3).elim | (rename_i heq;exact absurd heq (by simp))
end Go.Kn
namespace Go.Kn
variable [Ctx]
variable {P:Program} {D:Key×Nat→Prop} {st st':St} {tm:Array Value} {w w1:World} {g:Gh} {ds:List Deferred} {E:Env}
variable {T:Tab} {keep:Bool} {i:Nat} {o:Oper}
def nbSt (st:St) (n s:Nat) (cs:List Cell):St:= { st with bx:=st.bx.set n (some (s,cs)) }
theorem x_tp (st:St) (n s:Nat) (cs:List Cell) (m:Nat):(nbSt st n s cs).bx.getD m none=if m=n∧n<st.bx.length then some (s,cs) else st.bx.getD m none:=by
 simp only [nbSt,gd_]
 by_cases h:m=n
 ·subst h
  by_cases hl:m<st.bx.length
  ·simp [hl]
  ·simp [hl]
 ·simp [h,List.getElem?_set_ne (Ne.symm h)]
def Gh.box (g:Gh) (b n:Nat):Gh:= { γ:=fun c=>if c=b then .bx n else g.γ c,bb:=fun m=>if m=n then b else g.bb m }
def plusB (D:Key×Nat→Prop) (n s:Nat) (own:Nat→Prop) (t:Key×Nat):Prop:=D t∨t=(.b n,s)∨ ∃ j,own j∧t=(.c ⟨true,n,j⟩,s)
theorem x_lp (I:Inv D st tm w g) (G:Grow w w1) {n s:Nat} (hs:x_o5 D s) {b:Nat} {vals:Array Value} {ty:TypeId} (hb:w.heap.size≤b) (hh:w1.heap[b]?=some (.cells vals ty (0,0)))
  {cs:List Cell} (hl:vals.size=cs.length) (own:Nat→Prop) (hcs:∀ (j:Nat) c,cs[j]?=some c→ ∃ cv,vals[j]?=some cv∧
   (okCell D st tm w g c cv∨(own j∧ ∃ x,c= .val (.x s) (.sl x) []∧cv= .slice none 0 0))) :
  Goes D (plusB D n s own) st tm w g (nbSt st n s cs) tm w1 (g.box b n):=by
 have hlt:b<w1.heap.size:=(Array.getElem?_eq_some_iff.1 hh).1
 have key:∀ b' t',g.γ b'=t'→t'≠ .out→(g.box b n).γ b'=t'∧w1.heap[b']?=w.heap[b']?:=fun b' t' h h'=>by
  have h1:b'<w.heap.size:=I.uni b' (by rw [h];exact h')
  have:b'≠b:=by omega
  exact ⟨by simp [Gh.box,this,h],G.old b' h1⟩
 have ha:∀ q:Pl, ¬ (q.bx=true∧q.n=n)→aAt (nbSt st n s cs) q=aAt st q:=fun q hq=>by
  cases hb:q.bx with
  | false=>simp [aAt,hb,gets,nbSt]
  | true=>
   have:q.n≠n:=fun e=>hq ⟨hb,e⟩
   simp only [aAt,hb,if_true,getb,x_tp,this,false_and,if_false]
 have hc:∀ q:Pl, ¬ (q.bx=true∧q.n=n)→ ∀ c,aAt st q=some c→cAt tm w1 (g.box b n) q=cAt tm w g q:=fun q hq c hc=>by
  cases hb:q.bx with
  | false=>simp [cAt,hb]
  | true=>
   have hne:q.n≠n:=fun e=>hq ⟨hb,e⟩
   simp only [aAt,hb,if_true,getb] at hc
   cases hs:st.bx.getD q.n none with
   | none=>rw [hs] at hc;simp at hc
   | some bx=>
    obtain ⟨t,cs'⟩:=bx
    obtain ⟨_,h2,_⟩:=I.box q.n t cs' hs
    simp only [cAt,hb,if_true,Gh.box,hne,if_false]
    exact x_ig (key _ _ h2 (by simp)).2 _
 have hnew:∀ (q:Pl),(q.bx=true∧q.n=n)→ ∀ c,aAt (nbSt st n s cs) q=some c→cs[q.c]?=some c:=fun q hq c h=>by
  simp only [aAt,hq.1,if_true,getb,x_tp,hq.2,true_and] at h
  split at h
  ·simpa using h
  ·rename_i hn
   rw [gd_,List.getElem?_eq_none (by omega)] at h
   simp at h
 have hlive:∀ p t x (v:List x.val),D (.c p,t)→aAt (nbSt st n s cs) p=some (.val (.x t) (.sl x) v)→aAt st p=some (.val (.x t) (.sl x) v)∧cAt tm w1 (g.box b n) p=cAt tm w g p:=by
  intro p t x v hD hp
  by_cases hq:p.bx=true∧p.n=n
  ·exfalso
   obtain ⟨cv,_,hk⟩:=hcs _ _ (hnew p hq _ hp)
   rcases hk with hk | ⟨_,y,hk,_⟩
   ·exact hk.1.elim
   ·simp only [Cell.val.injEq,Md.x.injEq] at hk
    rw [hk.1] at hD
    exact hs _ hD
  ·rw [ha p hq] at hp
   exact ⟨hp,hc p hq _ hp⟩
 have hcell:∀ q c cv,noX c→(∀ t∈stC p0 c,D t)→x_b5 st tm w g p0 c cv→x_b5 (nbSt st n s cs) tm w1 (g.box b n) q c cv:=by
  intro q c cv hx ht h
  match c,hx,ht,h with
  | .val .f e v,_,_,h=>exact lrep.mono h (fun b' hb'=>key b' _ hb' (by simp)) fun b' hb'=>key b' _ hb' (by simp)
  | .val .r e v,_,_,h=>exact lrep.mono h (fun b' hb'=>hb'.elim (fun h=>⟨.inl (key b' _ h (by simp)).1,(key b' _ h (by simp)).2⟩) fun h=>⟨.inr (key b' _ h (by simp)).1,(key b' _ h (by simp)).2⟩) fun b' hb'=>key b' _ hb' (by simp)
  | .ref p t,_,ht,h=>intro x v hp;obtain ⟨h1,h2⟩:=hlive p t x v (ht _ (by simp [stC])) hp;rw [h2];exact h x v h1
  | .win p t lo hi,_,ht,h=>intro x v hp;obtain ⟨h1,h2⟩:=hlive p t x v (ht _ (by simp [stC])) hp;rw [h2];exact h x v h1
  | .nil _,_,_,h=>exact h
  | .ptr m t off,_,ht,h=>
   intro ho
   obtain ⟨cs',h1⟩:=x_ek.1 ho
   rw [x_tp] at h1
   split at h1
   ·simp only [sj_,Prod.mk.injEq] at h1
    have:=ht (.b m,t) (by simp [stC])
    rw [←h1.1] at this
    exact absurd this (hs _)
   ·rename_i hn
    by_cases hm:m=n
    ·subst hm
     have hl:¬ m<st.bx.length:=fun h=>hn ⟨rfl,h⟩
     rw [gd_,List.getElem?_eq_none (Nat.le_of_not_lt hl)] at h1
     simp at h1
    ·have:=h (x_ek.2 ⟨cs',h1⟩)
     rw [this]
     simp [Gh.box,hm]
  | .dead,_,_,_=>trivial
 have S:Stp w g w1 (g.box b n):=⟨fun b h=>key b _ h (by simp),fun b h=>key b _ h (by simp),fun b' hl h=>by
  have:b'≠b:=by omega
  exact ⟨by simp [Gh.box,this,h],G.old b' hl⟩,G.size,G.oth⟩
 refine (⟨by simp [nbSt,I.len],rfl,ha,hc,S.fr,S.lent,fun q t x v _ _ b' h=>key b' _ h (by simp),fun m _ _=>⟨.same _,rfl⟩,fun _ h=>h.elim,fun q hq c hqc=>?_,fun q hq t x v hqc=>?_,
  fun m t cs' hm=>?_,fun b' hb'=>?_,fun t h=> .inl h⟩ : Chg D (plusB D n s own) st (nbSt st n s cs) tm tm w w1 g (g.box b n) (fun q=>q.bx=true∧q.n=n) (fun _=>False)).goes I S
 ·have hj:=hnew q hq c hqc
  obtain ⟨cv,h1,h2⟩:=hcs _ _ hj
  have hcat:cAt tm w1 (g.box b n) q=some cv:=by
   simp only [cAt,hq.1,if_true,Gh.box,hq.2,bcell,hh]
   exact h1
  rcases h2 with h2 | ⟨hown,x,rfl,rfl⟩
  ·refine ⟨fun t ht=> .inl (h2.2.1 t (by rw [noX_st (q':=p0) h2.1] at ht;exact ht)),cv,hcat,hcell q c cv h2.1 h2.2.1 h2.2.2⟩
  ·refine ⟨fun t ht=> .inr (.inr ⟨q.c,hown,?_⟩),_,hcat,x,rfl,x_br.nil rfl rfl⟩
   simp only [stC,List.mem_singleton] at ht
   rw [ht]
   obtain ⟨bx,m,c⟩:=q
   simp only at hq
   obtain ⟨rfl,rfl⟩:=hq
   rfl
 ·left
  obtain ⟨cv,_,hk⟩:=hcs _ _ (hnew q hq _ hqc)
  rcases hk with hk | ⟨_,y,hk,_⟩
  ·exact hk.1.elim
  ·simp only [Cell.val.injEq,Md.x.injEq] at hk
   rw [hk.1]
   exact hs _
 ·rw [x_tp] at hm
  split at hm
  ·rename_i hmn
   obtain ⟨rfl,_⟩:=hmn
   simp only [sj_,Prod.mk.injEq] at hm
   obtain ⟨rfl,rfl⟩:=hm
   exact ⟨.inl (hs _), .inr (.inl rfl),by simp [Gh.box],vals,ty,by simp [Gh.box,hh],hl⟩
  ·rename_i hn
   have hmn:m≠n:=fun e=>by
    subst e
    rw [gd_,List.getElem?_eq_none (Nat.le_of_not_lt fun h=>hn ⟨rfl,h⟩)] at hm
    simp at hm
   obtain ⟨h1,h2,vals',ty',h3,h4⟩:=I.box m t cs' hm
   have hbb:(g.box b n).bb m=g.bb m:=by simp [Gh.box,hmn]
   exact ⟨.inr ⟨cs',hm,hbb⟩, .inl h1,by rw [hbb];exact (key _ _ h2 (by simp)).1,vals',ty',by rw [hbb,(key _ _ h2 (by simp)).2];exact h3,h4⟩
 ·by_cases e:b'=b
  ·subst e;exact hlt
  ·simp only [Gh.box,e,if_false] at hb'
   exact Nat.lt_of_lt_of_le (I.uni b' hb') G.size
theorem x_wk {D':Key×Nat→Prop} {st':St} {w1:World} {g':Gh} {n s b:Nat} (hD:D' (.b n,s)) (hb:g'.bb n=b):Opd D' st' tm w1 g' (.one (.ptr n s 0)) (.pointer (some ⟨b,0,none⟩)):=
 x_eu (by simp) trivial (fun t ht=>by simp only [stC,List.mem_singleton] at ht;rw [ht];exact hD) fun _=>by rw [hb]
theorem x_to {s:Nat}:∀ (e:ET) (l r:List Value),x_gz e l=some r→ ∃ c,l=c++r∧(zeroCells s e).length=c.length∧
  ∀ (j:Nat) x,(zeroCells s e)[j]?=some x→ ∃ cv,c[j]?=some cv∧(okCell D st tm w g x cv∨(True∧ ∃ y,x= .val (.x s) (.sl y) []∧cv= .slice none 0 0)):=by
 have one:∀ (e:ET) (l r:List Value),(∀ x y,e≠ .p x y)→(∀ x,e≠ .sl x)→x_gz e l=some r→zeroCells s e=x_d9 e→ ∃ c,l=c++r∧(zeroCells s e).length=c.length∧
   ∀ (j:Nat) x,(zeroCells s e)[j]?=some x→ ∃ cv,c[j]?=some cv∧(okCell D st tm w g x cv∨(True∧ ∃ y,x= .val (.x s) (.sl y) []∧cv= .slice none 0 0)):=by
  intro e l r _ _ h he
  obtain ⟨c,h1,h2,h3⟩:=x_jk (D:=D) (st:=st) (tm:=tm) (w:=w) (g:=g) e l r h
  rw [he]
  exact ⟨c,h1,h2,fun j x hx=>by obtain ⟨cv,h4,h5⟩:=h3 j x hx;exact ⟨cv,h4, .inl h5⟩⟩
 intro e
 induction e with
 | p x y ihx ihy=>
  intro l r h
  simp only [x_gz,Option.bind_eq_some_iff] at h
  obtain ⟨m,h1,h2⟩:=h
  obtain ⟨c,rfl,hl,hc⟩:=ihx l m h1
  obtain ⟨d,rfl,hl',hd⟩:=ihy m r h2
  refine ⟨c++d,by simp,by simp [zeroCells,hl,hl'],fun j z hz=>?_⟩
  simp only [zeroCells,List.getElem?_append] at hz ⊢
  rw [←hl]
  split at hz
  ·rename_i a;rw [if_pos a];exact hc j z hz
  ·rename_i a;rw [if_neg a];exact hd _ z hz
 | sl x ih=>
  intro l r h
  unfold x_gz at h
  split at h<;>simp_all
  refine ⟨[.slice none 0 0],rfl,rfl,fun j z hz=>?_⟩
  cases j with
  | zero=>simp only [zeroCells,List.getElem?_cons_zero,sj_] at hz;subst hz;exact ⟨_,rfl, .inr ⟨⟨_,rfl⟩,rfl⟩⟩
  | succ j=>simp [zeroCells] at hz
 | i k=>intro l r h;exact one _ l r (by simp) (by simp) h rfl
 | b=>intro l r h;exact one _ l r (by simp) (by simp) h rfl
 | s=>intro l r h;exact one _ l r (by simp) (by simp) h rfl
 | er=>intro l r h;exact one _ l r (by simp) (by simp) h rfl
 | u=>intro l r h;exact one _ l r (by simp) (by simp) h rfl
theorem ok_alloc {t:TypeId} (TO:x_fu P T.ti) (hf:x_o5 D (i+1)) (ho:o.op= .alloc t) (I:Inv D st tm w g) (he:(opR T keep i o).Ends st () st'):OpOk P o D st tm w g st' (i+1) ds:=by
 simp only [opR,ho] at he
 split at he
 ·rename_i n ti hd hti
  split at he
  ·rename_i hp
   have he:=Pr.ends_wr he
   obtain ⟨inf,z,hi,hz1,hz2⟩:=TO.zptr hti hp
   have hgo:=x_lp (w1:=w.alloc (.cells z.cells t)) (n:=n) I (Grow.alloc w _) hf (Nat.le_refl _) (x_ou w _) (cs:=[.dead]) (by simp [hz2]) (fun _=>True) (by
    intro j x hx
    cases j with
    | succ j=>simp at hx
    | zero=>
     simp only [List.getElem?_cons_zero,sj_] at hx
     subst hx
     refine ⟨z.cells[0],by simp [hz2], .inl ?_⟩
     exact ⟨trivial,fun t h=>by simp [stC] at h,trivial⟩)
   have hO:=x_wk (tm:=tm) (D':=plusB D n (i+1) fun _=>True) (st':=nbSt st n (i+1) [.dead]) (w1:=w.alloc (.cells z.cells t)) (g':=g.box w.heap.size n) (n:=n) (s:=i+1) (b:=w.heap.size) (.inr (.inl rfl)) (by simp [Gh.box])
   refine x_gr (v:= .pointer (some ⟨w.heap.size,0,none⟩)) (w':=w.alloc (.cells z.cells t)) ?_ ⟨_,_,rfl,hgo.trans (x_gh hgo.inv hO he),fun k t h=>?_⟩
   ·simp [execOp,ho,Instr.alloc,zeroValue,typeInfo,hi,hz1,newVar,newRow]
   ·rcases h with h | h | ⟨j,_,h⟩
    ·exact .inl h
    ·exact .inr (congrArg Prod.snd h)
    ·exact .inr (congrArg Prod.snd h)
  ·rename_i hp
   have hp:ti.ptr=false:=by simpa using hp
   have he:=Pr.ends_wr he
   obtain ⟨inf,hi,hsz,_,hz⟩:=TO.info hti
   obtain ⟨z,hz1,hz2,_,_⟩:=hz hp
   obtain ⟨c,h1,h2,h3⟩:=x_to (D:=D) (st:=st) (tm:=tm) (w:=w) (g:=g) (s:=i+1) ti.e _ _ hz2
   rw [List.append_nil] at h1
   have hgo:=x_lp (w1:=w.alloc (.cells z.cells t)) (n:=n) I (Grow.alloc w _) hf (Nat.le_refl _) (x_ou w _) (cs:=zeroCells (i+1) ti.e) (by rw [h2, ←h1];simp) (fun _=>True) (by
    intro j x hx
    obtain ⟨cv,h4,h5⟩:=h3 j x hx
    exact ⟨cv,by rw [←h1] at h4;simpa using h4,h5⟩)
   have hO:=x_wk (tm:=tm) (D':=plusB D n (i+1) fun _=>True) (st':=nbSt st n (i+1) (zeroCells (i+1) ti.e)) (w1:=w.alloc (.cells z.cells t)) (g':=g.box w.heap.size n) (n:=n) (s:=i+1) (b:=w.heap.size) (.inr (.inl rfl)) (by simp [Gh.box])
   refine x_gr (v:= .pointer (some ⟨w.heap.size,0,none⟩)) (w':=w.alloc (.cells z.cells t)) ?_ ⟨_,_,rfl,hgo.trans (x_gh hgo.inv hO he),fun k t h=>?_⟩
   ·simp [execOp,ho,Instr.alloc,zeroValue,typeInfo,hi,hz1,newVar,newRow]
   ·rcases h with h | h | ⟨j,_,h⟩
    ·exact .inl h
    ·exact .inr (congrArg Prod.snd h)
    ·exact .inr (congrArg Prod.snd h)
 ·exact (Pr.ef he).elim
theorem ok_box {t:TypeId} {x:Operand} (hf:x_o5 D (i+1)) (ho:o.op= .box t x) (I:Inv D st tm w g) (he:(opR T keep i o).Ends st () st'):OpOk P o D st tm w g st' (i+1) ds:=by
 simp only [opR,ho] at he
 split at he
 ·rename_i n hd
  obtain ⟨a,s,h1,h2⟩:=Pr.eb he
  obtain ⟨rfl,O⟩:=x_bp (ds:=ds) I h1
  obtain ⟨cs,s',h3,h4⟩:=Pr.eb h2
  have key:s'=s∧cs.length=((⟨tm,ds⟩ : Act).eval x).cells.toList.length∧ ∀ (j:Nat) c,cs[j]?=some c→ ∃ cv,((⟨tm,ds⟩ : Act).eval x).cells.toList[j]?=some cv∧okCell D s tm w g c cv:=by
   split at h3
   ·obtain ⟨rfl,rfl⟩:=Pr.er h3
    exact ⟨rfl,x_fp (agg:=false) O (.inr ⟨rfl,_,rfl,rfl⟩)⟩
   ·obtain ⟨rfl,rfl⟩:=Pr.er h3
    exact ⟨rfl,x_fp (agg:=true) O (.inl ⟨rfl,rfl⟩)⟩
   ·exact (Pr.ef h3).elim
  obtain ⟨rfl,hl,hc⟩:=key
  have h4:=Pr.ends_wr h4
  obtain ⟨⟨⟩,s2,h5,h6⟩:=Pr.eb h4
  generalize hv:(⟨tm,ds⟩ : Act).eval x=v at hl hc
  have hgo:=x_lp (w1:=w.alloc (.cells v.cells t)) (n:=n) I (Grow.alloc w _) hf (Nat.le_refl _) (x_ou w _) (cs:=cs) (by simpa using hl.symm) (fun _=>False) (by
   intro j x hx
   obtain ⟨cv,h4,h5⟩:=hc j x hx
   exact ⟨cv,by simpa using h4, .inl h5⟩)
  obtain ⟨D',g',G2,hD⟩:=x_gj _ _ hgo.inv (fun j _ h=>by
   rcases h with h | h | ⟨_,h,_⟩
   ·exact hf _ h
   ·simp at h
   ·exact h) h5
  have hO:=x_wk (tm:=tm) (D':=plusB D n (i+1) fun _=>False) (st':=nbSt s' n (i+1) cs) (w1:=w.alloc (.cells v.cells t)) (g':=g.box w.heap.size n) (n:=n) (s:=i+1) (b:=w.heap.size) (.inr (.inl rfl)) (by simp [Gh.box])
  have hO2:=G2.opd _ _ hO
  refine x_gr (v:= .pointer (some ⟨w.heap.size,0,none⟩)) (w':=w.alloc (.cells v.cells t)) ?_ ⟨D',g',rfl,(hgo.trans G2).trans (x_gh G2.inv hO2 h6),fun k t h=>?_⟩
  ·simp only [execOp,ho,hv,Instr.box,newVar,newRow,Sem.run_bind,run_newObj,Result.andThen_ok,Sem.run_pure]
   rfl
  ·rcases hD k t h with (h | h | ⟨_,h,_⟩) | h
   ·exact .inl h
   ·exact .inr (congrArg Prod.snd h)
   ·exact h.elim
   ·exact .inr h.1
 ·exact (Pr.ef he).elim
end Go.Kn
namespace Go.Kn
variable [Ctx]
variable {P:Program} {D:Key×Nat→Prop} {st st':St} {tm:Array Value} {w w1:World} {g:Gh} {ds:List Deferred} {E:Env}
variable {T:Tab} {keep:Bool} {i:Nat} {o:Oper}
theorem x_t6 {n off:Nat} {c:Cell} (h:aAt st ⟨true,n,off⟩=some c):∃ t cs,st.bx.getD n none=some (t,cs)∧cs[off]?=some c:=by
 simp only [aAt,if_true,getb] at h
 cases hb:st.bx.getD n none with
 | none=>rw [hb] at h;simp at h
 | some b=>
  obtain ⟨t,cs⟩:=b
  rw [hb] at h
  simp at h
  exact ⟨t,cs,rfl,h⟩
theorem x_zc (I:Inv D st tm w g) {n off:Nat} {c0 c:Cell} {cv:Value} (h0:aAt st ⟨true,n,off⟩=some c0) (hc:okCell D st tm w g c cv) :
  Goes D D st tm w g (x_xr st n off c) tm (w.setCell ⟨g.bb n,off,none⟩ cv) g:=by
 obtain ⟨t0,cs0,hb0,hcs0⟩:=x_t6 h0
 obtain ⟨hD0,hγ,vals,ty,hh,hsz⟩:=I.box n t0 cs0 hb0
 have hoff:off<vals.size:=by rw [hsz];exact (List.getElem?_eq_some_iff.1 hcs0).1
 obtain ⟨hs1,hs2⟩:=x_o1 (o:=off) (v:=cv) hh
 have hne:aAt st ⟨true,n,off⟩≠none:=by rw [h0];simp
 have key:∀ b' t',g.γ b'=t'→t'≠ .bx n→g.γ b'=t'∧(w.setCell ⟨g.bb n,off,none⟩ cv).heap[b']?=w.heap[b']?:=fun b' t' h h'=>
  ⟨h,hs2 b' fun e=>by rw [e,hγ] at h;exact h' h.symm⟩
 have ha:∀ q:Pl, ¬ q=⟨true,n,off⟩→aAt (x_xr st n off c) q=aAt st q:=fun q hq=>by rw [x_xw hne,if_neg hq]
 have hcc:∀ q:Pl, ¬ q=⟨true,n,off⟩→ ∀ d,aAt st q=some d→cAt tm (w.setCell ⟨g.bb n,off,none⟩ cv) g q=cAt tm w g q:=fun q hq d hd=>by
  obtain ⟨bx,m,j⟩:=q
  cases bx with
  | false=>simp [cAt]
  | true=>
   obtain ⟨t1,cs1,hb1,hcs1⟩:=x_t6 hd
   obtain ⟨_,hγ1,_⟩:=I.box m t1 cs1 hb1
   simp only [cAt,if_true]
   by_cases hm:m=n
   ·subst hm
    have hj:off≠j:=fun e=>hq (by rw [e])
    simp only [bcell,hs1,hh]
    rw [Array.getElem?_setIfInBounds_ne hj]
   ·exact x_ig (key _ _ hγ1 (by simpa using hm)).2 _
 have hbxs:∀ m t,okBx (x_xr st n off c) m t=okBx st m t:=fun m t=>by
  simp only [okBx,x_kq]
  by_cases hm:m=n
  ·simp only [hm,if_true]
   cases st.bx.getD n none<;>rfl
  ·simp [hm]
 have hlive:∀ p t x (v:List x.val),aAt (x_xr st n off c) p=some (.val (.x t) (.sl x) v)→aAt st p=some (.val (.x t) (.sl x) v)∧cAt tm (w.setCell ⟨g.bb n,off,none⟩ cv) g p=cAt tm w g p:=by
  intro p t x v hp
  by_cases hq:p=⟨true,n,off⟩
  ·rw [x_xw hne,if_pos hq] at hp
   obtain rfl:=Option.some.inj hp
   exact hc.1.elim
  ·rw [ha p hq] at hp
   exact ⟨hp,hcc p hq _ hp⟩
 have hcell:∀ q,x_b5 (x_xr st n off c) tm (w.setCell ⟨g.bb n,off,none⟩ cv) g q c cv:=by
  intro q
  obtain ⟨hx,ht,h⟩:=hc
  match c,hx,ht,h,hlive,hbxs with
  | .val .f e v,_,_,h,_,_=>exact lrep.mono h (fun b' hb'=>key b' _ hb' (by simp)) fun b' hb'=>key b' _ hb' (by simp)
  | .val .r e v,_,_,h,_,_=>exact lrep.mono h (fun b' hb'=>hb'.elim (fun h=>⟨.inl (key b' _ h (by simp)).1,(key b' _ h (by simp)).2⟩) fun h=>⟨.inr (key b' _ h (by simp)).1,(key b' _ h (by simp)).2⟩) fun b' hb'=>key b' _ hb' (by simp)
  | .ref p t,_,ht,h,hlive,_=>intro x v hp;obtain ⟨h1,h2⟩:=hlive p t x v hp;rw [h2];exact h x v h1
  | .win p t lo hi,_,ht,h,hlive,_=>intro x v hp;obtain ⟨h1,h2⟩:=hlive p t x v hp;rw [h2];exact h x v h1
  | .nil _,_,_,h,_,_=>exact h
  | .ptr m t off',_,ht,h,_,hbxs=>intro ho;rw [hbxs] at ho;exact h ho
  | .dead,_,_,_,_,_=>trivial
 have S:Stp w g (w.setCell ⟨g.bb n,off,none⟩ cv) g:=⟨fun b h=>key b _ h (by simp),fun b h=>key b _ h (by simp),fun b' hl h=>key b' _ h (by simp),by simp,rfl,rfl,rfl⟩
 refine (⟨by simp [x_xr,I.len],rfl,ha,hcc,S.fr,S.lent,fun q t x v _ _ b' h=>key b' _ h (by simp),fun m _ _=>⟨.same _,rfl⟩,fun _ h=>h.elim,fun q hq d hqd=>?_,fun q hq t x v hqd=>?_,
  fun m t cs' hm=>?_,fun b' hb'=>by simpa using I.uni b' hb',fun t h=>h⟩ : Chg D D st (x_xr st n off c) tm tm w (w.setCell ⟨g.bb n,off,none⟩ cv) g g (fun q=>q=⟨true,n,off⟩) (fun _=>False)).goes I S
 ·rw [x_xw hne,if_pos hq] at hqd
  obtain rfl:=Option.some.inj hqd
  refine ⟨fun t ht=>hc.2.1 t (by rw [noX_st (q':=p0) hc.1] at ht;exact ht),cv,?_,hcell q⟩
  subst hq
  simp only [cAt,if_true,bcell,hs1]
  simp [hoff]
 ·rw [x_xw hne,if_pos hq] at hqd
  obtain rfl:=Option.some.inj hqd
  exact hc.1.elim
 ·rw [x_kq] at hm
  by_cases hmn:m=n
  ·subst hmn
   simp only [if_true,hb0,Option.map_some,sj_,Prod.mk.injEq] at hm
   obtain ⟨rfl,rfl⟩:=hm
   exact ⟨.inr ⟨cs0,hb0,rfl⟩,hD0,hγ,_,ty,hs1,by simp [hsz]⟩
  ·rw [if_neg hmn] at hm
   obtain ⟨h1,h2,vals',ty',h3,h4⟩:=I.box m t cs' hm
   exact ⟨.inr ⟨cs',hm,rfl⟩,h1,h2,vals',ty',by rw [(key _ _ h2 (by simpa using hmn)).2];exact h3,h4⟩
theorem x_tw {w:World} {b o:Nat} {cs:Array Value} {ty:TypeId} {fz:Nat×Nat} {v:Value} (h:w.heap[b]?=some (.cells cs ty fz)) (hv:cs[o]?=some v):w.setCell ⟨b,o,none⟩ v=w:=by
 have:w.heap.modify b (fun | .cells c elem frozen=> .cells (if (none:Option Nat).isSome then c else c.setIfInBounds o v) elem frozen | o=>o)=w.heap:=by
  apply Array.ext_getElem?
  intro j
  rw [Array.getElem?_modify]
  by_cases hj:b=j
  ·subst hj
   rw [if_pos rfl,h]
   simp only [Option.map_some,Option.isSome_none,Bool.false_eq_true,if_false]
   congr 2
   apply Array.ext_getElem?
   intro m
   by_cases hm:o=m
   ·subst hm
    rw [Array.getElem?_setIfInBounds_self,if_pos (Array.getElem?_eq_some_iff.1 hv).1,hv]
   ·rw [Array.getElem?_setIfInBounds_ne hm]
  ·rw [if_neg hj]
 have h2:(w.setCell ⟨b,o,none⟩ v).heap=w.heap:=this
 have h3:w.setCell ⟨b,o,none⟩ v= { w with heap:=(w.setCell ⟨b,o,none⟩ v).heap } :=rfl
 rw [h3,h2]
theorem x_03 (I:Inv D st tm w g) {c:Cell} {cv:Value} (he:(known c).Ends st () st') (hc:okCell D st tm w g c cv):st'=st∧x_d7 cv:=by
 obtain ⟨hx,hs,hr⟩:=hc
 cases c with
 | val m e v=>
  obtain ⟨_,rfl⟩:=Pr.er he
  cases m with
  | f=>exact ⟨rfl,x_d6 hr⟩
  | r=>exact ⟨rfl,x_d6 hr⟩
  | x t=>exact hx.elim
 | nil x=>obtain ⟨_,rfl⟩:=Pr.er he;exact ⟨rfl,by rw [show cv= .slice none 0 0 from hr];simp [x_d7]⟩
 | dead=>exact (Pr.ef he).elim
 | ref h t=>
  obtain ⟨x,s,h1,h2⟩:=Pr.eb he
  obtain ⟨h1,rfl⟩:=x_bn h1
  obtain ⟨_,rfl⟩:=Pr.er h2
  obtain ⟨hv,h3,h4⟩:=I.own h1
  have:=hr _ _ h1
  rw [h3] at this
  obtain rfl:=Option.some.inj this
  exact ⟨rfl,x_d6 (e:= .sl x.1) h4⟩
 | win h t lo hi=>
  obtain ⟨x,s,h1,h2⟩:=Pr.eb he
  obtain ⟨h1,rfl⟩:=x_bn h1
  obtain ⟨_,rfl⟩:=Pr.er h2
  obtain ⟨hv,h3,h4⟩:=I.own h1
  obtain ⟨hv',h5,h6⟩:=hr _ _ h1
  rw [h3] at h5
  obtain rfl:=Option.some.inj h5
  exact ⟨rfl,x_d6 (e:= .sl x.1) (x_br.win h4 h6)⟩
 | ptr n t off=>
  obtain ⟨x,h1,h2⟩:=Pr.ends_rb he
  obtain ⟨hb,h2⟩:=Pr.ek h2
  obtain ⟨_,rfl⟩:=Pr.er h2
  obtain ⟨cs,h3,_⟩:=x_fx I h1
  have:=hr (x_ek.2 ⟨cs,by rw [h3,beq_iff_eq.1 hb]⟩)
  exact ⟨rfl,by rw [this];simp [x_d7]⟩
theorem x_s4 {n:Nat} {tm:Array Value} {g:Gh}:∀ (cs:List Cell) (vs:List Value) (off:Nat) {D:Key×Nat→Prop} {st s1:St} {w:World},Inv D st tm w g→(wrBox n off cs).Ends st () s1→cs.length=vs.length→
  (∀ (j:Nat) c,cs[j]?=some c→ ∃ cv,vs[j]?=some cv∧okCell D st tm w g c cv)→(∀ j,j<cs.length→aAt st ⟨true,n,off+j⟩≠none)→
  Goes D D st tm w g s1 tm (w.setCells (g.bb n) off vs) g∧ ∀ v∈vs,x_d7 v
 | [],vs,off,D,st,s1,w,I,he,hl,hc,ha=>by
  obtain ⟨_,rfl⟩:=Pr.er he
  obtain rfl:vs=[]:=List.length_eq_zero_iff.1 hl.symm
  exact ⟨.refl I,by simp⟩
 | c::cs,vs,off,D,st,s1,w,I,he,hl,hc,ha=>by
  cases vs with
  | nil=>simp at hl
  | cons v vs=>
   obtain ⟨⟨⟩,s,h1,h2⟩:=Pr.eb he
   obtain ⟨cv,hv,hok⟩:=hc 0 c rfl
   simp only [List.getElem?_cons_zero,sj_] at hv
   subst hv
   obtain ⟨hs,hpl⟩:=x_03 I h1 hok
   have h0:=ha 0 (by simp)
   obtain ⟨c0,hc0⟩:=Option.ne_none_iff_exists'.1 h0
   rw [Nat.add_zero] at hc0
   have step:∀ s2,Goes D D st tm w g s2 tm (w.setCell ⟨g.bb n,off,none⟩ v) g→(∀ j,j<cs.length→aAt s2 ⟨true,n,off+1+j⟩≠none)→(wrBox n (off+1) cs).Ends s2 () s1→
     Goes D D st tm w g s1 tm (w.setCells (g.bb n) off (v::vs)) g∧ ∀ u∈v::vs,x_d7 u:=by
    intro s2 G1 ha2 hr
    obtain ⟨G2,hp⟩:=x_s4 cs vs (off+1) G1.inv hr (by simpa using hl) (fun j d hd=>by
     obtain ⟨cv,h5,h6⟩:=hc (j+1) d (by simpa using hd)
     exact ⟨cv,by simpa using h5,G1.okCell h6⟩) ha2
    exact ⟨G1.trans G2,fun u hu=>(List.mem_cons.1 hu).elim (fun h=>h▸hpl) (hp u)⟩
   have wrote:(Pr.wr (.bc n off c) (wrBox n (off+1) cs)).Ends s () s1→Goes D D st tm w g s1 tm (w.setCells (g.bb n) off (v::vs)) g∧ ∀ u∈v::vs,x_d7 u:=by
    intro hr
    have hr:=Pr.ends_wr hr
    rw [hs] at hr
    refine step _ (x_zc I hc0 hok) (fun j hj=>?_) hr
    have hne:aAt st ⟨true,n,off⟩≠none:=by rw [hc0];simp
    rw [x_xw hne]
    split
    ·simp
    ·have:=ha (j+1) (by simpa using hj)
     rwa [show off+(j+1)=off+1+j by omega] at this
   cases c with
   | ref h t=>
    simp only at h2
    split at h2
    ·rename_i hh
     subst hh
     rw [hs] at h2
     obtain ⟨x,s',h3,h4⟩:=Pr.eb h1
     obtain ⟨h3,_⟩:=x_bn h3
     have hcat:=hok.2.2 _ _ h3
     obtain ⟨t0,cs0,hb0,_⟩:=x_t6 h3
     obtain ⟨_,_,vals,ty,hh,_⟩:=I.box n t0 cs0 hb0
     have hself:w.setCell ⟨g.bb n,off,none⟩ v=w:=x_tw hh (by simpa [cAt,bcell,hh] using hcat)
     refine step st (by rw [hself];exact .refl I) (fun j hj=>?_) h2
     have:=ha (j+1) (by simpa using hj)
     rwa [show off+(j+1)=off+1+j by omega] at this
    ·exact wrote h2
   | val m e v=>exact wrote h2
   | win h t lo hi=>exact wrote h2
   | nil x=>exact wrote h2
   | ptr m t o=>exact wrote h2
   | dead=>exact wrote h2
theorem x_nw {v:Value} (h:x_d7 v):v.oneCell'=true:=by
 cases v<;>simp [x_d7,Value.oneCell'] at h ⊢
theorem x_pb (TO:x_fu P T.ti) {t:TypeId} {ti:TInf} (ht:T.ti t=some ti) {b q:Nat} {v:Value} (hl:v.cells.size=ti.n) {cs:Array Value} {ty:TypeId} {fz:Nat×Nat}
  (hh:w.heap[b]?=some (.cells cs ty fz)) (hfit:q+ti.n≤cs.size) (hfz:∀ j,j<ti.n→ ¬ (fz.1≤q+j∧q+j<fz.2)) (hone:∀ u∈v.cells.toList,u.oneCell'=true) :
  (Instr.storeAt t (.pointer (some ⟨b,q,none⟩)) v).run P w= .ok () (w.setCells b q v.cells.toList):=by
 have:=run_storeCells_cells (P:=P) b q v.cells.toList 0 w (fun j hj=>by
  rw [x_hr]
  simp only [bcell,hh,Nat.add_zero]
  simp only [Array.length_toList] at hj
  rw [Array.getElem?_eq_getElem (by omega)]
  rfl) (fun j hj=>by
  simp only [Array.length_toList] at hj
  have:=hfz j (by omega)
  simp only [World.frozen?,hh,Nat.add_zero]
  simpa using this) hone
 simp only [Nat.add_zero] at this
 simp only [Instr.storeAt,Instr.sureAddr,Sem.run_bind,Sem.run_pure,Result.andThen_ok,storeVar,TO.sizeOf ht,hl]
 simp [this]
end Go.Kn
namespace Go.Kn
variable [Ctx]
variable {P:Program} {D:Key×Nat→Prop} {st st':St} {tm:Array Value} {w w1:World} {g:Gh} {ds:List Deferred} {E:Env}
variable {T:Tab} {keep:Bool} {i:Nat} {o:Oper}
theorem x_zh {A vals:List Value} {p m:Nat} (h:p+vals.length≤A.length) :
  (A.take p++vals++A.drop (p+vals.length))[m]?=if p≤m∧m<p+vals.length then vals[m-p]? else A[m]?:=by
 rw [List.append_assoc,List.getElem?_append,List.length_take,show min p A.length=p by omega]
 by_cases h1:m<p
 ·rw [if_pos h1,List.getElem?_take,if_pos h1,if_neg (by omega)]
 ·rw [if_neg h1,List.getElem?_append]
  by_cases h2:m<p+vals.length
  ·rw [if_pos (by omega),if_pos (by omega)]
  ·rw [if_neg (by omega),if_neg (by omega),List.getElem?_drop]
   congr 1;omega
theorem seg_other {A vals:List Value} {p a n:Nat} (h:p+vals.length≤A.length) (hd:a+n≤p∨p+vals.length≤a) :
  ((A.take p++vals++A.drop (p+vals.length)).drop a).take n=(A.drop a).take n:=by
 apply List.ext_getElem?
 intro m
 rw [List.getElem?_take,List.getElem?_take]
 by_cases hm:m<n
 ·rw [if_pos hm,if_pos hm,List.getElem?_drop,List.getElem?_drop,x_zh h,if_neg (by omega)]
 ·rw [if_neg hm,if_neg hm]
theorem seg_in {A vals:List Value} {a n off:Nat} (h:a+n≤A.length) (hd:off+vals.length≤n) :
  ((A.take (a+off)++vals++A.drop (a+off+vals.length)).drop a).take n=((A.drop a).take n).take off++vals++((A.drop a).take n).drop (off+vals.length):=by
 apply List.ext_getElem?
 intro m
 have hl:((A.drop a).take n).length=n:=by simp;omega
 rw [x_zh (by omega),List.getElem?_take]
 by_cases hm:m<n
 ·rw [if_pos hm,List.getElem?_drop,x_zh (by omega)]
  by_cases h1:off≤m∧m<off+vals.length
  ·rw [if_pos h1,if_pos (by omega)]
   congr 1;omega
  ·rw [if_neg h1,if_neg (by omega),List.getElem?_take,if_pos hm,List.getElem?_drop]
 ·rw [if_neg hm,if_neg (by omega),List.getElem?_take,if_neg hm]
theorem Lvs.take {ok:Nat→Prop}:∀ {l:List LV} {vs:List Value} (n:Nat),Lvs w g ok l vs→Lvs w g ok (l.take n) (vs.take n)∧Lvs w g ok (l.drop n) (vs.drop n)
 | _,_,0,h=>⟨by simpa using Lvs.nil,by simpa using h⟩
 | _,_,n+1, .nil=>⟨by simpa using Lvs.nil,by simpa using Lvs.nil⟩
 | _,_,n+1, .cons a v l vs h t=>by
  obtain ⟨h1,h2⟩:=t.take n
  exact ⟨by simpa using Lvs.cons _ _ _ _ h h1,by simpa using h2⟩
theorem lrep_one {ok:Nat→Prop} {wr:Bool} {e:ET} {v:e.val} {cv:Value} (h:lrep w g ok wr e v cv):cv.oneCell'=true:=x_nw (x_d6 h)
theorem Lvs.one {ok:Nat→Prop}:∀ {l:List LV} {vs:List Value},Lvs w g ok l vs→ ∀ v∈vs,v.oneCell'=true
 | _,_, .nil,v,h=>by simp at h
 | _,_, .cons a u l vs h t,v,hv=>by
  rcases List.mem_cons.1 hv with rfl | hv
  ·exact lrep_one h
  ·exact Lvs.one t v hv
theorem elem_goes (I:Inv D st tm w g) {h:Pl} {s:Nat} {x:ET} {xs:List x.val} {b q len cap:Nat} (ha:aAt st h=some (.val (.x s) (.sl x) xs)) (hcat:cAt tm w g h=some (.slice (some ⟨b,q,none⟩) len cap))
  {idx off:Nat} (hidx:idx<xs.length) {ls:List LV} {vals:List Value} (hls:Lvs w g g.fr ls vals) (hoff:off+vals.length≤x.cells) {v:x.val}
  (hv:ofLV x ((lv x xs[idx]).take off++ls++(lv x xs[idx]).drop (off+vals.length))=some v) (he:(toPl h (.val (.x s) (.sl x) (xs.set idx v))).Ends st () st') :
  Goes D D st tm w g st' tm (w.setCells b (q+idx*x.cells+off) vals) g∧ ∃ cs ty fz,w.heap[b]?=some (.cells cs ty fz)∧q+idx*x.cells+x.cells≤cs.size∧ ∀ j,j<cs.size→ ¬ (fz.1≤j∧j<fz.2):=by
 obtain ⟨hv0,k1,k2⟩:=I.own ha
 rw [hcat] at k1
 obtain rfl:=Option.some.inj k1
 obtain ⟨b',q',cap',cs,ty,fz,k3,m1,m2,m3,m4,m5⟩:=k2.some hidx
 simp only [Value.slice.injEq,sj_,Addr.mk.injEq,and_true] at k3
 obtain ⟨⟨rfl,rfl⟩,rfl,rfl⟩:=k3
 have hb:g.γ b= .row h:=m1
 have hfit:q+idx*x.cells+off+vals.length≤cs.size:=by omega
 have W:=x_ls vals (q+idx*x.cells+off) w cs m3 hfit
 have T:=x_do he (by rw [ha];simp)
 rcases k2 with ⟨_,_,k2,_⟩ | ⟨b2,q2,cap2,cs2,ty2,fz2,n1,n2,n3,n4,n5,n6,n7⟩
 ·rw [k2] at hidx;simp at hidx
 simp only [Value.slice.injEq,sj_,Addr.mk.injEq,and_true] at n1
 obtain ⟨⟨rfl,rfl⟩,_,rfl⟩:=n1
 rw [m3] at n4
 simp only [sj_,Obj.cells.injEq] at n4
 obtain ⟨rfl,rfl,rfl⟩:=n4
 refine ⟨?_,cs,ty,fz,m3,m4,n6 rfl⟩
 have key:∀ b' t',g.γ b'=t'→t'≠ .row h→g.γ b'=t'∧(w.setCells b (q+idx*x.cells+off) vals).heap[b']?=w.heap[b']?:=fun b' t' h1 h2=>
  ⟨h1,W.oth b' fun e=>by rw [e,hb] at h1;exact h2 h1.symm⟩
 have hcc:∀ p c,aAt st p=some c→cAt tm (w.setCells b (q+idx*x.cells+off) vals) g p=cAt tm w g p:=fun p c hc=>by
  cases hb:p.bx with
  | true=>exact I.bcell rfl (fun n b h=>key b _ h (by simp)) hb hc
  | false=>simp [cAt,hb]
 have S:Stp w g (w.setCells b (q+idx*x.cells+off) vals) g:=⟨fun b h=>key b _ h (by simp),fun b h=>key b _ h (by simp),fun b' hl h=>key b' _ h (by simp),by rw [W.size];exact Nat.le_refl _,W.rest⟩
 have hat:∀ p,aAt st' p=if p=h then some (.val (.x s) (.sl x) (xs.set idx v)) else aAt st p:=fun p=>by
  have:=T.at_ p
  by_cases hp:p=h<;>simpa [hp] using this
 refine (⟨by rw [T.len,I.len],rfl,fun p hp=>by rw [hat,if_neg hp],fun p _ c hc=>hcc p c hc,S.fr,S.lent,fun p t y u hp _ b' h=>key b' _ h (by simpa using hp),fun m _ _=>⟨T.like m,rfl⟩,fun _ h=>h.elim,
  fun p hp c hpc=>?_,fun p hp t y u hpc=>?_,fun m t cs' hm=>?_,fun b' hb'=>by rw [W.size];exact I.uni b' hb',fun t h=>h⟩ :
  Chg D D st st' tm tm w (w.setCells b (q+idx*x.cells+off) vals) g g (fun p=>p=h) (fun _=>False)).goes I S
 ·rw [hat,if_pos hp] at hpc
  obtain rfl:=Option.some.inj hpc
  subst hp
  refine ⟨fun t ht=>I.stb p _ ha t (by simpa [stC] using ht),_,(hcc p _ ha).trans hcat,x,rfl, .inr ⟨b,q,cap,_,ty,fz,by simp,hb,by simpa using n3,W.now,?_,fun _ j hj=>n6 rfl j ?_,fun j hj=>?_⟩⟩
  ·simp only [if_true] at n5 ⊢
   simp only [List.size_toArray,List.length_append,List.length_take,List.length_drop,Array.length_toList]
   omega
  ·simp only [List.size_toArray,List.length_append,List.length_take,List.length_drop,Array.length_toList] at hj
   omega
  ·rw [List.length_set] at hj
   have keyr:∀ {y:x.val} {c:List Value},rep w g.fr x y c→rep (w.setCells b (q+idx*x.cells+off) vals) g.fr x y c:=fun hy=>
    rep.mono (fun b' hb'=>hb') (fun b' hb'=>(key b' _ hb' (by simp)).2) _ _ _ hy
   refine keyr ?_
   rw [List.toList_toArray]
   have hsz:cs.toList.length=cs.size:=Array.length_toList
   by_cases hji:idx=j
   ·subst hji
    rw [List.getElem_set_self,seg_in (by omega) hoff]
    have hseg:=x_n5 _ _ _ (x_on _ _ _ m5)
    have:=((hseg.take off).1.append hls).append (hseg.take (off+vals.length)).2
    exact x_p5 _ _ _ (x_v6 hv this)
   ·rw [List.getElem_set_ne hji,seg_other (by omega)]
    ·exact n7 j hj
    ·rcases Nat.lt_or_ge j idx with hlt | hge
     ·have:=x_tr (sz:=x.cells) hlt;left;omega
     ·have:=x_tr (sz:=x.cells) (show idx<j by omega);right;omega
 ·rw [hat,if_pos hp] at hpc
  subst hp
  right
  have hpc:=Option.some.inj hpc
  simp only [Cell.val.injEq,Md.x.injEq,ET.sl.injEq] at hpc
  obtain ⟨rfl,rfl,hu⟩:=hpc
  have hu:=eq_of_heq hu
  subst hu
  exact ⟨xs,ha,hcc p _ ha,by simp⟩
 ·have hm2:=T.bx m
  rw [hm] at hm2
  cases h0:st.bx.getD m none with
  | none=>rw [h0] at hm2;simp at hm2
  | some bx=>
   obtain ⟨t0,cs0⟩:=bx
   rw [h0] at hm2
   simp only [Option.map_some,sj_,Prod.mk.injEq] at hm2
   obtain ⟨rfl,hl⟩:=hm2
   obtain ⟨h1,h2,vals',ty',h3,h4⟩:=I.box m _ cs0 h0
   exact ⟨.inr ⟨cs0,rfl,rfl⟩,h1,h2,vals',ty',by rw [(key _ _ h2 (by simp)).2];exact h3,by omega⟩
theorem x_wa {s s1:St} {a b:SC} {cv:Value} (I:Inv D s tm w g) (h3:(frzA a).Ends s b s1) (O:Opd D s tm w g a cv) :
  ∃ g',Goes D D s tm w g s1 tm w g'∧Opd D s1 tm w g' b cv:=by
 unfold frzA at h3
 split at h3
 ·rename_i c
  obtain ⟨r,s2,h5,h6⟩:=Pr.eb h3
  obtain ⟨rfl,rfl⟩:=Pr.er h6
  obtain ⟨g',G,hr⟩:=x_pm I h5 O.one.2.2.2
  exact ⟨g',G,x_eu O.one.1 trivial (by simp [x_id,stC]) hr⟩
 ·rename_i cs
  obtain ⟨rs,s2,h5,h6⟩:=Pr.eb h3
  obtain ⟨rfl,rfl⟩:=Pr.er h6
  obtain ⟨hl,hc⟩:=x_fp (agg:=true) O (.inl ⟨rfl,rfl⟩)
  obtain ⟨us,hv,hu⟩:=O.agg
  obtain ⟨g',G,L⟩:=x_gl cs _ rs I h5 hl hc
  rw [hv] at L hl ⊢
  have get:∀ {ls:List LV} {vs:List Value},Lvs w g' g'.fr ls vs→ls.length=vs.length∧ ∀ (j:Nat) a,ls[j]?=some a→ ∃ cv,vs[j]?=some cv∧lrep w g' g'.fr false a.1 a.2 cv:=by
   intro ls vs h
   induction h with
   | nil=>exact ⟨rfl,fun j a h=>by simp at h⟩
   | cons a v l vs h t ih=>
    refine ⟨by simp [ih.1],fun j b hb=>?_⟩
    cases j with
    | zero=>
     have hb:a=b:=Option.some.inj hb
     subst hb
     exact ⟨v,rfl,h⟩
    | succ j=>exact ih.2 j b hb
  obtain ⟨k1,k2⟩:=get L
  refine ⟨g',G,⟨⟨us.toArray,rfl,?_⟩,fun j c hj=>?_,by simp [stS]⟩⟩
  ·simp only [List.length_map]
   simpa [Value.cells] using k1.symm
  ·simp only [SC.cells,List.getElem?_map,Option.map_eq_some_iff] at hj
   obtain ⟨a,ha,rfl⟩:=hj
   obtain ⟨cv,h7,h8⟩:=k2 j a ha
   exact ⟨trivial,by simp [x_id,stC],cv,by simpa [vcs,Value.cells] using h7,h8⟩
 ·exact (Pr.ef h3).elim
theorem x_z8 {p:SC} {x:Operand} (hf:x_o5 D (i+1)) (I:Inv D st tm w g) (he:(selfS i p x).Ends st () st') :
  ∃ D1 g1,Goes D D1 st tm w g st' tm w g1∧ ∀ k t,D1 (k,t)→D (k,t)∨(t=i+1∧ ∀ n j,k≠ .c ⟨true,n,j⟩):=by
 have none:(Pr.ret ()).Ends st () st'→ ∃ D1 g1,Goes D D1 st tm w g st' tm w g1∧ ∀ k t,D1 (k,t)→D (k,t)∨(t=i+1∧ ∀ n j,k≠ .c ⟨true,n,j⟩):=fun h=>by
  obtain ⟨_,rfl⟩:=Pr.er h
  exact ⟨D,g, .refl I,fun _ _ h=> .inl h⟩
 unfold selfS at he
 split at he
 ·have he:=Pr.ends_rs he
  split at he
  ·split at he
   ·obtain ⟨D',g',G,hs⟩:=x_gj _ _ I (fun j _=>hf _) he
    refine ⟨D',g',G,fun q t h=>(hs q t h).imp id fun h=>⟨h.1,fun n j e=>?_⟩⟩
    obtain ⟨j',_,_,hq⟩:=h.2
    rw [hq] at e
    simp at e
   ·exact none he
  ·exact none he
 ·exact none he
theorem ok_store {t:TypeId} {a x:Operand} (TO:x_fu P T.ti) (hf:x_o5 D (i+1)) (ho:o.op= .store t a x) (I:Inv D st tm w g) (he:(opR T keep i o).Ends st () st') :
  OpOk P o D st tm w g st' (i+1) ds:=by
 simp only [opR,ho] at he
 split at he
 ·rename_i ti hti
  obtain ⟨p,s,h1,h2⟩:=Pr.eb he
  obtain ⟨rfl,O⟩:=x_bp (ds:=ds) I h1
  obtain ⟨⟨⟩,sB,hS,h2b⟩:=Pr.eb h2
  obtain ⟨D1,gB,GB,hD1⟩:=x_z8 hf I hS
  obtain ⟨v0,s0,h3,h40⟩:=Pr.eb h2b
  clear h2 hS h2b h1
  obtain ⟨rfl,O0⟩:=x_bp (ds:=ds) GB.inv h3
  obtain ⟨v,s1,hz,h4⟩:=Pr.eb h40
  have hk:∃ g',Goes D1 D1 s0 tm w gB s1 tm w g'∧Opd D1 s1 tm w g' v ((⟨tm,ds⟩ : Act).eval x):=by
   split at hz
   ·exact x_wa GB.inv hz O0
   ·obtain ⟨rfl,rfl⟩:=Pr.er hz
    exact ⟨gB, .refl GB.inv,O0⟩
  obtain ⟨g0,G0',O'⟩:=hk
  have G0:=GB.trans G0'
  replace O:=G0.opd _ _ O
  replace I:=G0.inv
  have key:∃ cs:List Cell,((storeR i keep p cs).bind fun _=>putD o .dead).Ends s1 () st'∧ti.n=cs.length∧cs.length=((⟨tm,ds⟩ : Act).eval x).cells.toList.length∧
    ∀ (j:Nat) c,cs[j]?=some c→ ∃ cv,((⟨tm,ds⟩ : Act).eval x).cells.toList[j]?=some cv∧okCell D1 s1 tm w g0 c cv:=by
   split at h4
   ·rename_i c
    split at h4
    ·rename_i hn
     exact ⟨[c],h4,by simpa using hn,x_fp (agg:=false) O' (.inr ⟨rfl,_,rfl,rfl⟩)⟩
    ·exact (Pr.ef h4).elim
   ·rename_i cs
    split at h4
    ·rename_i hn
     exact ⟨cs,h4,hn,x_fp (agg:=true) O' (.inl ⟨rfl,rfl⟩)⟩
    ·exact (Pr.ef h4).elim
   ·exact (Pr.ef h4).elim
  obtain ⟨cs,h50,hn,hl,hc⟩:=key
  obtain ⟨uu,sE,h5,hE⟩:=Pr.eb h50
  clear h50
  cases uu
  have fin:∀ {D' g' w'},(Instr.storeAt t ((⟨tm,ds⟩ : Act).eval a) ((⟨tm,ds⟩ : Act).eval x)).run P w= .ok () w'→Goes D1 D' s1 tm w g0 sE tm w' g'→(∀ k t,D' (k,t)→D1 (k,t)∨t=i+1)→
    OpOk P o D s tm w g st' (i+1) ds:=by
   intro D' g' w' hr G hD
   unfold OpOk Oper.wp
   simp only [execOp,ho,Sem.run_bind,hr,Result.andThen_ok,Sem.run_pure]
   rw [Oper.upon_skip,x_ua]
   exact ⟨D',g',rfl,(G0.trans G).trans (x_gh G.inv (x_t8 _) hE),fun k t h=>(hD k t h).elim (fun h=>(hD1 k t h).imp id (·.1)) .inr⟩
  revert fin O
  generalize (⟨tm,ds⟩ : Act).eval a=va
  intro O fin
  unfold storeR at h5
  split at h5
  ·rename_i n b off
   split at h5
   ·exact (Pr.ef h5).elim
   ·rename_i hne
    obtain ⟨rd,s2,h6,h7⟩:=Pr.eb h5
    obtain ⟨rfl,hrl,hb,hrc⟩:=x_f1 I _ _ _ _ h6
    obtain ⟨⟨⟩,s3,h8,h9⟩:=Pr.eb h7
    have hok:=hb (by omega)
    have hv:=O.one.2.2.2 hok
    subst hv
    have hat:∀ j,j<cs.length→aAt s2 ⟨true,n,off+j⟩≠none:=fun j hj=>by
     obtain ⟨c0,h10,_⟩:=hrc j rd[j] (ge_ (by omega))
     rw [h10];simp
    obtain ⟨G1,hpl⟩:=x_s4 cs _ off I h8 hl hc hat
    obtain ⟨D',g',G2,hD⟩:=x_gj _ _ G1.inv (fun j _ h=>(hD1 _ _ h).elim (hf _) fun h=>h.2 _ _ rfl) h9
    obtain ⟨t0,cs0,hb0,_⟩:=x_t6 (Option.ne_none_iff_exists'.1 (hat 0 (by omega))).choose_spec
    obtain ⟨_,_,vals,ty,hh,hsz⟩:=I.box n t0 cs0 hb0
    have hlast:=hat (cs.length-1) (by omega)
    obtain ⟨t1,cs1,hb1,hcs1⟩:=x_t6 (Option.ne_none_iff_exists'.1 hlast).choose_spec
    rw [hb0] at hb1
    simp only [sj_,Prod.mk.injEq] at hb1
    obtain ⟨_,rfl⟩:=hb1
    have hlt:=(List.getElem?_eq_some_iff.1 hcs1).1
    refine fin (x_pb TO hti (by rw [hn,hl];simp) hh (by omega) (fun j hj=>by simp) (fun u hu=>x_nw (hpl u hu))) (G1.trans G2) fun k t h=>(hD k t h).imp id fun h=>h.1
  ·rename_i h s idx off
   obtain ⟨ls,s2,h6,h7⟩:=Pr.eb h5
   obtain ⟨g1,G1,hls⟩:=x_gl _ _ _ I h6 hl hc
   obtain ⟨y,s3,h8,h9⟩:=Pr.eb h7
   obtain ⟨h8,rfl⟩:=x_bn h8
   split at h9
   ·exact (Pr.ef h9).elim
   ·rename_i hle
    obtain ⟨v2,s4,h10,h11⟩:=Pr.eb h9
    obtain ⟨h12,hs4⟩:=x_fq h10
    rw [hs4] at h11
    have O2:=G1.opd _ _ O
    obtain ⟨hidx,b,q,len,cap,hcat,rfl⟩:=O2.shp _ _ h8
    rw [gd_,ge_ hidx,hl] at h12
    obtain ⟨G2,ccs,ty,fz,hh,hfit,hfz⟩:=elem_goes G1.inv h8 hcat hidx hls (by omega) h12 h11
    refine fin (x_pb TO hti (by rw [hn,hl];simp) hh (by omega) (fun j hj=>hfz _ (by omega)) hls.one) (G1.trans G2) fun k t h=> .inl h
  ·exact (Pr.ef h5).elim
 ·exact (Pr.ef he).elim
end Go.Kn
namespace Go.Kn
variable [Ctx]
variable {P:Program} {D:Key×Nat→Prop} {st st':St} {tm:Array Value} {w w1:World} {g:Gh} {ds:List Deferred} {E:Env}
variable {T:Tab} {keep:Bool} {i:Nat} {o:Oper}
structure Z (st:St) (g:Gh) (st':St) (g':Gh):Prop where
 dead:∀ p,aAt st p=some .dead→aAt st' p=some .dead
 tag:∀ p b,aAt st p=some .dead→g.γ b= .row p→g'.γ b= .row p
 bb:g'.bb=g.bb
 bx:∀ b n,g.γ b= .bx n→g'.γ b= .bx n
 len:∀ n,((st'.bx.getD n none).map fun b=>(b.1,b.2.length))=((st.bx.getD n none).map fun b=>(b.1,b.2.length))
theorem Z.refl (st:St) (g:Gh):Z st g st g:=⟨fun _ h=>h,fun _ _ _ h=>h,rfl,fun _ _ h=>h,fun _=>rfl⟩
theorem Z.trans {s2:St} {g1 g2:Gh} (h:Z st g st' g1) (k:Z st' g1 s2 g2):Z st g s2 g2:=
 ⟨fun p hp=>k.dead p (h.dead p hp),fun p b hp hb=>k.tag p b (h.dead p hp) (h.tag p b hp hb),k.bb.trans h.bb,fun b n hb=>k.bx b n (h.bx b n hb),fun n=>(k.len n).trans (h.len n)⟩
theorem turn_z {h:Pl} {c c0:Cell} (h0:aAt st h=some c0) (hne:c0≠ .dead) (T:Turns st st' fun q=>if q=h then some c else none) {t:Tg}:Z st g st' (g.tag h t)∧Z st g st' g:=by
 have hd:∀ p,aAt st p=some .dead→p≠h:=fun p hp e=>by subst e;rw [h0] at hp;exact hne (Option.some.inj hp)
 have hdead:∀ p,aAt st p=some .dead→aAt st' p=some .dead:=fun p hp=>by rw [T.at_];simp [hd p hp,hp]
 exact ⟨⟨hdead,fun p b hp hb=>x_1e (hd p hp) hb,rfl,fun b n hb=>by simp [Gh.tag,hb],T.bx⟩,hdead,fun p b hp hb=>hb,rfl,fun _ _ h=>h,T.bx⟩
theorem freeze_z (I:Inv D st tm w g) {c:Cell} {a:LV} {q:Pl} {cv:Value} (he:(x_rc c).Ends st a st') (hc:x_b5 st tm w g q c cv) :
  ∃ g',Goes D D st tm w g st' tm w g'∧lrep w g' g'.fr false a.1 a.2 cv∧Z st g st' g':=by
 match c,he,hc with
 | .val .f e v,he,hc=>obtain ⟨rfl,rfl⟩:=Pr.er he;exact ⟨g, .refl I,hc, .refl _ _⟩
 | .val .r e v,he,hc=>exact (Pr.ef he).elim
 | .val (.x _) e v,he,hc=>exact (Pr.ef he).elim
 | .ref h t,he,hc=>
  obtain ⟨x,s,h1,h2⟩:=Pr.eb he
  obtain ⟨h1,rfl⟩:=x_bn h1
  obtain ⟨⟨⟩,s2,h2,h3⟩:=Pr.eb h2
  obtain ⟨rfl,rfl⟩:=Pr.er h3
  obtain ⟨hv,h4,h5⟩:=I.own h1
  have h6:=hc _ _ h1
  rw [h4] at h6
  obtain rfl:=Option.some.inj h6
  exact ⟨g.tag h .fr,x_jg I h1 h2,(x_br.weaken h5).mono (fun b hb=>x_t2 hb) (fun _ _=>rfl) fun a cs _ hr=>x_pv hr,(turn_z h1 (by simp) (x_do h2 (by rw [h1];simp))).1⟩
 | .win h t lo hi,he,hc=>
  obtain ⟨x,s,h1,h2⟩:=Pr.eb he
  obtain ⟨h1,rfl⟩:=x_bn h1
  obtain ⟨⟨⟩,s2,h2,h3⟩:=Pr.eb h2
  obtain ⟨rfl,rfl⟩:=Pr.er h3
  obtain ⟨hv,h4,h5⟩:=I.own h1
  obtain ⟨hv',h6,h7⟩:=hc _ _ h1
  rw [h4] at h6
  obtain rfl:=Option.some.inj h6
  exact ⟨g.tag h .fr,x_jg I h1 h2,(x_br.weaken (x_br.win h5 h7)).mono (fun b hb=>x_t2 hb) (fun _ _=>rfl) fun a cs _ hr=>x_pv hr,
   (turn_z h1 (by simp) (x_do h2 (by rw [h1];simp))).1⟩
 | .nil x,he,hc=>obtain ⟨rfl,rfl⟩:=Pr.er he;exact ⟨g, .refl I,x_br.nil hc rfl, .refl _ _⟩
 | .ptr ..,he,_=>exact (Pr.ef he).elim
 | .dead,he,_=>exact (Pr.ef he).elim
theorem consume_z (I:Inv D st tm w g) {c:Cell} {a:LV} {q:Pl} {cv:Value} (he:(x_rz c).Ends st a st') (hc:x_b5 st tm w g q c cv) :
  Goes D D st tm w g st' tm w g∧Z st g st' g∧ ∃ x, ∃ v:List x.val,a=⟨.sl x,v⟩∧((cv= .slice none 0 0∧v=[])∨
   ∃ h,aAt st' h=some .dead∧aAt st h≠some .dead∧x_br w (g.own h) true (rep w g.fr x) x.cells v cv):=by
 match c,he,hc with
 | .val _ e v,he,hc=>exact (Pr.ef he).elim
 | .ref h t,he,hc=>
  obtain ⟨x,s,h1,h2⟩:=Pr.eb he
  obtain ⟨h1,rfl⟩:=x_bn h1
  obtain ⟨⟨⟩,s2,h2,h3⟩:=Pr.eb h2
  obtain ⟨rfl,rfl⟩:=Pr.er h3
  obtain ⟨hv,h4,h5⟩:=I.own h1
  have h6:=hc _ _ h1
  rw [h4] at h6
  obtain rfl:=Option.some.inj h6
  have T:=x_do h2 (by rw [h1];simp)
  exact ⟨x_nf I h1 h2,(turn_z (t:= .out) h1 (by simp) T).2,x.1,x.2,rfl, .inr ⟨h,by rw [T.at_];simp,by rw [h1];simp,h5⟩⟩
 | .win h t lo hi,he,hc=>
  obtain ⟨x,s,h1,h2⟩:=Pr.eb he
  obtain ⟨h1,rfl⟩:=x_bn h1
  obtain ⟨⟨⟩,s2,h2,h3⟩:=Pr.eb h2
  obtain ⟨rfl,rfl⟩:=Pr.er h3
  obtain ⟨hv,h4,h5⟩:=I.own h1
  obtain ⟨hv',h6,h7⟩:=hc _ _ h1
  rw [h4] at h6
  obtain rfl:=Option.some.inj h6
  have T:=x_do h2 (by rw [h1];simp)
  exact ⟨x_nf I h1 h2,(turn_z (t:= .out) h1 (by simp) T).2,x.1,_,rfl, .inr ⟨h,by rw [T.at_];simp,by rw [h1];simp,x_br.win h5 h7⟩⟩
 | .nil x,he,hc=>obtain ⟨rfl,rfl⟩:=Pr.er he;exact ⟨.refl I, .refl _ _,x,[],rfl, .inl ⟨hc,rfl⟩⟩
 | .ptr ..,he,_=>exact (Pr.ef he).elim
 | .dead,he,_=>exact (Pr.ef he).elim
def rdL (st:St) (g:Gh) (b:Nat):Prop:=g.γ b= .fr∨g.γ b= .lent∨ ∃ h,g.γ b= .row h∧aAt st h≠some .dead
theorem look_live (I:Inv D st tm w g) {c:Cell} {a:LV} {q:Pl} {cv:Value} (he:(look c).Ends st a st') (hx:noX c) (hc:x_b5 st tm w g q c cv):st'=st∧lrep w g (rdL st g) false a.1 a.2 cv:=by
 match c,hx,he,hc with
 | .val .f e v,_,he,hc=>obtain ⟨rfl,rfl⟩:=Pr.er he;exact ⟨rfl,lrep.weaken hc fun b hb=> .inl hb⟩
 | .val .r e v,_,he,hc=>obtain ⟨rfl,rfl⟩:=Pr.er he;exact ⟨rfl,lrep.weaken hc fun b hb=>hb.elim .inl fun h=> .inr (.inl h)⟩
 | .ref h t,_,he,hc=>
  obtain ⟨x,s,h1,h2⟩:=Pr.eb he
  obtain ⟨h1,rfl⟩:=x_bn h1
  obtain ⟨rfl,rfl⟩:=Pr.er h2
  obtain ⟨hv,h3,h4⟩:=I.own h1
  have h5:=hc _ _ h1
  rw [h3] at h5
  obtain rfl:=Option.some.inj h5
  exact ⟨rfl,lrep.weaken (e:= .sl x.1) h4 fun b hb=> .inr (.inr ⟨_,hb,by rw [h1];simp⟩)⟩
 | .win h t lo hi,_,he,hc=>
  obtain ⟨x,s,h1,h2⟩:=Pr.eb he
  obtain ⟨h1,rfl⟩:=x_bn h1
  obtain ⟨rfl,rfl⟩:=Pr.er h2
  obtain ⟨hv,h3,h4⟩:=I.own h1
  obtain ⟨hv',h5,h6⟩:=hc _ _ h1
  rw [h3] at h5
  obtain rfl:=Option.some.inj h5
  exact ⟨rfl,lrep.weaken (e:= .sl x.1) (x_br.win h4 h6) fun b hb=> .inr (.inr ⟨_,hb,by rw [h1];simp⟩)⟩
 | .nil x,_,he,hc=>obtain ⟨rfl,rfl⟩:=Pr.er he;exact ⟨rfl,x_br.nil hc rfl⟩
 | .ptr ..,_,he,_=>exact (Pr.ef he).elim
 | .dead,_,he,_=>exact (Pr.ef he).elim
def got (st:St) (w:World) (g:Gh) (X:Nat→Option Pl) (j:Nat) (m:Md) (a:LV) (cv:Value):Prop:=match m with
 | .f=>lrep w g g.fr false a.1 a.2 cv
 | .r=>lrep w g (rdL st g) false a.1 a.2 cv
 | .x _=> ∃ x, ∃ v:List x.val,a=⟨.sl x,v⟩∧((cv= .slice none 0 0∧v=[])∨ ∃ h,X j=some h∧x_br w (g.own h) true (rep w g.fr x) x.cells v cv)
theorem pass1 {tm:Array Value} {w:World}:∀ (l:List (Md×Cell)) (cvs:List Value) (as:List (Option LV)) {D:Key×Nat→Prop} {st s1:St} {g:Gh},Inv D st tm w g→(mapP give1 l).Ends st as s1→
  l.length=cvs.length→(∀ (j:Nat) x,l[j]?=some x→ ∃ cv,cvs[j]?=some cv∧okCell D st tm w g x.2 cv)→
  ∃ g' X,Goes D D st tm w g s1 tm w g'∧Z st g s1 g'∧as.length=l.length∧(∀ (j:Nat) x cv,l[j]?=some x→cvs[j]?=some cv→okCell D s1 tm w g' x.2 cv∧
    ((x.1= .r∧as[j]?=some none)∨(x.1≠ .r∧ ∃ a,as[j]?=some (some a)∧got s1 w g' X j x.1 a cv)))∧
   (∀ j h,X j=some h→aAt s1 h=some .dead∧aAt st h≠some .dead)∧ ∀ j j' h,X j=some h→X j'=some h→j=j'
 | [],cvs,as,D,st,s1,g,I,he,hl,hc=>by
  obtain ⟨rfl,rfl⟩:=Pr.er he
  exact ⟨g,fun _=>none, .refl I, .refl _ _,rfl,fun j x cv h=>by simp at h,fun j h hh=>by simp at hh,fun j j' h hh=>by simp at hh⟩
 | x::l,cvs,as,D,st,s1,g,I,he,hl,hc=>by
  cases cvs with
  | nil=>simp at hl
  | cons v cvs=>
   obtain ⟨a,s,h1,h2⟩:=Pr.eb he
   obtain ⟨cv,hv,hok⟩:=hc 0 x rfl
   simp only [List.getElem?_cons_zero,sj_] at hv
   subst hv
   obtain ⟨r,s',h3,h4⟩:=Pr.eb h2
   obtain ⟨rfl,hs'⟩:=Pr.er h4
   rw [←hs'] at h3
   have head:∃ g1 X0,Goes D D st tm w g s tm w g1∧Z st g s g1∧((x.1= .r∧a=none)∨(x.1≠ .r∧ ∃ b,a=some b∧got s w g1 (fun _=>X0) 0 x.1 b v))∧
     (∀ h,X0=some h→aAt s h=some .dead∧aAt st h≠some .dead):=by
    unfold give1 at h1
    cases hm:x.1 with
    | f=>
     rw [hm] at h1
     obtain ⟨b,s2,h5,h6⟩:=Pr.eb h1
     obtain ⟨rfl,rfl⟩:=Pr.er h6
     obtain ⟨g1,G1,hb,hz⟩:=freeze_z I h5 hok.2.2
     exact ⟨g1,none,G1,hz, .inr ⟨by simp,b,rfl,hb⟩,by simp⟩
    | r=>
     rw [hm] at h1
     obtain ⟨rfl,rfl⟩:=Pr.er h1
     exact ⟨g,none, .refl I, .refl _ _, .inl ⟨rfl,rfl⟩,by simp⟩
    | x t=>
     rw [hm] at h1
     obtain ⟨b,s2,h5,h6⟩:=Pr.eb h1
     obtain ⟨rfl,rfl⟩:=Pr.er h6
     obtain ⟨G1,hz,y,u,rfl,hb⟩:=consume_z I h5 hok.2.2
     rcases hb with hb | ⟨h,hd,hnd,hr⟩
     ·exact ⟨g,none,G1,hz, .inr ⟨by simp,_,rfl,y,u,rfl, .inl hb⟩,by simp⟩
     ·exact ⟨g,some h,G1,hz, .inr ⟨by simp,_,rfl,y,u,rfl, .inr ⟨h,rfl,hr⟩⟩,fun h' hh=>by obtain rfl:=Option.some.inj hh;exact ⟨hd,hnd⟩⟩
   obtain ⟨g1,X0,G1,Z1,hh,hX0⟩:=head
   obtain ⟨g2,X,G2,Z2,hl2,hk,hX,hinj⟩:=pass1 l cvs r G1.inv h3 (by simpa using hl) (fun j y hy=>by
    obtain ⟨cv,h5,h6⟩:=hc (j+1) y (by simpa using hy)
    exact ⟨cv,by simpa using h5,G1.okCell h6⟩)
   refine ⟨g2,fun j=>match j with | 0=>X0 | j+1=>X j,G1.trans G2,Z1.trans Z2,by simp [hl2],fun j y cv hy hcv=>?_,fun j h hj=>?_,fun j j' h hj hj'=>?_⟩
   ·cases j with
    | zero=>
     simp only [List.getElem?_cons_zero,sj_] at hy hcv
     subst hy
     subst hcv
     refine ⟨(G1.trans G2).okCell hok,?_⟩
     rcases hh with ⟨h5,rfl⟩ | ⟨h5,b,rfl,hg⟩
     ·exact .inl ⟨h5,rfl⟩
     ·refine .inr ⟨h5,b,rfl,?_⟩
      cases hm:x.1 with
      | f=>rw [hm] at hg;exact x_yh G2.stp hg
      | r=>exact absurd hm h5
      | x t=>
       rw [hm] at hg
       obtain ⟨y,u,rfl,hg⟩:=hg
       refine ⟨y,u,rfl,hg.imp id ?_⟩
       rintro ⟨h,hx,hr⟩
       exact ⟨h,hx,x_br.mono hr (fun b hb=>Z2.tag h b (hX0 h hx).1 hb) (fun _ _=>rfl) fun a cs _ hr=>rep_stp G2.stp hr⟩
    | succ j=>
     obtain ⟨h5,h6⟩:=hk j y cv (by simpa using hy) (by simpa using hcv)
     exact ⟨h5,h6.imp (fun h=>⟨h.1,by simpa using h.2⟩) fun ⟨h7,b,h8,h9⟩=>⟨h7,b,by simpa using h8,h9⟩⟩
   ·cases j with
    | zero=>exact ⟨Z2.dead _ (hX0 h hj).1,(hX0 h hj).2⟩
    | succ j=>
     obtain ⟨h5,h6⟩:=hX j h hj
     exact ⟨h5,fun h7=>h6 (Z1.dead _ h7)⟩
   ·cases j with
    | zero=>
     cases j' with
     | zero=>rfl
     | succ j'=>exact absurd (hX0 h hj).1 (hX j' h hj').2
    | succ j=>
     cases j' with
     | zero=>exact absurd (hX0 h hj').1 (hX j h hj).2
     | succ j'=>rw [hinj j j' h hj hj']
theorem pass2 (I:Inv D st tm w g) (X:Nat→Option Pl):∀ (l:List (Md×Cell)) (as:List (Option LV)) (cvs:List Value) (ls:List LV) (k:Nat) (s1:St),(mapP give2 (l.zip as)).Ends st ls s1→as.length=l.length→l.length=cvs.length→
  (∀ (j:Nat) x cv,l[j]?=some x→cvs[j]?=some cv→okCell D st tm w g x.2 cv∧((x.1= .r∧as[j]?=some none)∨(x.1≠ .r∧ ∃ a,as[j]?=some (some a)∧got st w g X (k+j) x.1 a cv)))→
  s1=st∧ls.length=l.length∧ ∀ (j:Nat) x cv a,l[j]?=some x→cvs[j]?=some cv→ls[j]?=some a→got st w g X (k+j) x.1 a cv
 | [],as,cvs,ls,k,s1,he,ha,hl,hc=>by
  obtain ⟨rfl,rfl⟩:=Pr.er he
  exact ⟨rfl,rfl,fun j x cv a h=>by simp at h⟩
 | x::l,[],cvs,ls,k,s1,he,ha,hl,hc=>by simp at ha
 | x::l,a::as,[],ls,k,s1,he,ha,hl,hc=>by simp at hl
 | x::l,a::as,cv::cvs,ls,k,s1,he,ha,hl,hc=>by
  obtain ⟨b,s,h1,h2⟩:=Pr.eb he
  obtain ⟨hok,hcase⟩:=hc 0 x cv rfl rfl
  have head:s=st∧got st w g X k x.1 b cv:=by
   unfold give2 at h1
   rcases hcase with ⟨h5,h6⟩ | ⟨h5,a',h6,h7⟩
   ·simp only [List.getElem?_cons_zero,sj_] at h6
    subst h6
    obtain ⟨hs,hr⟩:=look_live I h1 hok.1 hok.2.2
    exact ⟨hs,by rw [h5];exact hr⟩
   ·simp only [List.getElem?_cons_zero,sj_] at h6
    subst h6
    obtain ⟨rfl,hs⟩:=Pr.er h1
    exact ⟨hs,h7⟩
  obtain ⟨hs,hg⟩:=head
  rw [hs] at h2
  obtain ⟨r,s',h3,h4⟩:=Pr.eb h2
  obtain ⟨rfl,hs'⟩:=Pr.er h4
  obtain ⟨h5,h6,h7⟩:=pass2 I X l as cvs r (k+1) s' h3 (by simpa using ha) (by simpa using hl) (fun j y c hy hcv=>by
   obtain ⟨h8,h9⟩:=hc (j+1) y c (by simpa using hy) (by simpa using hcv)
   rw [show k+1+j=k+(j+1) by omega]
   exact ⟨h8,by simpa using h9⟩)
  refine ⟨hs'.trans h5,by simp [h6],fun j y c b' hy hcv hb'=>?_⟩
  cases j with
  | zero=>
   simp only [List.getElem?_cons_zero,sj_] at hy hcv hb'
   subst hy;subst hcv;subst hb'
   exact hg
  | succ j=>
   have:=h7 j y c b' (by simpa using hy) (by simpa using hcv) (by simpa using hb')
   rwa [show k+1+j=k+(j+1) by omega] at this
theorem x_po (I:Inv D st tm w g) {l:List (Md×Cell)} {cvs:List Value} {ls:List LV} (he:(giveCs l).Ends st ls st') (hl:l.length=cvs.length)
  (hc:∀ (j:Nat) x,l[j]?=some x→ ∃ cv,cvs[j]?=some cv∧okCell D st tm w g x.2 cv) :
  ∃ g' X,Goes D D st tm w g st' tm w g'∧Z st g st' g'∧ls.length=l.length∧(∀ (j:Nat) x cv a,l[j]?=some x→cvs[j]?=some cv→ls[j]?=some a→got st' w g' X j x.1 a cv)∧
   (∀ j h,X j=some h→aAt st' h=some .dead)∧ ∀ j j' h,X j=some h→X j'=some h→j=j':=by
 obtain ⟨as,s,h1,h2⟩:=Pr.eb he
 obtain ⟨g',X,G,Z1,hl1,hk,hX,hinj⟩:=pass1 l cvs as I h1 hl hc
 obtain ⟨rfl,h3,h4⟩:=pass2 G.inv X l as cvs ls 0 st' h2 hl1 hl (fun j x cv hx hcv=>by rw [Nat.zero_add];exact hk j x cv hx hcv)
 exact ⟨g',X,G,Z1,h3,fun j x cv a hx hcv ha=>by have:=h4 j x cv a hx hcv ha;rwa [Nat.zero_add] at this,fun j h hj=>(hX j h hj).1,hinj⟩
end Go.Kn
namespace Go.Kn
variable [Ctx]
variable {P:Program} {D:Key×Nat→Prop} {st st':St} {tm:Array Value} {w w1:World} {g:Gh} {ds:List Deferred} {E:Env}
variable {T:Tab} {keep:Bool} {i:Nat} {o:Oper}
def hand (w:World) (g:Gh) (p:Pl) (m:Md) (a:LV) (cv:Value):Prop:=match m with
 | .f=>lrep w g g.fr false a.1 a.2 cv
 | .r=>lrep w g g.ro false a.1 a.2 cv
 | .x _=> ∃ x, ∃ v:List x.val,a=⟨.sl x,v⟩∧x_br w (g.own p) true (rep w g.fr x) x.cells v cv
structure Hands (w:World) (g:Gh) (lab:Nat→Pl) (ms:List Md) (ls:List LV) (vs:List Value):Prop where
 l1:ls.length=ms.length
 l2:vs.length=ms.length
 h:∀ (j:Nat) m a cv,ms[j]?=some m→ls[j]?=some a→vs[j]?=some cv→hand w g (lab j) m a cv
structure HandsN (w:World) (g:Gh) (lab:Nat→Pl) (ms:List Md) (ls:List LV) (vs:List Value):Prop where
 l1:ls.length=ms.length
 l2:vs.length=ms.length
 h:∀ (j:Nat) m a cv,ms[j]?=some m→ls[j]?=some a→vs[j]?=some cv→noR m=true→hand w g (lab j) m a cv
 hp:∀ (j:Nat) m cv,ms[j]?=some m→vs[j]?=some cv→noR m=false→x_d7 cv
def x_hv (agg:Bool) (v:Value):Prop:=if agg then ∃ u,v= .agg u else x_d7 v
def x_gu (w:World) (g:Gh):Nat→List Par→List LV→List Value→Prop
 | _,[],ls,vs=>ls=[]∧vs=[]
 | k, .val agg _ ms::ps,ls,vs=> ∃ l1 l2 v vs',ls=l1++l2∧vs=v::vs'∧Hands w g (fun j=>⟨false,k,j⟩) ms l1 v.cells.toList∧x_hv agg v∧x_gu w g (k+1) ps l2 vs'
 | k, .ptr _ ms o::ps,ls,vs=> ∃ l1 l2 vs' cells ty,ls=l1++l2∧vs= .pointer (some ⟨g.bb k,o,none⟩)::vs'∧g.γ (g.bb k)= .bx k∧
   w.heap[g.bb k]?=some (.cells cells ty (0,0))∧Hands w g (fun j=>⟨true,k,j⟩) ms l1 cells.toList∧x_gu w g (k+1) ps l2 vs'
 | k, .nl _::ps,ls,vs=> ∃ vs',vs= .slice none 0 0::vs'∧x_gu w g (k+1) ps ls vs'
 | k, .via j::ps,ls,vs=> ∃ vs' ty,vs= .pointer (some ⟨g.bb k,0,none⟩)::vs'∧g.γ (g.bb k)= .bx k∧w.heap[g.bb k]?=some (.cells #[.pointer (some ⟨g.bb j,0,none⟩)] ty (0,0))∧x_gu w g (k+1) ps ls vs'
def x_le (g:Gh) (w':World) (g':Gh):Nat→List Par→List LV→Prop
 | _,[],_=>True
 | k, .val _ _ _::ps,ls=>x_le g w' g' (k+1) ps ls
 | k, .ptr _ ms _::ps,ls=>(∃ cells ty,g'.γ (g.bb k)= .bx k∧w'.heap[g.bb k]?=some (.cells cells ty (0,0))∧Hands w' g' (fun j=>⟨true,k,j⟩) ms (ls.take ms.length) cells.toList)∧
   x_le g w' g' (k+1) ps (ls.drop ms.length)
 | k, .nl _::ps,ls=>x_le g w' g' (k+1) ps ls
 | k, .via j::ps,ls=>(∃ ty,g'.γ (g.bb k)= .bx k∧w'.heap[g.bb k]?=some (.cells #[.pointer (some ⟨g.bb j,0,none⟩)] ty (0,0)))∧x_le g w' g' (k+1) ps ls
def form (rs:List (Bool×ET×List Md)) (v:Value):Prop:=match rs with
 | [r]=>x_hv r.1 v∧v.cells.size=r.2.2.length
 | rs=> ∃ vs:Array Value,v= .tuple vs∧vs.size=rs.length∧ ∀ i (h:i<rs.length) (h':i<vs.size),x_hv rs[i].1 vs[i]∧vs[i].cells.size=rs[i].2.2.length
def Uni (w:World) (g:Gh):Prop:=(∀ b,g.γ b≠ .out→b<w.heap.size)∧LibOk w g
def fEnd (F:FSp) (w:World) (g:Gh) (r:(resE F.ps F.rs).val):Ending→World→Prop
 | .returned rv,w'=> ∃ g',Stp w g w' g'∧Uni w' g'∧form F.rs rv∧HandsN w' g' (fun j=>⟨false,0,j⟩) (F.rs.flatMap fun r=>r.2.2) ((lv _ r).take (resN F.rs)) (vcs rv)∧
   x_le g w' g' 0 F.ps ((lv _ r).drop (resN F.rs))
 | _,_=>False
def mEnd (F:FSp) (w:World) (g:Gh) (r:(resE F.ps F.rs).val):Ending→World→Prop
 | .returned rv,w'=> ∃ g' b cells ty,Stp w g w' g'∧Uni w' g'∧rv= .pointer (some ⟨b,0,none⟩)∧w.heap.size≤b∧g'.γ b≠ .fr∧w'.heap[b]?=some (.cells cells ty (0,0))∧cells.size=(lv _ r).length∧
   ∀ (j:Nat) a cv,(lv _ r)[j]?=some a→cells[j]?=some cv→lrep w' g' g'.fr false a.1 a.2 cv
 | _,_=>False
structure FOk (P:Program) (f:FuncId) (F:FSp):Prop where
 ent:∃ fn,P.funcs[f]?=some fn∧fn.body.isNone=false∧(fn.name == "runtime.NumGoroutine")=false
 mok:F.nv=true→ ∀ (w:World) (g:Gh) (vs:List Value) (ls:List LV) (v:(argE F.ps).val) (r:(resE F.ps F.rs).val),(∀ b,g.γ b= .fr∨g.γ b= .out)→Uni w g→ls.length=vs.length→
  (∀ (j:Nat) a cv,ls[j]?=some a→vs[j]?=some cv→x_d7 cv∧lrep w g g.fr false a.1 a.2 cv)→ofLV (argE F.ps) ls=some v→F.fn v=some r→Calls P f vs.toArray w (mEnd F w g r)
 ok:F.nv=false→ ∀ (w:World) (g:Gh) (vs:List Value) (ls:List LV) (v:(argE F.ps).val) (r:(resE F.ps F.rs).val),Uni w g→x_gu w g 0 F.ps ls vs→ofLV (argE F.ps) ls=some v→F.fn v=some r→
  Calls P f (x_pc F.pk vs).toArray w (fEnd F w g r)
theorem FOk.plain {f:FuncId} {F:FSp} (ent:∃ fn,P.funcs[f]?=some fn∧fn.body.isNone=false∧(fn.name == "runtime.NumGoroutine")=false) (hm:F.nv=false)
  (h:∀ (w:World) (g:Gh) (vs:List Value) (ls:List LV) (v:(argE F.ps).val) (r:(resE F.ps F.rs).val),Uni w g→x_gu w g 0 F.ps ls vs→ofLV (argE F.ps) ls=some v→F.fn v=some r→
  Calls P f (x_pc F.pk vs).toArray w (fEnd F w g r)):FOk P f F:=⟨ent,fun h'=>(by rw [hm] at h';cases h'),fun _=>h⟩
def x_ju (w:World) (g:Gh) (st:St):List Par→List (Md×Cell)→List (Nat×Nat)→List Value→List Value→Prop
 | [],a,ns,vs,cvs=>a=[]∧ns=[]∧vs=[]∧cvs=[]
 | .val agg _ ms::ps,a,ns,vs,cvs=> ∃ v vs' c a' cvs',vs=v::vs'∧a=ms.zip c++a'∧c.length=ms.length∧cvs=v.cells.toList++cvs'∧v.cells.size=ms.length∧x_hv agg v∧x_ju w g st ps a' ns vs' cvs'
 | .ptr _ ms o::ps,a,ns,vs,cvs=> ∃ n ns' vs' c a' vals ty cvs',vs= .pointer (some ⟨g.bb n,o,none⟩)::vs'∧ns=(n,ms.length)::ns'∧a=ms.zip c++a'∧c.length=ms.length∧
   (∃ t cs,st.bx.getD n none=some (t,cs)∧cs.length=ms.length)∧w.heap[g.bb n]?=some (.cells vals ty (0,0))∧vals.size=ms.length∧cvs=vals.toList++cvs'∧ms.all noR=true∧x_ju w g st ps a' ns' vs' cvs'
 | .nl _::ps,a,ns,vs,cvs=> ∃ vs',vs= .slice none 0 0::vs'∧x_ju w g st ps a ns vs' cvs
 | .via _::ps,a,ns,vs,cvs=> ∃ n ns' vs',vs= .pointer (some ⟨g.bb n,0,none⟩)::vs'∧ns=(n,1)::ns'∧(∃ t cs,st.bx.getD n none=some (t,cs)∧cs.length=1)∧x_ju w g st ps a ns' vs' cvs
theorem x_qa {ms:List Md} {c:List Cell} {us:List Value} (hl:c.length=ms.length) (hu:us.length=ms.length) (hc:∀ (j:Nat) x,c[j]?=some x→ ∃ cv,us[j]?=some cv∧okCell D st tm w g x cv) {a:List (Md×Cell)} {cvs:List Value}
  (hal:a.length=cvs.length) (ha:∀ (j:Nat) x,a[j]?=some x→ ∃ cv,cvs[j]?=some cv∧okCell D st tm w g x.2 cv) :
  (ms.zip c++a).length=(us++cvs).length∧ ∀ (j:Nat) x,(ms.zip c++a)[j]?=some x→ ∃ cv,(us++cvs)[j]?=some cv∧okCell D st tm w g x.2 cv:=by
 have hz:(ms.zip c).length=us.length:=by simp [hl,hu]
 refine ⟨by simp only [List.length_append,hz,hal],fun j x hx=>?_⟩
 rw [List.getElem?_append,hz] at hx
 rw [List.getElem?_append]
 split at hx
 ·rename_i h
  rw [if_pos h]
  rw [List.getElem?_zip_eq_some] at hx
  exact hc j x.2 hx.2
 ·rename_i h
  rw [if_neg h]
  exact ha _ x hx
theorem x_hj (I:Inv D st tm w g):∀ (ps:List Par) (xs:List SC) (vs:List Value) (r:List (Md×Cell)×List (Nat×Nat)) (s1:St),(x_qf ps xs).Ends st r s1→Opds D st tm w g xs vs→
  s1=st∧ ∃ cvs,x_ju w g st ps r.1 r.2 vs cvs∧r.1.length=cvs.length∧ ∀ (j:Nat) x,r.1[j]?=some x→ ∃ cv,cvs[j]?=some cv∧okCell D st tm w g x.2 cv
 | [],[],vs,r,s1,he,Os=>by
  obtain ⟨rfl,hs⟩:=Pr.er he
  cases Os
  exact ⟨hs,[],⟨rfl,rfl,rfl,rfl⟩,rfl,fun j x h=>by simp at h⟩
 | [],x::xs,vs,r,s1,he,Os=>(Pr.ef he).elim
 | .val agg e ms::ps,[],vs,r,s1,he,Os=>(Pr.ef he).elim
 | .ptr e ms _::ps,[],vs,r,s1,he,Os=>(Pr.ef he).elim
 | .via j::ps,[],vs,r,s1,he,Os=>(Pr.ef he).elim
 | .nl y::ps,[],vs,r,s1,he,Os=>(Pr.ef he).elim
 | .nl y::ps,x::xs,_,r,s1,he, .cons (v:=v) (vs:=vs) O Os=>by
  cases x with
  | one c=>
   cases c with
   | nil e=>
    simp only [x_qf] at he
    split at he
    ·obtain ⟨hs2,cvs,h5,h6,h7⟩:=x_hj I ps xs vs r s1 he Os
     have hv:v= .slice none 0 0:=O.one.2.2.2
     exact ⟨hs2,cvs,⟨vs,by rw [hv],h5⟩,h6,h7⟩
    ·exact (Pr.ef he).elim
   | _=>exact (Pr.ef he).elim
  | _=>exact (Pr.ef he).elim
 | .via j::ps,x::xs,_,r,s1,he, .cons (v:=v) (vs:=vs) O Os=>by
  cases x with
  | one c=>
   cases c with
   | ptr n t off=>
    cases off with
    | succ _=>exact (Pr.ef he).elim
    | zero=>
     simp only [x_qf] at he
     obtain ⟨⟨t1,cs1,hb1,hl1⟩,he⟩:=Pr.ends_ln he
     obtain ⟨x,hx,he⟩:=Pr.ends_rb he
     obtain ⟨hb,he⟩:=Pr.ek he
     obtain ⟨b,s',h3,h4⟩:=Pr.eb he
     obtain ⟨rfl,hs'⟩:=Pr.er h4
     obtain ⟨hs2,cvs,h5,h6,h7⟩:=x_hj I ps xs vs b s' h3 Os
     obtain ⟨cs',h8,h9⟩:=x_fx I hx
     have hok:okBx st n t=true:=x_ek.2 ⟨cs',by rw [h8,beq_iff_eq.1 hb]⟩
     have hv:=O.one.2.2.2 hok
     exact ⟨hs'.trans hs2,cvs,⟨n,b.2,vs,by rw [hv],rfl,⟨t1,cs1,hb1,hl1⟩,h5⟩,h6,h7⟩
   | _=>exact (Pr.ef he).elim
  | _=>exact (Pr.ef he).elim
 | .val agg e ms::ps,x::xs,_,r,s1,he, .cons (v:=v) (vs:=vs) O Os=>by
  obtain ⟨a,s,h1,h2⟩:=Pr.eb he
  obtain ⟨b,s',h3,h4⟩:=Pr.eb h2
  obtain ⟨rfl,hs'⟩:=Pr.er h4
  have head:s=st∧ ∃ c,a=ms.zip c∧c.length=ms.length∧c.length=v.cells.toList.length∧(∀ (j:Nat) y,c[j]?=some y→ ∃ cv,v.cells.toList[j]?=some cv∧okCell D st tm w g y cv)∧x_hv agg v:=by
   unfold zipV at h1
   split at h1
   ·rename_i cs
    split at h1
    ·rename_i hl
     obtain ⟨rfl,hs⟩:=Pr.er h1
     obtain ⟨h5,h6⟩:=x_fp (agg:=true) O (.inl ⟨rfl,rfl⟩)
     obtain ⟨us,rfl,_⟩:=O.agg
     exact ⟨hs,cs,rfl,hl.symm,h5,h6,_,rfl⟩
    ·exact (Pr.ef h1).elim
   ·rename_i c
    split at h1
    ·rename_i hl
     obtain ⟨rfl,hs⟩:=Pr.er h1
     obtain ⟨h5,h6⟩:=x_fp (agg:=false) O (.inr ⟨rfl,_,rfl,rfl⟩)
     exact ⟨hs,[c],rfl,hl.symm,h5,h6,O.one.1⟩
    ·exact (Pr.ef h1).elim
   ·exact (Pr.ef h1).elim
  obtain ⟨hs,c,rfl,hl,hlv,hc,hf⟩:=head
  rw [hs] at h3
  obtain ⟨hs2,cvs,h5,h6,h7⟩:=x_hj I ps xs vs b s' h3 Os
  obtain ⟨h8,h9⟩:=x_qa hl (by omega) hc h6 h7
  exact ⟨hs'.trans hs2,_,⟨v,vs,c,_,cvs,rfl,rfl,hl,rfl,by simp at hlv;omega,hf,h5⟩,h8,h9⟩
 | .ptr e ms o::ps,x::xs,_,r,s1,he, .cons (v:=v) (vs:=vs) O Os=>by
  cases x with
  | one c=>
   cases c with
   | ptr n t off=>
    simp only [x_qf] at he
    split at he
    ·exact (Pr.ef he).elim
    ·rename_i hm
     simp only [Bool.or_eq_true,not_or,decide_eq_true_eq,Bool.not_eq_true',Bool.not_eq_false,beq_iff_eq] at hm
     obtain ⟨hm,rfl⟩:=hm
     obtain ⟨⟨t1,cs1,hb1,hl1⟩,he⟩:=Pr.ends_ln he
     obtain ⟨c,s,h1,h2⟩:=Pr.eb he
     obtain ⟨hs,hl,hb,hc⟩:=x_f1 I _ _ _ _ h1
     rw [hs] at h2
     obtain ⟨b,s',h3,h4⟩:=Pr.eb h2
     obtain ⟨rfl,hs'⟩:=Pr.er h4
     obtain ⟨hs2,cvs,h5,h6,h7⟩:=x_hj I ps xs vs b s' h3 Os
     have hv:=O.one.2.2.2 (hb (by omega))
     obtain ⟨_,_,vals,ty,hh,hsz⟩:=I.box n t1 cs1 hb1
     have hcc:∀ (j:Nat) y,c[j]?=some y→ ∃ cv,vals.toList[j]?=some cv∧okCell D st tm w g y cv:=by
      intro j y hy
      obtain ⟨c0,h8,h9⟩:=hc j y hy
      obtain ⟨k1,k2,cv,k3,k4⟩:=x_jd I h8 h9 p0
      refine ⟨cv,?_,k1,k2,k4⟩
      simpa [cAt,bcell,hh] using k3
     obtain ⟨h8,h9⟩:=x_qa (ms:=ms) hl (by simp;omega) hcc h6 h7
     exact ⟨hs'.trans hs2,_,⟨n,b.2,vs,c,b.1,vals,ty,cvs,by rw [hv],rfl,rfl,hl,⟨t1,cs1,hb1,hl1⟩,hh,by omega,rfl,hm.2,h5⟩,h8,h9⟩
   | _=>exact (Pr.ef he).elim
  | _=>exact (Pr.ef he).elim
end Go.Kn
namespace Go.Kn
variable [Ctx]
variable {P:Program} {D:Key×Nat→Prop} {st st':St} {tm:Array Value} {w w1:World} {g:Gh} {ds:List Deferred} {E:Env}
variable {T:Tab} {keep:Bool} {i:Nat} {o:Oper}
theorem x_lw {n off:Nat} {c:Cell} (h:aAt st ⟨true,n,off⟩≠none):Turns st (Wr.put st (.bc n off c)) fun q=>if q=⟨true,n,off⟩ then some c else none:=
 x_do (h:=⟨true,n,off⟩) (c:=c) ⟨[],[.bc n off c],⟨[],rfl,rfl,rfl,rfl⟩,rfl⟩ h
theorem x_p1 {n s:Nat} {tm:Array Value} {w:World} {g:Gh}:∀ (cs:List Cell) (off:Nat) {D:Key×Nat→Prop} {st s1:St},Inv D st tm w g→(x_yn n off cs).Ends st () s1→
  (∀ j,off≤j→ ¬ D (.c ⟨true,n,j⟩,s))→(∀ j,j<cs.length→aAt st ⟨true,n,off+j⟩≠none)→
  (∀ (j:Nat) c,cs[j]?=some c→c= .dead∨ ∃ e v,(c= .val .f e v∨c= .val (.x s) e v)∧ ∀ cv st',cAt tm w g ⟨true,n,off+j⟩=some cv→x_b5 st' tm w g ⟨true,n,off+j⟩ c cv)→
  ∃ D',Goes D D' st tm w g s1 tm w g∧(∀ q t,D' (q,t)→D (q,t)∨t=s∧ ∃ j,off≤j∧q= .c ⟨true,n,j⟩)∧
   (∀ q,aAt s1 q=if q.bx=true∧q.n=n∧off≤q.c∧q.c<off+cs.length then cs[q.c-off]? else aAt st q)∧
   ∀ m,((s1.bx.getD m none).map fun b=>(b.1,b.2.length))=((st.bx.getD m none).map fun b=>(b.1,b.2.length))
 | [],off,D,st,s1,I,he,hf,ha,hc=>by
  obtain ⟨_,rfl⟩:=Pr.er he
  exact ⟨D, .refl I,fun q t h=> .inl h,fun q=>by rw [if_neg (by rintro ⟨_,_,h1,h2⟩;simp at h2;omega)],fun _=>rfl⟩
 | c::cs,off,D,st,s1,I,he,hf,ha,hc=>by
  have he:=Pr.ends_wr he
  have h0:=ha 0 (by simp)
  rw [Nat.add_zero] at h0
  have T:=x_lw (c:=c) h0
  have hc0:=hc 0 c rfl
  rw [Nat.add_zero] at hc0
  have G1:Goes D (fun t=>D t∨t=(.c ⟨true,n,off⟩,s)) st tm w g (Wr.put st (.bc n off c)) tm w g:=by
   refine (I.turn (g':=g) T rfl (fun b hb=>hb) (fun b hb=>hb) (fun b n hb=>hb) (fun b hb=>hb) (fun q _ b hb=>hb) ?_ ?_ fun _ h=> .inl h).goes I (Stp.refl w g)
   ·intro q d hq
    by_cases hqh:q=⟨true,n,off⟩
    ·subst hqh
     simp only [if_true,sj_] at hq
     subst hq
     rcases hc0 with rfl | ⟨e,v,hcv,hr⟩
     ·exact ⟨by simp [stC],fun _ _=>trivial⟩
     ·refine ⟨fun t ht=>?_,fun cv hcv'=>hr cv _ hcv'⟩
      rcases hcv with rfl | rfl
      ·simp [stC] at ht
      ·simp only [stC,List.mem_singleton] at ht;exact .inr ht
    ·simp [hqh] at hq
   ·intro q t x v hq
    by_cases hqh:q=⟨true,n,off⟩
    ·subst hqh
     simp only [if_true,sj_] at hq
     subst hq
     rcases hc0 with h | ⟨e,v',h | h,_⟩
     ·simp at h
     ·simp at h
     ·simp only [Cell.val.injEq,Md.x.injEq] at h
      rw [h.1];exact hf off (Nat.le_refl _)
    ·simp [hqh] at hq
  obtain ⟨D',G2,hD,hat,hlen⟩:=x_p1 cs (off+1) G1.inv he (fun j hj h=>by
   rcases h with h | h
   ·exact hf j (by omega) h
   ·simp only [Prod.mk.injEq,Key.c.injEq,Pl.mk.injEq,true_and,and_true] at h
    omega) (fun j hj=>by
   rw [T.at_]
   split
   ·simp
   ·have:=ha (j+1) (by simpa using hj)
    rwa [show off+(j+1)=off+1+j by omega] at this) (fun j d hd=>by
   have:=hc (j+1) d (by simpa using hd)
   rwa [show off+(j+1)=off+1+j by omega] at this)
  refine ⟨D',G1.trans G2,fun q t h=>?_,fun q=>?_,fun m=>(hlen m).trans (T.bx m)⟩
  ·rcases hD q t h with (h | h) | ⟨h,j,h3,h4⟩
   ·exact .inl h
   ·simp only [Prod.mk.injEq] at h
    exact .inr ⟨h.2,off,Nat.le_refl _,h.1⟩
   ·exact .inr ⟨h,j,by omega,h4⟩
  ·rw [hat,T.at_]
   obtain ⟨b,m,k⟩:=q
   simp only [List.length_cons]
   by_cases hq:b=true∧m=n∧off≤k∧k<off+(cs.length+1)
   ·rw [if_pos hq]
    obtain ⟨rfl,rfl,h1,h2⟩:=hq
    by_cases hk:k=off
    ·subst hk
     rw [if_neg (by omega)]
     simp
    ·rw [if_pos ⟨rfl,rfl,by omega,by omega⟩,show k-off=(k-(off+1))+1 by omega]
     simp
   ·rw [if_neg hq,if_neg (by rintro ⟨h1,h2,h3,h4⟩;exact hq ⟨h1,h2,by omega,by omega⟩)]
    have:(⟨b,m,k⟩ : Pl)≠⟨true,n,off⟩:=fun e=>by
     simp only [Pl.mk.injEq] at e
     exact hq ⟨e.1,e.2.1,by omega,by omega⟩
    simp [this]
theorem x_v5 {n:Nat} {tm:Array Value} {w:World} {g:Gh} {D:Key×Nat→Prop}:∀ (k off:Nat) {st s1:St},Inv D st tm w g→(x_yn n off (List.replicate k .dead)).Ends st () s1→
  (∀ j,j<k→aAt st ⟨true,n,off+j⟩≠none)→
  Goes D D st tm w g s1 tm w g∧(∀ q,aAt s1 q=if q.bx=true∧q.n=n∧off≤q.c∧q.c<off+k then some .dead else aAt st q)∧
   ∀ m,((s1.bx.getD m none).map fun b=>(b.1,b.2.length))=((st.bx.getD m none).map fun b=>(b.1,b.2.length))
 | 0,off,st,s1,I,he,ha=>by
  obtain ⟨_,rfl⟩:=Pr.er he
  exact ⟨.refl I,fun q=>by rw [if_neg (by rintro ⟨_,_,h1,h2⟩;omega)],fun _=>rfl⟩
 | k+1,off,st,s1,I,he,ha=>by
  have he:=Pr.ends_wr he
  have h0:=ha 0 (by simp)
  rw [Nat.add_zero] at h0
  have T:=x_lw (c:= .dead) h0
  have G1:Goes D D st tm w g (Wr.put st (.bc n off .dead)) tm w g:=by
   refine (I.turn (g':=g) T rfl (fun b hb=>hb) (fun b hb=>hb) (fun b n hb=>hb) (fun b hb=>hb) (fun q _ b hb=>hb) ?_ ?_ fun _ h=>h).goes I (Stp.refl w g)
   ·intro q d hq
    by_cases hqh:q=⟨true,n,off⟩
    ·simp only [hqh,if_true,sj_] at hq
     subst hq
     exact ⟨by simp [stC],fun _ _=>trivial⟩
    ·simp [hqh] at hq
   ·intro q t x v hq
    by_cases hqh:q=⟨true,n,off⟩
    ·simp [hqh] at hq
    ·simp [hqh] at hq
  obtain ⟨G2,hat,hlen⟩:=x_v5 k (off+1) G1.inv he (fun j hj=>by
   rw [T.at_]
   split
   ·simp
   ·have:=ha (j+1) (by omega)
    rwa [show off+(j+1)=off+1+j by omega] at this)
  refine ⟨G1.trans G2,fun q=>?_,fun m=>(hlen m).trans (T.bx m)⟩
  rw [hat,T.at_]
  obtain ⟨b,m,c⟩:=q
  dsimp only
  by_cases hq:b=true∧m=n∧off≤c∧c<off+(k+1)
  ·rw [if_pos hq]
   obtain ⟨rfl,rfl,h1,h2⟩:=hq
   by_cases hk:c=off
   ·subst hk
    rw [if_neg (by omega)]
    simp
   ·rw [if_pos ⟨rfl,rfl,by omega,by omega⟩]
  ·rw [if_neg hq,if_neg (by rintro ⟨h1,h2,h3,h4⟩;exact hq ⟨h1,h2,by omega,by omega⟩)]
   have:(⟨b,m,c⟩ : Pl)≠⟨true,n,off⟩:=fun e=>by
    simp only [Pl.mk.injEq] at e
    exact hq ⟨e.1,e.2.1,by omega,by omega⟩
   simp [this]
theorem x_ox {n t:Nat} {cs:List Cell} (h:st.bx.getD n none=some (t,cs)) (j:Nat):aAt st ⟨true,n,j⟩=cs[j]?:=by
 simp only [aAt,if_true,getb,h,Option.bind_some,Option.map_map]
 cases cs[j]?<;>rfl
theorem x_tb {tm:Array Value} {w:World} {g:Gh} {D:Key×Nat→Prop}:∀ (ns:List (Nat×Nat)) {st s1:St},Inv D st tm w g→(kills ns).Ends st () s1→
  (∀ x∈ns, ∃ t cs,st.bx.getD x.1 none=some (t,cs)∧cs.length=x.2)→
  Goes D D st tm w g s1 tm w g∧(∀ p,aAt st p=some .dead→aAt s1 p=some .dead)∧(∀ x∈ns, ∀ j c,aAt s1 ⟨true,x.1,j⟩=some c→c= .dead)∧
   ∀ m,((s1.bx.getD m none).map fun b=>(b.1,b.2.length))=((st.bx.getD m none).map fun b=>(b.1,b.2.length))
 | [],st,s1,I,he,hb=>by
  obtain ⟨_,rfl⟩:=Pr.er he
  exact ⟨.refl I,fun _ h=>h,by simp,fun _=>rfl⟩
 | x::ns,st,s1,I,he,hb=>by
  obtain ⟨uu,s,h1,h2⟩:=Pr.eb he
  cases uu
  obtain ⟨t,cs,hx,hl⟩:=hb x (by simp)
  obtain ⟨G1,hat,hlen⟩:=x_v5 x.2 0 I h1 (fun j hj=>by rw [x_ox hx,Nat.zero_add,ge_ (by omega)];simp)
  obtain ⟨G2,k1,k2,k3⟩:=x_tb ns G1.inv h2 (fun y hy=>by
   obtain ⟨t',cs',h3,h4⟩:=hb y (by simp [hy])
   have:=hlen y.1
   rw [h3] at this
   cases h5:s.bx.getD y.1 none with
   | none=>rw [h5] at this;simp at this
   | some b=>
    rw [h5] at this
    simp only [Option.map_some,sj_,Prod.mk.injEq] at this
    exact ⟨b.1,b.2,rfl,by omega⟩)
  have hdead1:∀ p,aAt st p=some .dead→aAt s p=some .dead:=fun p hp=>by
   rw [hat];split<;>first | rfl | exact hp
  refine ⟨G1.trans G2,fun p hp=>k1 p (hdead1 p hp),fun y hy j c hc=>?_,fun m=>(k3 m).trans (hlen m)⟩
  rcases List.mem_cons.1 hy with rfl | hy
  ·have hj:aAt s ⟨true,y.1,j⟩=some .dead∨aAt s ⟨true,y.1,j⟩=none:=by
    rw [hat]
    by_cases h:j<y.2
    ·left;rw [if_pos ⟨rfl,rfl,Nat.zero_le _,by simpa using h⟩]
    ·right
     rw [if_neg (by rintro ⟨_,_,_,h'⟩;simp at h';exact h h'),x_ox hx,List.getElem?_eq_none (by omega)]
   rcases hj with hj | hj
   ·have:=k1 _ hj
    rw [this] at hc
    exact (Option.some.inj hc).symm
   ·exfalso
    have hm:=k3 y.1
    have hm0:=hlen y.1
    rw [hx] at hm0
    cases h5:s1.bx.getD y.1 none with
    | none=>simp only [aAt,if_true,getb,h5] at hc;simp at hc
    | some b=>
     cases h6:s.bx.getD y.1 none with
     | none=>rw [h5,h6] at hm;simp at hm
     | some b'=>
      rw [h5,h6] at hm
      simp only [Option.map_some,sj_,Prod.mk.injEq] at hm
      obtain ⟨t1,c1⟩:=b
      obtain ⟨t2,c2⟩:=b'
      rw [x_ox h5] at hc
      rw [x_ox h6] at hj
      have:=(List.getElem?_eq_some_iff.1 hc).1
      rw [List.getElem?_eq_none_iff] at hj
      simp only at hm
      omega
  ·exact k2 y hy j c hc
end Go.Kn
namespace Go.Kn
variable [Ctx]
open Classical
variable {P:Program} {D:Key×Nat→Prop} {st st':St} {tm:Array Value} {w w1:World} {g:Gh} {ds:List Deferred} {E:Env}
variable {T:Tab} {keep:Bool} {i:Nat} {o:Oper}
def labs:Nat→List Par→List Pl
 | _,[]=>[]
 | k, .val _ _ ms::ps=>(List.range ms.length).map (fun j=>⟨false,k,j⟩)++labs (k+1) ps
 | k, .ptr _ ms _::ps=>(List.range ms.length).map (fun j=>⟨true,k,j⟩)++labs (k+1) ps
 | k, .via _::ps=>labs (k+1) ps
 | k, .nl _::ps=>labs (k+1) ps
theorem x_mh:∀ (ps:List Par) (k:Nat) (ns:List (Nat×Nat)) (x:Nat×Nat),x∈prs k ps ns→k≤x.1∧ ∃ l,(x.2,l)∈ns
 | [],k,ns,x,h=>by simp [prs] at h
 | .val _ _ _::ps,k,ns,x,h=>by
  obtain ⟨h1,h2⟩:=x_mh ps (k+1) ns x h
  exact ⟨by omega,h2⟩
 | .ptr _ _ _::ps,k,[],x,h=>by simp [prs] at h
 | .ptr _ _ _::ps,k,n::ns,x,h=>by
  simp only [prs,List.mem_cons] at h
  rcases h with rfl | h
  ·exact ⟨Nat.le_refl _,n.2,by simp⟩
  ·obtain ⟨h1,l,h2⟩:=x_mh ps (k+1) ns x h
   exact ⟨by omega,l,by simp [h2]⟩
 | .nl _::ps,k,ns,x,h=>by
  obtain ⟨h1,h2⟩:=x_mh ps (k+1) ns x h
  exact ⟨by omega,h2⟩
 | .via _::ps,k,[],x,h=>by simp [prs] at h
 | .via _::ps,k,n::ns,x,h=>by
  simp only [prs,List.mem_cons] at h
  rcases h with rfl | h
  ·exact ⟨Nat.le_refl _,n.2,by simp⟩
  ·obtain ⟨h1,l,h2⟩:=x_mh ps (k+1) ns x h
   exact ⟨by omega,l,by simp [h2]⟩
theorem x_s3:∀ (ps:List Par) (k:Nat) (ns:List (Nat×Nat)) (a n n':Nat),(a,n)∈prs k ps ns→(a,n')∈prs k ps ns→n=n'
 | [],k,ns,a,n,n',h,_=>by simp [prs] at h
 | .val _ _ _::ps,k,ns,a,n,n',h,h'=>x_s3 ps (k+1) ns a n n' h h'
 | .ptr _ _ _::ps,k,[],a,n,n',h,_=>by simp [prs] at h
 | .ptr _ _ _::ps,k,m::ns,a,n,n',h,h'=>by
  simp only [prs,List.mem_cons,Prod.mk.injEq] at h h'
  rcases h with ⟨rfl,rfl⟩ | h
  ·rcases h' with ⟨_,rfl⟩ | h'
   ·rfl
   ·have:=(x_mh _ _ _ _ h').1;simp at this;omega
  ·rcases h' with ⟨rfl,rfl⟩ | h'
   ·have:=(x_mh _ _ _ _ h).1;simp at this;omega
   ·exact x_s3 ps (k+1) ns a n n' h h'
 | .nl _::ps,k,ns,a,n,n',h,h'=>x_s3 ps (k+1) ns a n n' h h'
 | .via _::ps,k,[],a,n,n',h,_=>by simp [prs] at h
 | .via _::ps,k,m::ns,a,n,n',h,h'=>by
  simp only [prs,List.mem_cons,Prod.mk.injEq] at h h'
  rcases h with ⟨rfl,rfl⟩ | h
  ·rcases h' with ⟨_,rfl⟩ | h'
   ·rfl
   ·have:=(x_mh _ _ _ _ h').1;simp at this;omega
  ·rcases h' with ⟨rfl,rfl⟩ | h'
   ·have:=(x_mh _ _ _ _ h).1;simp at this;omega
   ·exact x_s3 ps (k+1) ns a n n' h h'
theorem x_mm {l:List Nat} {n:Nat} (h:x_uf (n::l)=true):n∉l∧x_uf l=true:=by
 simp only [x_uf,Bool.and_eq_true,Bool.not_eq_true'] at h
 exact ⟨fun hm=>by simp [hm] at h,h.2⟩
theorem x_s5:∀ (ps:List Par) (k:Nat) (ns:List (Nat×Nat)) (a a' n:Nat),x_uf (ns.map (·.1))=true→(a,n)∈prs k ps ns→(a',n)∈prs k ps ns→a=a'
 | [],k,ns,a,a',n,_,h,_=>by simp [prs] at h
 | .val _ _ _::ps,k,ns,a,a',n,hn,h,h'=>x_s5 ps (k+1) ns a a' n hn h h'
 | .ptr _ _ _::ps,k,[],a,a',n,_,h,_=>by simp [prs] at h
 | .ptr _ _ _::ps,k,m::ns,a,a',n,hn,h,h'=>by
  obtain ⟨h1,h2⟩:=x_mm (by simpa using hn)
  have hout:∀ x,(x,m.1)∈prs (k+1) ps ns→False:=fun x hx=>by
   obtain ⟨_,l,hl⟩:=x_mh _ _ _ _ hx
   exact h1 (List.mem_map.2 ⟨_,hl,rfl⟩)
  simp only [prs,List.mem_cons,Prod.mk.injEq] at h h'
  rcases h with ⟨rfl,rfl⟩ | h
  ·rcases h' with ⟨rfl,_⟩ | h'
   ·rfl
   ·exact (hout _ h').elim
  ·rcases h' with ⟨rfl,rfl⟩ | h'
   ·exact (hout _ h).elim
   ·exact x_s5 ps (k+1) ns a a' n h2 h h'
 | .nl _::ps,k,ns,a,a',n,hn,h,h'=>x_s5 ps (k+1) ns a a' n hn h h'
 | .via _::ps,k,[],a,a',n,_,h,_=>by simp [prs] at h
 | .via _::ps,k,m::ns,a,a',n,hn,h,h'=>by
  obtain ⟨h1,h2⟩:=x_mm (by simpa using hn)
  have hout:∀ x,(x,m.1)∈prs (k+1) ps ns→False:=fun x hx=>by
   obtain ⟨_,l,hl⟩:=x_mh _ _ _ _ hx
   exact h1 (List.mem_map.2 ⟨_,hl,rfl⟩)
  simp only [prs,List.mem_cons,Prod.mk.injEq] at h h'
  rcases h with ⟨rfl,rfl⟩ | h
  ·rcases h' with ⟨rfl,_⟩ | h'
   ·rfl
   ·exact (hout _ h').elim
  ·rcases h' with ⟨rfl,rfl⟩ | h'
   ·exact (hout _ h).elim
   ·exact x_s5 ps (k+1) ns a a' n h2 h h'
noncomputable def rho (X:Nat→Option Pl) (L:List Pl) (K:List (Nat×Nat)):Tg→Tg
 | .fr=> .fr
 | .lent=> .lent
 | .out=> .out
 | .row h=>if hx:∃ j,X j=some h then .row (L.getD hx.choose p0) else .lent
 | .bx n=>if hk:∃ k,(k,n)∈K then .bx hk.choose else .out
noncomputable def calG (g1:Gh) (X:Nat→Option Pl) (L:List Pl) (K:List (Nat×Nat)):Gh:=
 {γ:=fun b=>rho X L K (g1.γ b),bb:=fun k=>if hk:∃ n,(k,n)∈K then g1.bb hk.choose else 0 }
noncomputable def sig (d:Nat) (K:List (Nat×Nat)):Tg→Tg
 | .fr=> .fr
 | .row ⟨false,_,j⟩=> .row ⟨false,d,j⟩
 | .row ⟨true,k,j⟩=>if hk:∃ n,(k,n)∈K then .row ⟨true,hk.choose,j⟩ else .out
 | _=> .out
noncomputable def retG (w:World) (g1 gc':Gh) (X:Nat→Option Pl) (K:List (Nat×Nat)) (d:Nat):Gh:=
 {γ:=fun b=>match g1.γ b with
   | .fr=> .fr
   | .lent=> .lent
   | .row h=>if ∃ j,X j=some h then sig d K (gc'.γ b) else .row h
   | .bx n=>if (∃ k,(k,n)∈K)∧b≠g1.bb n then sig d K (gc'.γ b) else .bx n
   | .out=>if b<w.heap.size then .out else sig d K (gc'.γ b)
  bb:=g1.bb }
theorem calG_bb {g1:Gh} {X:Nat→Option Pl} {L:List Pl} {K:List (Nat×Nat)} (hK:∀ a n n',(a,n)∈K→(a,n')∈K→n=n') {k n:Nat} (h:(k,n)∈K):(calG g1 X L K).bb k=g1.bb n:=by
 have hx:∃ n,(k,n)∈K:=⟨n,h⟩
 simp only [calG,dif_pos hx]
 rw [hK _ _ _ hx.choose_spec h]
theorem rho_bx {X:Nat→Option Pl} {L:List Pl} {K:List (Nat×Nat)} (hK:∀ a a' n,(a,n)∈K→(a',n)∈K→a=a') {k n:Nat} (h:(k,n)∈K):rho X L K (.bx n)= .bx k:=by
 have hx:∃ k,(k,n)∈K:=⟨k,h⟩
 simp only [rho,dif_pos hx]
 rw [hK _ _ _ hx.choose_spec h]
theorem x_xj {g1:Gh} {X:Nat→Option Pl} {L:List Pl} {K:List (Nat×Nat)} {s1:St} (hX:∀ j h,X j=some h→aAt s1 h=some .dead) (hinj:∀ j j' h,X j=some h→X j'=some h→j=j')
  {j:Nat} {m:Md} {a:LV} {cv:Value} {p:Pl} (hp:L[j]?=some p) (h:got s1 w g1 X j m a cv):hand w (calG g1 X L K) p m a cv:=by
 have hfr:∀ b,g1.γ b= .fr→(calG g1 X L K).γ b= .fr:=fun b hb=>by simp [calG,rho,hb]
 cases m with
 | f=>exact lrep.mono h (fun b hb=>⟨hfr b hb,rfl⟩) fun b hb=>⟨hfr b hb,rfl⟩
 | r=>
  refine lrep.mono h (fun b hb=>⟨?_,rfl⟩) fun b hb=>⟨hfr b hb,rfl⟩
  rcases hb with hb | hb | ⟨q,hb,hq⟩
  ·exact .inl (hfr b hb)
  ·right;simp [calG,rho,hb]
  ·right
   have:¬ ∃ j,X j=some q:=fun ⟨j,hj⟩=>hq (hX j q hj)
   simp [calG,rho,hb,this]
 | x t=>
  obtain ⟨x,v,rfl,h⟩:=h
  refine ⟨x,v,rfl,?_⟩
  rcases h with ⟨rfl,rfl⟩ | ⟨q,hq,hr⟩
  ·exact x_br.nil rfl rfl
  ·refine x_br.mono hr (fun b hb=>?_) (fun _ _=>rfl) fun a cs _ hr=>rep.mono hfr (fun _ _=>rfl) _ _ _ hr
   have hx:∃ j,X j=some q:=⟨j,hq⟩
   have hj:hx.choose=j:=hinj _ _ _ hx.choose_spec hq
   show rho X L K (g1.γ b)= .row p
   rw [show g1.γ b= .row q from hb]
   simp only [rho,dif_pos hx,hj,gd_,hp,Option.getD_some]
theorem x_zn {ms:List Md} {c:List Cell} {a:List (Md×Cell)} (hc:c.length=ms.length):(∀ (j:Nat) m,ms[j]?=some m→ ∃ y,(ms.zip c++a)[j]?=some (m,y))∧ ∀ (j:Nat) x,a[j]?=some x→(ms.zip c++a)[ms.length+j]?=some x:=by
 have hz:(ms.zip c).length=ms.length:=by simp [hc]
 constructor
 ·intro j m hm
  have hj:=(List.getElem?_eq_some_iff.1 hm).1
  refine ⟨c[j]'(by omega),?_⟩
  rw [List.getElem?_append_left (by omega),List.getElem?_zip_eq_some]
  exact ⟨hm,ge_ (by omega)⟩
 ·intro j x hx
  rw [List.getElem?_append_right (by omega),hz,Nat.add_sub_cancel_left]
  exact hx
def x_js (w:World) (g:Gh) (K:List (Nat×Nat)):List Par→List (Nat×Nat)→List (Nat×Cell)→Prop
 | .val _ _ _::ps,ns,r=>x_js w g K ps ns r
 | .nl _::ps,ns,r=>x_js w g K ps ns r
 | .ptr _ _ _::ps,_::ns,r=>x_js w g K ps ns r
 | .via j::ps,n::ns,r=> ∃ m t r' ty,r=(n.1, .ptr m t 0)::r'∧(j,m)∈K∧w.heap[g.bb n.1]?=some (.cells #[.pointer (some ⟨g.bb m,0,none⟩)] ty (0,0))∧x_js w g K ps ns r'
 | _,_,r=>r=[]
theorem x_kx (I:Inv D st tm w g) (K:List (Nat×Nat)):∀ (ps:List Par) (ns:List (Nat×Nat)) (r:List (Nat×Cell)) (s1:St),(viaP K ps ns).Ends st r s1→s1=st∧x_js w g K ps ns r
 | [],ns,r,s1,he=>by obtain ⟨rfl,hs⟩:=Pr.er he;exact ⟨hs,rfl⟩
 | .val _ _ _::ps,ns,r,s1,he=>x_kx I K ps ns r s1 he
 | .nl _::ps,ns,r,s1,he=>x_kx I K ps ns r s1 he
 | .ptr _ _ _::ps,[],r,s1,he=>by obtain ⟨rfl,hs⟩:=Pr.er he;exact ⟨hs,rfl⟩
 | .ptr _ _ _::ps,n::ns,r,s1,he=>x_kx I K ps ns r s1 he
 | .via _::ps,[],r,s1,he=>by obtain ⟨rfl,hs⟩:=Pr.er he;exact ⟨hs,rfl⟩
 | .via j::ps,n::ns,r,s1,he=>by
  simp only [viaP] at he
  obtain ⟨⟨t1,cs1,hb1,hl1⟩,he⟩:=Pr.ends_ln he
  obtain ⟨x,hx,he⟩:=Pr.ends_rb he
  obtain ⟨cs',h8,h9⟩:=x_fx I hx
  obtain ⟨x1,x2⟩:=x
  simp only at he h8 h9
  cases x2 with
  | ptr m t off=>
   cases off with
   | succ _=>exact (Pr.ef he).elim
   | zero=>
    simp only at he
    split at he
    ·rename_i hK
     obtain ⟨y,hy,he⟩:=Pr.ends_rb he
     obtain ⟨hb,he⟩:=Pr.ek he
     obtain ⟨b,s',h3,h4⟩:=Pr.eb he
     obtain ⟨rfl,hs'⟩:=Pr.er h4
     obtain ⟨hs2,h5⟩:=x_kx I K ps ns b s' h3
     obtain ⟨cs2,h10,h11⟩:=x_fx I hy
     have hok:okBx st m t=true:=x_ek.2 ⟨cs2,by rw [h10,beq_iff_eq.1 hb]⟩
     have hat:aAt st ⟨true,n.1,0⟩=some (.ptr m t 0):=by simp [aAt,hx]
     obtain ⟨cv,h12,h13⟩:=I.cel _ _ hat
     have hcv:cv= .pointer (some ⟨g.bb m,0,none⟩):=h13 hok
     obtain ⟨_,_,vals,ty,hh,hsz⟩:=I.box n.1 t1 cs1 hb1
     have:vals= #[.pointer (some ⟨g.bb m,0,none⟩)]:=by
      simp only [cAt,if_true,bcell,hh] at h12
      rw [hcv] at h12
      have h1:vals.size=1:=by omega
      apply Array.ext (by simpa using h1)
      intro i hi hi'
      obtain rfl:i=0:=by omega
      rw [Array.getElem?_eq_getElem hi] at h12
      exact Option.some.inj h12
     exact ⟨hs'.trans hs2,m,t,b,ty,rfl,by simpa using hK,by rw [←this];exact hh,h5⟩
    ·exact (Pr.ef he).elim
  | _=>exact (Pr.ef he).elim
theorem x_k2 {g1:Gh} (hbb:∀ n,g1.bb n=g.bb n) {K:List (Nat×Nat)}:∀ (ps:List Par) (ns:List (Nat×Nat)) (r:List (Nat×Cell)),x_js w g1 K ps ns r→x_js w g K ps ns r
 | [],ns,r,h=>h
 | .val _ _ _::ps,ns,r,h=>x_k2 hbb ps ns r h
 | .nl _::ps,ns,r,h=>x_k2 hbb ps ns r h
 | .ptr _ _ _::ps,[],r,h=>h
 | .ptr _ _ _::ps,n::ns,r,h=>x_k2 hbb ps ns r h
 | .via _::ps,[],r,h=>h
 | .via j::ps,n::ns,r,⟨m,t,r',ty,h1,h2,h3,h4⟩=>⟨m,t,r',ty,h1,h2,by rw [←hbb, ←hbb];exact h3,x_k2 hbb ps ns r' h4⟩
theorem x_r8 {g:Gh} {gc:Gh} {KK:List (Nat×Nat)} (hKK:∀ x∈KK,gc.bb x.1=g.bb x.2):∀ (ps:List Par) (k:Nat) (a:List (Md×Cell)) (ns:List (Nat×Nat)) (vs cvs:List Value) (ls:List LV) (rr:List (Nat×Cell)),x_ju w g st ps a ns vs cvs→x_js w g KK ps ns rr→ls.length=a.length→
  (∀ (j:Nat) x cv y p,a[j]?=some x→cvs[j]?=some cv→ls[j]?=some y→(labs k ps)[j]?=some p→hand w gc p x.1 y cv)→
  (∀ x∈prs k ps ns,gc.bb x.1=g.bb x.2∧gc.γ (g.bb x.2)= .bx x.1)→x_gu w gc k ps ls vs
 | [],k,a,ns,vs,cvs,ls,rr,hf,hvf,hl,hh,hK=>by
  obtain ⟨rfl,rfl,rfl,rfl⟩:=hf
  exact ⟨List.length_eq_zero_iff.1 hl,rfl⟩
 | .nl y::ps,k,a,ns,_,cvs,ls,rr,⟨vs',rfl,hrest⟩,hvf,hl,hh,hK=>⟨vs',rfl,x_r8 hKK ps (k+1) a ns vs' cvs ls rr hrest hvf hl hh hK⟩
 | .via j::ps,k,a,_,_,cvs,ls,rr,⟨n,ns',vs',rfl,rfl,_,hrest⟩,⟨m,t,r',ty,_,h2,h3,h4⟩,hl,hh,hK=>by
  obtain ⟨hk1,hk2⟩:=hK (k,n) (by simp [prs])
  simp only at hk1 hk2 h3
  have hj:=hKK _ h2
  simp only at hj
  exact ⟨vs',ty,by rw [hk1],by rw [hk1];exact hk2,by rw [hk1,hj];exact h3,x_r8 hKK ps (k+1) a ns' vs' cvs ls r' hrest h4 hl hh fun x hx=>hK x (by simp [prs,hx])⟩
 | .val agg e ms::ps,k,_,ns,_,_,ls,rr,⟨v,vs',c,a',cvs',rfl,rfl,hc,rfl,hv,hf,hrest⟩,hvf,hl,hh,hK=>by
  have hz:(ms.zip c).length=ms.length:=by simp [hc]
  obtain ⟨z1,z2⟩:=x_zn (a:=a') hc
  have hll:ls.length=ms.length+a'.length:=by rw [hl,List.length_append,hz]
  have hlab:((List.range ms.length).map fun j=>(⟨false,k,j⟩ : Pl)).length=ms.length:=by simp
  have hvl:v.cells.toList.length=ms.length:=by simpa using hv
  refine ⟨ls.take ms.length,ls.drop ms.length,v,vs',(List.take_append_drop _ _).symm,rfl,⟨by simp;omega,by simpa using hv,fun j m a cv hm ha hcv=>?_⟩,hf,?_⟩
  ·have hj:=(List.getElem?_eq_some_iff.1 hm).1
   obtain ⟨y,hy⟩:=z1 j m hm
   rw [List.getElem?_take,if_pos hj] at ha
   exact hh j (m,y) cv a ⟨false,k,j⟩ hy (by rw [List.getElem?_append_left (by simpa [hv] using hj)];exact hcv) ha (by
    simp only [labs]
    rw [List.getElem?_append_left (by rw [hlab];exact hj)]
    simp [hj])
  ·refine x_r8 hKK ps (k+1) a' ns vs' cvs' _ rr hrest hvf (by simp;omega) (fun j x cv y p hx hcv hy hp=>?_) hK
   rw [List.getElem?_drop] at hy
   exact hh (ms.length+j) x cv y p (z2 j x hx) (by rw [List.getElem?_append_right (by rw [hvl];omega),hvl,Nat.add_sub_cancel_left];exact hcv) hy (by
    simp only [labs]
    rw [List.getElem?_append_right (by rw [hlab];omega),hlab,Nat.add_sub_cancel_left]
    exact hp)
 | .ptr e ms _::ps,k,_,_,_,_,ls,rr,⟨n,ns',vs',c,a',vals,ty,cvs',rfl,rfl,rfl,hc,hb,hh0,hv,rfl,hno,hrest⟩,hvf,hl,hh,hK=>by
  have hz:(ms.zip c).length=ms.length:=by simp [hc]
  obtain ⟨z1,z2⟩:=x_zn (a:=a') hc
  have hll:ls.length=ms.length+a'.length:=by rw [hl,List.length_append,hz]
  have hlab:((List.range ms.length).map fun j=>(⟨true,k,j⟩ : Pl)).length=ms.length:=by simp
  have hvl:vals.toList.length=ms.length:=by simpa using hv
  obtain ⟨hk1,hk2⟩:=hK (k,n) (by simp [prs])
  simp only at hk1 hk2
  refine ⟨ls.take ms.length,ls.drop ms.length,vs',vals,ty,(List.take_append_drop _ _).symm,by rw [hk1],by rw [hk1];exact hk2,by rw [hk1];exact hh0,⟨by simp;omega,by simpa using hv,fun j m a cv hm ha hcv=>?_⟩,?_⟩
  ·have hj:=(List.getElem?_eq_some_iff.1 hm).1
   obtain ⟨y,hy⟩:=z1 j m hm
   rw [List.getElem?_take,if_pos hj] at ha
   exact hh j (m,y) cv a ⟨true,k,j⟩ hy (by rw [List.getElem?_append_left (by simpa [hv] using hj)];exact hcv) ha (by
    simp only [labs]
    rw [List.getElem?_append_left (by rw [hlab];exact hj)]
    simp [hj])
  ·refine x_r8 hKK ps (k+1) a' ns' vs' cvs' _ rr hrest hvf (by simp;omega) (fun j x cv y p hx hcv hy hp=>?_) (fun x hx=>hK x (by simp [prs,hx]))
   rw [List.getElem?_drop] at hy
   exact hh (ms.length+j) x cv y p (z2 j x hx) (by rw [List.getElem?_append_right (by rw [hvl];omega),hvl,Nat.add_sub_cancel_left];exact hcv) hy (by
    simp only [labs]
    rw [List.getElem?_append_right (by rw [hlab];omega),hlab,Nat.add_sub_cancel_left]
    exact hp)
theorem x_nt {g gc gc':Gh} {w':World}:∀ (ps:List Par) (k:Nat) (a:List (Md×Cell)) (ns:List (Nat×Nat)) (vs cvs:List Value) (ls:List LV),x_ju w g st ps a ns vs cvs→x_le gc w' gc' k ps ls→
  (∀ x∈prs k ps ns,gc.bb x.1=g.bb x.2)→ ∀ x∈prs k ps ns,gc'.γ (g.bb x.2)= .bx x.1∧ ∃ cells ty t cs,w'.heap[g.bb x.2]?=some (.cells cells ty (0,0))∧st.bx.getD x.2 none=some (t,cs)∧cells.size=cs.length
 | [],k,a,ns,vs,cvs,ls,hf,ho,hK,x,hx=>by simp [prs] at hx
 | .val agg e ms::ps,k,_,ns,_,_,ls,⟨v,vs',c,a',cvs',rfl,rfl,hc,rfl,hv,hf,hrest⟩,ho,hK,x,hx=>x_nt ps (k+1) a' ns vs' cvs' ls hrest ho hK x hx
 | .ptr e ms _::ps,k,_,_,_,_,ls,⟨n,ns',vs',c,a',vals,ty,cvs',rfl,rfl,rfl,hc,⟨t,cs,hb,hbl⟩,hh0,hv,rfl,hno,hrest⟩,⟨⟨cells,ty',h1,h2,h3⟩,ho⟩,hK,x,hx=>by
  have hk:=hK (k,n) (by simp [prs])
  simp only at hk
  simp only [prs,List.mem_cons] at hx
  rcases hx with rfl | hx
  ·rw [hk] at h1 h2
   exact ⟨h1,cells,ty',t,cs,h2,hb,by have:=h3.l2;simp at this;omega⟩
  ·exact x_nt ps (k+1) a' ns' vs' cvs' _ hrest ho (fun y hy=>hK y (by simp [prs,hy])) x hx
 | .nl y::ps,k,a,ns,_,cvs,ls,⟨vs',rfl,hrest⟩,ho,hK,x,hx=>x_nt ps (k+1) a ns vs' cvs ls hrest ho hK x hx
 | .via j::ps,k,_,_,_,_,ls,⟨n,ns',vs',rfl,rfl,⟨t,cs,hb,hbl⟩,hrest⟩,⟨⟨ty',h1,h2⟩,ho⟩,hK,x,hx=>by
  have hk:=hK (k,n) (by simp [prs])
  simp only at hk
  simp only [prs,List.mem_cons] at hx
  rcases hx with rfl | hx
  ·rw [hk] at h1 h2
   exact ⟨h1,_,ty',t,cs,h2,hb,by simp;omega⟩
  ·exact x_nt ps (k+1) _ ns' vs' _ _ hrest ho (fun y hy=>hK y (by simp [prs,hy])) x hx
section
variable {g1 gc':Gh} {w':World} {X:Nat→Option Pl} {L:List Pl} {K:List (Nat×Nat)} {d:Nat}
theorem ret_tag (hU:Uni w g1) (S:Stp w (calG g1 X L K) w' gc') (hK:∀ x∈K,gc'.γ (g1.bb x.2)= .bx x.1) {b:Nat} {t:Tg} (h:gc'.γ b=t) (ht:t= .fr∨ ∃ p,t= .row p):(retG w g1 gc' X K d).γ b=sig d K t:=by
 have hne:t≠ .out∧t≠ .lent∧ ∀ k,t≠ .bx k:=by rcases ht with rfl | ⟨p,rfl⟩<;>simp
 have hlent:(calG g1 X L K).γ b= .lent→False:=fun hc=>by have:=(S.lent b hc).1;rw [h] at this;exact hne.2.1 this
 have hout:b<w.heap.size→(calG g1 X L K).γ b= .out→False:=fun hl hc=>by have:=(S.out b hl hc).1;rw [h] at this;exact hne.1 this
 cases hg:g1.γ b with
 | fr=>
  have:=(S.fr b (by simp [calG,rho,hg])).1
  rw [h] at this
  subst this
  simp [retG,hg,sig]
 | lent=>exact (hlent (by simp [calG,rho,hg])).elim
 | row q=>
  by_cases hx:∃ j,X j=some q
  ·simp only [retG,hg,if_pos hx,h]
  ·exact (hlent (by simp only [calG,rho,hg,dif_neg hx])).elim
 | bx n=>
  by_cases hk:∃ k,(k,n)∈K
  ·by_cases hb:b=g1.bb n
   ·obtain ⟨k,hk⟩:=hk
    have:=hK _ hk
    simp only at this
    rw [←hb,h] at this
    exact (hne.2.2 k this).elim
   ·simp only [retG,hg,if_pos (And.intro hk hb),h]
  ·exact (hout (hU.1 b (by rw [hg];simp)) (by simp only [calG,rho,hg,dif_neg hk])).elim
 | out=>
  by_cases hl:b<w.heap.size
  ·exact (hout hl (by simp [calG,rho,hg])).elim
  ·simp only [retG,hg,if_neg hl,h]
theorem sig_row_f (k j:Nat):sig d K (.row ⟨false,k,j⟩)= .row ⟨false,d,j⟩:=rfl
theorem sig_row_t (hKf:∀ a n n',(a,n)∈K→(a,n')∈K→n=n') {k n:Nat} (h:(k,n)∈K) (j:Nat):sig d K (.row ⟨true,k,j⟩)= .row ⟨true,n,j⟩:=by
 have hx:∃ n,(k,n)∈K:=⟨n,h⟩
 simp only [sig,dif_pos hx]
 rw [hKf _ _ _ hx.choose_spec h]
theorem x_wp (hU:Uni w g1) (S:Stp w (calG g1 X L K) w' gc') (hK:∀ x∈K,gc'.γ (g1.bb x.2)= .bx x.1) {p q:Pl} (hpq:sig d K (.row p)= .row q) {m:Md} {a:LV} {cv:Value} (hm:noR m=true) (h:hand w' gc' p m a cv) :
  hand w' (retG w g1 gc' X K d) q m a cv:=by
 have hfr:∀ b,gc'.γ b= .fr→(retG w g1 gc' X K d).γ b= .fr:=fun b hb=>by rw [ret_tag hU S hK hb (.inl rfl)];rfl
 cases m with
 | f=>exact lrep.mono h (fun b hb=>⟨hfr b hb,rfl⟩) fun b hb=>⟨hfr b hb,rfl⟩
 | r=>simp [noR] at hm
 | x t=>
  obtain ⟨x,v,rfl,h⟩:=h
  exact ⟨x,v,rfl,x_br.mono h (fun b hb=>(ret_tag hU S hK hb (.inr ⟨_,rfl⟩)).trans hpq) (fun _ _=>rfl) fun a cs _ hr=>rep.mono hfr (fun _ _=>rfl) _ _ _ hr⟩
theorem ret_goes (I:Inv D st tm w g1) (S:Stp w (calG g1 X L K) w' gc') (hU':Uni w' gc') (hX:∀ j h,X j=some h→aAt st h=some .dead) (hKinj:∀ a a' n,(a,n)∈K→(a',n)∈K→a=a')
  (hK:∀ x∈K,gc'.γ (g1.bb x.2)= .bx x.1∧ ∃ cells ty t cs,w'.heap[g1.bb x.2]?=some (.cells cells ty (0,0))∧st.bx.getD x.2 none=some (t,cs)∧cells.size=cs.length)
  (hkill:∀ x∈K, ∀ j c,aAt st ⟨true,x.2,j⟩=some c→c= .dead):Goes D D st tm w g1 st tm w' (retG w g1 gc' X K d):=by
 have hfr:∀ b,g1.γ b= .fr→(retG w g1 gc' X K d).γ b= .fr∧w'.heap[b]?=w.heap[b]?:=fun b hb=>⟨by simp [retG,hb],(S.fr b (by simp [calG,rho,hb])).2⟩
 have hle:∀ b,g1.γ b= .lent→(retG w g1 gc' X K d).γ b= .lent∧w'.heap[b]?=w.heap[b]?:=fun b hb=>⟨by simp [retG,hb],(S.lent b (by simp [calG,rho,hb])).2⟩
 have hbx:∀ b n,g1.γ b= .bx n→(¬ ∃ k,(k,n)∈K)→(retG w g1 gc' X K d).γ b= .bx n∧w'.heap[b]?=w.heap[b]?:=fun b n hb hn=>
  ⟨by simp only [retG,hb];rw [if_neg (fun h=>hn h.1)],(S.out b (I.uni b (by rw [hb];simp)) (by simp only [calG,rho,hb,dif_neg hn])).2⟩
 have hS:Stp w g1 w' (retG w g1 gc' X K d):=⟨hfr,hle,fun b hl hb=>⟨by simp [retG,hb,hl],(S.out b hl (by simp [calG,rho,hb])).2⟩,S.size,S.oth⟩
 refine (⟨I.len,rfl,fun _ _=>rfl,fun q hq c hc=>?_,hfr,hle,fun q t x v hq ha b hb=>?_,fun n _ _=>⟨.same _,rfl⟩,fun n h=>h.elim,fun q hq c hc=>?_,fun q hq t x v hc=>?_,fun n t cs hb=>?_,fun b hb=>?_,fun _ h=>h⟩ :
  Chg D D st st tm tm w w' g1 (retG w g1 gc' X K d) (fun q=>q.bx=true∧ ∃ k,(k,q.n)∈K) (fun _=>False)).goes I hS
 ·cases hbq:q.bx with
  | false=>simp [cAt,hbq]
  | true=>
   have hn:¬ ∃ k,(k,q.n)∈K:=fun h=>hq ⟨hbq,h⟩
   obtain ⟨b,n,j⟩:=q
   simp only at hbq
   subst hbq
   obtain ⟨t,cs,hb,_⟩:=x_t6 hc
   obtain ⟨_,hγ,_⟩:=I.box n t cs hb
   simp only [cAt,if_true,retG]
   exact x_ig (hbx _ _ hγ hn).2 _
 ·have hn:¬ ∃ j,X j=some q:=fun ⟨j,hj⟩=>by have:=hX j q hj;rw [ha] at this;simp at this
  exact ⟨by simp only [retG,hb];rw [if_neg hn],(S.lent b (by simp only [calG,rho,hb,dif_neg hn])).2⟩
 ·obtain ⟨b,n,j⟩:=q
  simp only at hq
  obtain ⟨rfl,k,hk⟩:=hq
  have hdead:=hkill _ hk j c hc
  subst hdead
  obtain ⟨_,cells,ty,t,cs,h1,h2,h3⟩:=hK _ hk
  rw [x_ox h2] at hc
  have hj:=(List.getElem?_eq_some_iff.1 hc).1
  refine ⟨by simp [stC],cells[j]'(by omega),?_,trivial⟩
  simp only [cAt,if_true,retG,bcell,h1]
  simp
 ·obtain ⟨b,n,j⟩:=q
  simp only at hq
  obtain ⟨rfl,k,hk⟩:=hq
  have:=hkill _ hk j _ hc
  simp at this
 ·obtain ⟨h1,h2,vals,ty,h3,h4⟩:=I.box n t cs hb
  by_cases hn:∃ k,(k,n)∈K
  ·obtain ⟨k,hk⟩:=hn
   obtain ⟨k1,cells,ty',t',cs',k2,k3,k4⟩:=hK _ hk
   rw [hb] at k3
   simp only [sj_,Prod.mk.injEq] at k3
   obtain ⟨rfl,rfl⟩:=k3
   exact ⟨.inr ⟨cs,hb,rfl⟩,h1,by show (retG w g1 gc' X K d).γ (g1.bb n)=_;simp only [retG,h2];simp,cells,ty',k2,k4⟩
  ·exact ⟨.inr ⟨cs,hb,rfl⟩,h1,(hbx _ _ h2 hn).1,vals,ty,by show w'.heap[g1.bb n]?=_;rw [(hbx _ _ h2 hn).2];exact h3,h4⟩
 ·have hsig:sig d K (gc'.γ b)≠ .out→b<w'.heap.size:=fun h=>hU'.1 b fun e=>h (by rw [e];rfl)
  have hold:g1.γ b≠ .out→b<w'.heap.size:=fun h=>Nat.lt_of_lt_of_le (I.uni b h) S.size
  cases hg:g1.γ b with
  | out=>
   simp only [retG,hg] at hb
   split at hb
   ·exact absurd rfl hb
   ·exact hsig hb
  | _=>exact hold (by rw [hg];simp)
end
end Go.Kn
namespace Go.Kn
variable [Ctx]
variable {P:Program} {D:Key×Nat→Prop} {st st':St} {tm:Array Value} {w w1:World} {g:Gh} {ds:List Deferred} {E:Env}
variable {T:Tab} {keep:Bool} {i:Nat} {o:Oper}
theorem x_vr {s:Nat} {p:Pl} {m:Md} {a:LV} {cv:Value} (h:hand w g p m a cv):madeC s m a= .dead∨ ∃ e v,(madeC s m a= .val .f e v∨madeC s m a= .val (.x s) e v)∧ ∀ st' tm',x_b5 st' tm' w g p (madeC s m a) cv:=by
 cases m with
 | f=>exact .inr ⟨a.1,a.2, .inl rfl,fun _ _=>h⟩
 | r=>exact .inr ⟨.u,(), .inl rfl,fun _ _=>⟨rfl,x_eb h⟩⟩
 | x t=>
  obtain ⟨x,v,rfl,h⟩:=h
  exact .inr ⟨.sl x,v, .inr rfl,fun _ _=>⟨x,rfl,h⟩⟩
theorem x_sk {s:Nat} {ms:List Md} {l:List LV} {j:Nat} {c:Cell} (h:(x_jn s ms l)[j]?=some c):∃ m a,ms[j]?=some m∧l[j]?=some a∧c=madeC s m a:=by
 simp only [x_jn,List.getElem?_map,Option.map_eq_some_iff] at h
 obtain ⟨x,h1,h2⟩:=h
 rw [List.getElem?_zip_eq_some] at h1
 exact ⟨x.1,x.2,h1.1,h1.2,h2.symm⟩
theorem x_kp {g0 gc gc' G2:Gh} {w':World} {st0:St} {s:Nat}:∀ (ps:List Par) (k:Nat) (a:List (Md×Cell)) (ns:List (Nat×Nat)) (vs cvs:List Value) (ls:List LV) {D:Key×Nat→Prop} {st1 s1:St},
  x_ju w g0 st0 ps a ns vs cvs→x_le gc w' gc' k ps ls→Inv D st1 tm w' G2→(x_xh s ps ns ls).Ends st1 () s1→
  (∀ x∈prs k ps ns,gc.bb x.1=g0.bb x.2∧G2.bb x.2=g0.bb x.2∧ ∀ j m a cv,noR m=true→hand w' gc' ⟨true,x.1,j⟩ m a cv→hand w' G2 ⟨true,x.2,j⟩ m a cv)→x_uf (ns.map (·.1))=true→
  (∀ x∈ns, ∀ j, ¬ D (.c ⟨true,x.1,j⟩,s))→(∀ x∈ns, ∃ t cs,st1.bx.getD x.1 none=some (t,cs)∧cs.length=x.2)→
  ∃ D',Goes D D' st1 tm w' G2 s1 tm w' G2∧(∀ q t,D' (q,t)→D (q,t)∨t=s∧ ∃ n j,q= .c ⟨true,n,j⟩)∧ ∀ m,((s1.bx.getD m none).map fun b=>(b.1,b.2.length))=((st1.bx.getD m none).map fun b=>(b.1,b.2.length))
 | [],k,a,ns,vs,cvs,ls,D,st1,s1,hf,ho,I,he,hh,hn,hfr,hb=>by
  obtain ⟨_,rfl⟩:=Pr.er he
  exact ⟨D, .refl I,fun q t h=> .inl h,fun _=>rfl⟩
 | .val agg e ms::ps,k,_,ns,_,_,ls,D,st1,s1,⟨v,vs',c,a',cvs',rfl,rfl,hc,rfl,hv,hf,hrest⟩,ho,I,he,hh,hn,hfr,hb=>
  x_kp ps (k+1) a' ns vs' cvs' ls hrest ho I he hh hn hfr hb
 | .ptr e ms _::ps,k,_,_,_,_,ls,D,st1,s1,⟨n,ns',vs',c,a',vals,ty,cvs',rfl,rfl,rfl,hc,hbx,hh0,hv,rfl,hno,hrest⟩,⟨⟨cells,ty',h1,h2,h3⟩,ho⟩,I,he,hh,hn,hfr,hb=>by
  obtain ⟨uu,s2,k1,k2⟩:=Pr.eb he
  cases uu
  obtain ⟨e1,e2,e3⟩:=hh (k,n) (by simp [prs])
  simp only at e1 e2 e3
  rw [e1] at h1 h2
  obtain ⟨t,cs,hbn,hbl⟩:=hb (n,ms.length) (by simp)
  simp only at hbn hbl
  have hlm:(x_jn s ms (ls.take ms.length)).length=ms.length:=by
   have:=h3.l1
   simp only [x_jn,List.length_map,List.length_zip];omega
  obtain ⟨D1,G1,hD1,hat,hlen⟩:=x_p1 (s:=s) _ 0 I k1 (fun j _=>hfr (n,ms.length) (by simp) j) (fun j hj=>by
   rw [x_ox hbn,ge_ (by omega)];simp) (fun j c hcj=>by
   obtain ⟨m,a,hm,ha,rfl⟩:=x_sk hcj
   have hj:=(List.getElem?_eq_some_iff.1 hm).1
   have hcl:j<cells.size:=by have:=h3.l2;simp at this;omega
   have hnm:noR m=true:=List.all_eq_true.1 hno m (List.mem_of_getElem? hm)
   have hand1:=e3 j m a cells[j] hnm (h3.h j m a cells[j] hm ha (by simp))
   rcases x_vr (s:=s) hand1 with h | ⟨e,v,h,hr⟩
   ·exact .inl h
   ·refine .inr ⟨e,v,h,fun cv st' hcv=>?_⟩
    have:cv=cells[j]:=by
     simp only [cAt,if_true,e2,bcell,h2,Nat.zero_add] at hcv
     rw [Array.getElem?_eq_getElem hcl] at hcv
     exact (Option.some.inj hcv).symm
    rw [this,Nat.zero_add]
    exact hr _ _)
  obtain ⟨hnn,hnd⟩:=x_mm (by simpa using hn)
  obtain ⟨D2,G2',hD2,hlen2⟩:=x_kp ps (k+1) a' ns' vs' cvs' _ hrest ho G1.inv k2 (fun x hx=>hh x (by simp [prs,hx])) hnd (fun x hx j h=>by
   rcases hD1 _ _ h with h | ⟨_,j',_,h⟩
   ·exact hfr x (by simp [hx]) j h
   ·simp only [Key.c.injEq,Pl.mk.injEq,true_and] at h
    exact hnn (by rw [←h.1];exact List.mem_map.2 ⟨x,hx,rfl⟩)) (fun x hx=>by
   obtain ⟨t',cs',h4,h5⟩:=hb x (by simp [hx])
   have:=hlen x.1
   rw [h4] at this
   cases h6:s2.bx.getD x.1 none with
   | none=>rw [h6] at this;simp at this
   | some b=>
    rw [h6] at this
    simp only [Option.map_some,sj_,Prod.mk.injEq] at this
    exact ⟨b.1,b.2,rfl,by omega⟩)
  refine ⟨D2,G1.trans G2',fun q t h=>?_,fun m=>(hlen2 m).trans (hlen m)⟩
  rcases hD2 q t h with h | h
  ·rcases hD1 q t h with h | ⟨h,j,_,h'⟩
   ·exact .inl h
   ·exact .inr ⟨h,n,j,h'⟩
  ·exact .inr h
 | .nl y::ps,k,a,ns,_,cvs,ls,D,st1,s1,⟨vs',rfl,hrest⟩,ho,I,he,hh,hn,hfr,hb=>x_kp ps (k+1) a ns vs' cvs ls hrest ho I he hh hn hfr hb
 | .via j::ps,k,_,_,_,_,ls,D,st1,s1,⟨n,ns',vs',rfl,rfl,_,hrest⟩,⟨_,ho⟩,I,he,hh,hn,hfr,hb=>
  x_kp ps (k+1) _ ns' vs' _ ls hrest ho I he (fun x hx=>hh x (by simp [prs,hx])) (x_mm (by simpa using hn)).2 (fun x hx=>hfr x (by simp [hx])) (fun x hx=>hb x (by simp [hx]))
theorem x_s2 {G2:Gh} {w':World} {D:Key×Nat→Prop}:∀ (r:List (Nat×Cell)) {st1 s1:St},Inv D st1 tm w' G2→(backs r).Ends st1 () s1→
  (∀ x∈r,(∃ t cs,st1.bx.getD x.1 none=some (t,cs)∧cs.length=1)∧ ∃ m t ty,x.2= .ptr m t 0∧w'.heap[G2.bb x.1]?=some (.cells #[.pointer (some ⟨G2.bb m,0,none⟩)] ty (0,0)))→
  Goes D D st1 tm w' G2 s1 tm w' G2
 | [],st1,s1,I,he,h=>by obtain ⟨_,rfl⟩:=Pr.er he;exact .refl I
 | (n,c)::l,st1,s1,I,he,h=>by
  obtain ⟨⟨t0,cs0,hb0,hl0⟩,m,t,ty,hc,hh⟩:=h (n,c) (by simp)
  simp only at hc hb0 hh
  subst hc
  simp only [backs] at he
  obtain ⟨y,hy,he⟩:=Pr.ends_rb he
  obtain ⟨hb,he⟩:=Pr.ek he
  have he:=Pr.ends_wr he
  obtain ⟨cs',h8,h9⟩:=x_fx I hy
  rw [beq_iff_eq.1 hb] at h8
  have hD:=(I.box m t cs' h8).1
  have h0:aAt st1 ⟨true,n,0⟩≠none:=by rw [x_ox hb0,ge_ (by omega)];simp
  have T:=x_lw (c:= .ptr m t 0) h0
  have G1:Goes D D st1 tm w' G2 (Wr.put st1 (.bc n 0 (.ptr m t 0))) tm w' G2:=by
   refine (I.turn (g':=G2) T rfl (fun b hb=>hb) (fun b hb=>hb) (fun b n hb=>hb) (fun b hb=>hb) (fun q _ b hb=>hb) ?_ ?_ fun _ h=>h).goes I (Stp.refl w' G2)
   ·intro q d hq
    by_cases hqh:q=⟨true,n,0⟩
    ·simp only [hqh,if_true,sj_] at hq
     subst hq
     refine ⟨fun k hk=>by simp only [stC,List.mem_singleton] at hk;rw [hk];exact hD,fun cv hcv=>?_⟩
     intro _
     rw [hqh] at hcv
     simp only [cAt,if_true,bcell,hh] at hcv
     exact (Option.some.inj hcv).symm
    ·simp [hqh] at hq
   ·intro q t x v hq
    by_cases hqh:q=⟨true,n,0⟩
    ·simp [hqh] at hq
    ·simp [hqh] at hq
  refine G1.trans (x_s2 l G1.inv he fun x hx=>?_)
  obtain ⟨⟨t',cs',h1,h2⟩,h3⟩:=h x (by simp [hx])
  refine ⟨?_,h3⟩
  have:=T.bx x.1
  rw [h1] at this
  cases h6:(Wr.put st1 (.bc n 0 (.ptr m t 0))).bx.getD x.1 none with
  | none=>rw [h6] at this;simp at this
  | some b=>
   rw [h6] at this
   simp only [Option.map_some,sj_,Prod.mk.injEq] at this
   exact ⟨b.1,b.2,rfl,by omega⟩
theorem x_nn {g0 gc gc' G2:Gh} {w0 w':World} {KK:List (Nat×Nat)}:∀ (ps:List Par) (k:Nat) (a:List (Md×Cell)) (ns:List (Nat×Nat)) (vs cvs:List Value) (ls:List LV) (r:List (Nat×Cell)),x_ju w g0 st ps a ns vs cvs→x_le gc w' gc' k ps ls→x_js w0 g0 KK ps ns r→
  (∀ x∈prs k ps ns,gc.bb x.1=G2.bb x.2)→(∀ x∈KK,gc.bb x.1=G2.bb x.2)→ ∀ x∈r,(x.1,1)∈ns∧ ∃ m t ty,x.2= .ptr m t 0∧w'.heap[G2.bb x.1]?=some (.cells #[.pointer (some ⟨G2.bb m,0,none⟩)] ty (0,0))
 | [],k,a,ns,vs,cvs,ls,r,hf,ho,hv,hK,hKK,x,hx=>by obtain rfl:r=[]:=hv;simp at hx
 | .val agg e ms::ps,k,_,ns,_,_,ls,r,⟨v,vs',c,a',cvs',rfl,rfl,hc,rfl,_,hf,hrest⟩,ho,hv,hK,hKK,x,hx=>x_nn ps (k+1) a' ns vs' cvs' ls r hrest ho hv hK hKK x hx
 | .ptr e ms _::ps,k,_,_,_,_,ls,r,⟨n,ns',vs',c,a',vals,ty,cvs',rfl,rfl,rfl,hc,_,hh0,_,rfl,hno,hrest⟩,⟨_,ho⟩,hv,hK,hKK,x,hx=>by
  obtain ⟨h2,h3⟩:=x_nn ps (k+1) a' ns' vs' cvs' _ r hrest ho hv (fun y hy=>hK y (by simp [prs,hy])) hKK x hx
  exact ⟨by simp only [List.mem_cons];exact .inr h2,h3⟩
 | .nl y::ps,k,a,ns,_,cvs,ls,r,⟨vs',rfl,hrest⟩,ho,hv,hK,hKK,x,hx=>x_nn ps (k+1) a ns vs' cvs ls r hrest ho hv hK hKK x hx
 | .via j::ps,k,_,_,_,_,ls,_,⟨n,ns',vs',rfl,rfl,_,hrest⟩,⟨⟨ty',_,h5⟩,ho⟩,⟨m,t,r',ty,rfl,h2,h3,h4⟩,hK,hKK,x,hx=>by
  rcases List.mem_cons.1 hx with rfl | hx
  ·have h6:=hK (k,n) (by simp [prs])
   have h7:=hKK _ h2
   simp only at h6 h7
   exact ⟨by simp,m,t,ty',rfl,by rw [←h6, ←h7];exact h5⟩
  ·obtain ⟨h2,h3⟩:=x_nn ps (k+1) _ ns' vs' _ _ r' hrest ho h4 (fun y hy=>hK y (by simp [prs,hy])) hKK x hx
   exact ⟨by simp only [List.mem_cons];exact .inr h2,h3⟩
theorem x_rw {s:Nat} {a b:List Md} {l m:List LV} (h:l.length=a.length):x_jn s (a++b) (l++m)=x_jn s a l++x_jn s b m:=by
 simp only [x_jn]
 rw [List.zip_append h.symm,List.map_append]
theorem x_oe {s:Nat}:∀ (rs:List (Bool×ET×List Md)) (l:List LV),resN rs≤l.length→(x_lc s rs l).flatMap (fun x=>x.2)=x_jn s (rs.flatMap fun r=>r.2.2) (l.take (resN rs))∧
  (x_lc s rs l).map (fun x=>(x.1,x.2.length))=rs.map fun r=>(r.1,r.2.2.length)
 | [],l,h=>by simp [x_lc,x_jn,resN]
 | r::rs,l,h=>by
  simp only [resN,List.flatMap_cons,List.length_append] at h
  obtain ⟨h1,h2⟩:=x_oe (s:=s) rs (l.drop r.2.2.length) (by simp only [resN,List.length_drop];omega)
  have e:l.take (resN (r::rs))=l.take r.2.2.length++(l.drop r.2.2.length).take (resN rs):=by
   simp only [resN,List.flatMap_cons,List.length_append]
   rw [List.take_add]
  constructor
  ·simp only [x_lc,List.flatMap_cons,h1]
   rw [e,x_rw (by simp;omega)]
  ·simp only [x_lc,List.map_cons,h2]
   congr 2
   simp only [x_jn,List.length_map,List.length_zip,List.length_take];omega
def resSC (s:Nat) (rs:List (Bool×ET×List Md)) (l:List LV):SC:=match x_lc s rs l with | [x]=>scOf x.1 x.2 | l=> .tup l
theorem x_tx {agg:Bool} {v:Value} {n:Nat} {cs:List Cell} (h:x_hv agg v) (hn:v.cells.size=n) (hc:cs.length=n):(scOf agg cs).cells=cs∧vcs v=v.cells.toList∧(∀ st tm w g,shape st tm w g (scOf agg cs) v)∧stS (scOf agg cs)=[]:=by
 cases agg with
 | true=>
  simp only [x_hv,if_true] at h
  obtain ⟨u,rfl⟩:=h
  exact ⟨rfl,rfl,fun _ _ _ _=>⟨u,rfl,by simp [Value.cells] at hn;omega⟩,rfl⟩
 | false=>
  have h:x_d7 v:=h
  have hv:v.cells= #[v]:=by cases v<;>simp [Value.cells,x_d7] at h ⊢
  have h1:n=1:=by rw [hv] at hn;simpa using hn.symm
  subst h1
  obtain ⟨c,rfl⟩:=List.length_eq_one_iff.1 hc
  exact ⟨rfl,by rw [x_ze h,hv],fun _ _ _ _=>h,rfl⟩
theorem res_ready {s:Nat} {rs:List (Bool×ET×List Md)} {l:List LV} {rv:Value} (hf:form rs rv) (hl:resN rs≤l.length) :
  (resSC s rs l).cells=x_jn s (rs.flatMap fun r=>r.2.2) (l.take (resN rs))∧(∀ st tm w g,shape st tm w g (resSC s rs l) rv)∧stS (resSC s rs l)=[]:=by
 obtain ⟨h1,h2⟩:=x_oe (s:=s) rs l hl
 unfold resSC
 have tupCase:(∃ vs:Array Value,rv= .tuple vs∧vs.size=rs.length∧ ∀ i (h:i<rs.length) (h':i<vs.size),x_hv rs[i].1 vs[i]∧vs[i].cells.size=rs[i].2.2.length)→
   (SC.tup (x_lc s rs l)).cells=x_jn s (rs.flatMap fun r=>r.2.2) (l.take (resN rs))∧(∀ st tm w g,shape st tm w g (SC.tup (x_lc s rs l)) rv)∧stS (SC.tup (x_lc s rs l))=[]:=by
  intro ⟨vs,hv,hn,hi⟩
  refine ⟨h1,fun st tm w g=>⟨vs,hv,?_,fun i h h'=>?_⟩,rfl⟩
  ·have:=congrArg List.length h2;simp at this;omega
  ·have hlen:=congrArg List.length h2
   simp at hlen
   have e1:((x_lc s rs l).map (fun x=>(x.1,x.2.length)))[i]'(by simp;omega)=(rs.map fun r=>(r.1,r.2.2.length))[i]'(by simp;omega):=by simp only [h2]
   simp only [List.getElem_map,Prod.mk.injEq] at e1
   obtain ⟨f1,f2⟩:=hi i (by omega) h'
   rw [e1.1,e1.2]
   cases hr:rs[i].1 with
   | true=>
    rw [hr] at f1
    obtain ⟨u,hu⟩:=f1
    rw [if_pos rfl]
    exact ⟨u,hu,by rw [hu] at f2;simpa [Value.cells] using f2⟩
   | false=>
    rw [hr] at f1
    have f1:x_d7 vs[i]:=f1
    simp only [Bool.false_eq_true,if_false]
    have:vs[i].cells= #[vs[i]]:=by
     revert f1
     generalize vs[i]=u
     intro f1
     cases u<;>simp [Value.cells,x_d7] at f1 ⊢
    rw [this] at f2
    exact ⟨by simpa using f2.symm,f1⟩
 rcases rs with _ | ⟨r,_ | ⟨b,rs⟩⟩
 ·exact tupCase hf
 ·have he:x_lc s [r] l=[(r.1,x_jn s r.2.2 (l.take r.2.2.length))]:=rfl
  rw [he] at h1 h2 ⊢
  simp only [List.map_cons,List.map_nil,List.cons.injEq,Prod.mk.injEq,true_and,and_true] at h2
  obtain ⟨k1,k2,k3,k4⟩:=x_tx hf.1 hf.2 h2
  simp only [List.flatMap_cons,List.flatMap_nil,List.append_nil] at h1
  exact ⟨by simp only [k1];simpa using h1,k3,k4⟩
 ·have:=tupCase hf
  simpa [x_lc] using this
theorem x_w3 (I:Inv D st tm w g) {s:Nat} {sc:SC} {v:Value} {d:Nat} (hdst:∀ d',o.dst=some d'→d'=d) (hs:∀ j, ¬ D (.c ⟨false,d,j⟩,s)) (hsh:∀ st tm w g,shape st tm w g sc v) (hst:stS sc=[])
  (hc:∀ (j:Nat) c,sc.cells[j]?=some c→ ∃ cv,(vcs v)[j]?=some cv∧(c= .dead∨ ∃ e u,(c= .val .f e u∨c= .val (.x s) e u)∧ ∀ st' tm',x_b5 st' tm' w g ⟨false,d,j⟩ c cv)) (he:(putD o sc).Ends st () st') :
  ∃ D',Goes D D' st tm w g st' (dput o tm v) w g∧ ∀ k t,D' (k,t)→D (k,t)∨t=s:=by
 unfold putD at he
 unfold dput
 cases hd:o.dst with
 | none=>rw [hd] at he;obtain ⟨_,rfl⟩:=Pr.er he;exact ⟨D, .refl I,fun _ _ h=> .inl h⟩
 | some d'=>
  obtain rfl:=hdst d' hd
  rw [hd] at he
  obtain ⟨_,rfl⟩:=Pr.er (Pr.ends_wr he)
  by_cases h:d'<tm.size
  ·have hne:∀ (j:Nat) c,sc.cells[j]?=some c→c= .dead∨(∃ e u,c= .val .f e u)∨ ∃ e u,c= .val (.x s) e u:=fun j c hj=>by
    obtain ⟨cv,_,h2 | ⟨e,u,h2 | h2,_⟩⟩:=hc j c hj
    ·exact .inl h2
    ·exact .inr (.inl ⟨e,u,h2⟩)
    ·exact .inr (.inr ⟨e,u,h2⟩)
   refine ⟨fun t=>D t∨t.2=s,(setG I h (.refl I _) ⟨hsh _ _ _ _,by rw [hst];simp⟩ (fun j c hj=>?_) (fun j t x u hj=>?_) fun t h=> .inl h).goes I (Stp.refl w g),fun k t h=>h⟩
   ·obtain ⟨cv,h1,h2⟩:=hc j c hj
    rcases h2 with rfl | ⟨e,u,hcu,hr⟩
    ·exact ⟨by simp [stC],cv,h1,trivial⟩
    ·refine ⟨fun t ht=>?_,cv,h1,hr _ _⟩
     rcases hcu with rfl | rfl
     ·simp [stC] at ht
     ·simp only [stC,List.mem_singleton] at ht;exact .inr (by rw [ht])
   ·rcases hne j _ hj with h | ⟨e,u',h⟩ | ⟨e,u',h⟩
    ·simp at h
    ·simp at h
    ·simp only [Cell.val.injEq,Md.x.injEq] at h
     rw [h.1];exact hs j
  ·have h1:∀ v,tm.setIfInBounds d' v=tm:=fun v=>by simp [Array.setIfInBounds,h]
   have h2:∀ sc,Wr.put st (.sl d' sc)=st:=fun sc=>by
    have hl:st.sl.length≤d':=by rw [I.len];exact Nat.le_of_not_lt h
    simp [Wr.put,List.set_eq_of_length_le hl]
   simp only [h1,h2]
   exact ⟨D, .refl I,fun _ _ h=> .inl h⟩
end Go.Kn
namespace Go.Kn
variable [Ctx]
variable {P:Program} {D:Key×Nat→Prop} {st st':St} {tm:Array Value} {w w1:World} {g:Gh} {ds:List Deferred} {E:Env}
variable {T:Tab} {keep:Bool} {i:Nat} {o:Oper}
theorem exec_call {c:Call} {f:FuncId} (ho:o.op= .call c) (hc:c.callee= .value (.func f)) (he:∃ fn,P.funcs[f]?=some fn∧fn.body.isNone=false∧(fn.name == "runtime.NumGoroutine")=false) (w:World) :
  (execOp (⟨tm,ds⟩ : Act).eval o).run P w= .ok (.enter f (c.args.map (⟨tm,ds⟩ : Act).eval)) w:=by
 obtain ⟨fn,h1,h2,h3⟩:=he
 have h3':fn.name≠ "runtime.NumGoroutine" :=by simpa using h3
 have h2':fn.body≠none:=fun e=>by simp [e] at h2
 simp [execOp,ho,resolve,hc,Act.eval,Deferred.ofValue,invoke,callFunc,h1,h2',h3']
theorem x_r7 {s:St} {n k:Nat} (h:((s.bx.getD n none).map fun b=>(b.1,b.2.length))=((st.bx.getD n none).map fun b=>(b.1,b.2.length))) (hb:∃ t cs,st.bx.getD n none=some (t,cs)∧cs.length=k) :
  ∃ t cs,s.bx.getD n none=some (t,cs)∧cs.length=k:=by
 obtain ⟨t,cs,h1,h2⟩:=hb
 rw [h1] at h
 cases h3:s.bx.getD n none with
 | none=>rw [h3] at h;simp at h
 | some b=>
  rw [h3] at h
  simp only [Option.map_some,sj_,Prod.mk.injEq] at h
  exact ⟨b.1,b.2,rfl,by omega⟩
theorem x_i0:∀ (ps:List Par) (a:List (Md×Cell)) (ns:List (Nat×Nat)) (vs cvs:List Value),x_ju w g st ps a ns vs cvs→ ∀ x∈ns, ∃ t cs,st.bx.getD x.1 none=some (t,cs)∧cs.length=x.2
 | [],a,ns,vs,cvs,h,x,hx=>by obtain ⟨_,rfl,_⟩:=h;simp at hx
 | .val _ _ ms::ps,a,ns,vs,cvs,⟨_,vs',_,a',cvs',_,_,_,_,_,_,h⟩,x,hx=>x_i0 ps a' ns vs' cvs' h x hx
 | .nl _::ps,a,ns,vs,cvs,⟨vs',_,h⟩,x,hx=>x_i0 ps a ns vs' cvs h x hx
 | .via _::ps,a,ns,vs,cvs,h,x,hx=>by
  obtain ⟨n,ns',vs',_,rfl,hb,h⟩:=h
  rcases List.mem_cons.1 hx with rfl | hx
  ·exact hb
  ·exact x_i0 ps a ns' vs' cvs h x hx
 | .ptr _ ms _::ps,a,ns,vs,cvs,h,x,hx=>by
  obtain ⟨n,ns',vs',c,a',vals,ty,cvs',_,rfl,_,_,hb,_,_,_,_,h⟩:=h
  rcases List.mem_cons.1 hx with rfl | hx
  ·exact hb
  ·exact x_i0 ps a' ns' vs' cvs' h x hx
theorem x_0j {c:Call} {n:Nat} {f:FuncId} {vs:Array Value} (ho:o.op= .call c) (hc:c.callee= .value (.tmp n)) (hn:tm.getD n undef= .func (.func f) #[] vs) (he:∃ fn,P.funcs[f]?=some fn∧fn.body.isNone=false∧(fn.name == "runtime.NumGoroutine")=false) (w:World) :
  (execOp (⟨tm,ds⟩ : Act).eval o).run P w= .ok (.enter f (c.args.map (⟨tm,ds⟩ : Act).eval++vs)) w:=by
 obtain ⟨fn,h1,h2,h3⟩:=he
 have h3':fn.name≠ "runtime.NumGoroutine" :=by simpa using h3
 have h2':fn.body≠none:=fun e=>by simp [e] at h2
 have hn':(⟨tm,ds⟩ : Act).eval (.tmp n)= .func (.func f) #[] vs:=hn
 simp [execOp,ho,resolve,hc,hn',Deferred.ofValue,invoke,callFunc,h1,h2',h3']
theorem x_u4 (I:Inv D st tm w g):∀ (cs:List SC) (vs:List Value) (r:List SC) (s1:St),(capR cs).Ends st r s1→vs.length=cs.length→
  (∀ (j:Nat) n t off v,cs[j]?=some (.one (.ptr n t off))→vs[j]?=some v→(okBx st n t=true→v= .pointer (some ⟨g.bb n,off,none⟩))∧D (.b n,t))→s1=st∧Opds D st tm w g r vs
 | [],vs,r,s1,he,hl,h=>by
  obtain ⟨rfl,hs⟩:=Pr.er he
  obtain rfl:vs=[]:=List.length_eq_zero_iff.1 (by simpa using hl)
  exact ⟨hs, .nil⟩
 | .one (.ptr n t off)::l,vs,r,s1,he,hl,h=>by
  cases vs with
  | nil=>simp at hl
  | cons v vs=>
   obtain ⟨x,hx,he⟩:=Pr.ends_rb he
   obtain ⟨hb,he⟩:=Pr.ek he
   obtain ⟨a,s,h1,h2⟩:=Pr.eb he
   obtain ⟨hs,Os⟩:=x_u4 I l vs a s h1 (by simpa using hl) (fun j n t off v h1 h2=>h (j+1) n t off v (by simpa using h1) (by simpa using h2))
   rw [hs] at h2
   obtain ⟨rfl,hs'⟩:=Pr.er h2
   obtain ⟨cs',h3,h4⟩:=x_fx I hx
   have hok:okBx st n t=true:=x_ek.2 ⟨cs',by rw [h3,beq_iff_eq.1 hb]⟩
   obtain ⟨h5,h6⟩:=h 0 n t off v rfl rfl
   have hv:=h5 hok
   refine ⟨hs', .cons (x_eu (by rw [hv];exact ⟨by simp,by simp⟩) trivial (fun k hk=>?_) fun _=>hv) Os⟩
   simp only [stC,List.mem_singleton] at hk
   rw [hk];exact h6
 | .dead::_,vs,r,s1,he,hl,h=>(Pr.ef he).elim
 | .agg _::_,vs,r,s1,he,hl,h=>(Pr.ef he).elim
 | .tup _::_,vs,r,s1,he,hl,h=>(Pr.ef he).elim
 | .pe .. ::_,vs,r,s1,he,hl,h=>(Pr.ef he).elim
 | .ph .. ::_,vs,r,s1,he,hl,h=>(Pr.ef he).elim
 | .fn .. ::_,vs,r,s1,he,hl,h=>(Pr.ef he).elim
 | .one (.val ..)::_,vs,r,s1,he,hl,h=>(Pr.ef he).elim
 | .one (.ref ..)::_,vs,r,s1,he,hl,h=>(Pr.ef he).elim
 | .one (.win ..)::_,vs,r,s1,he,hl,h=>(Pr.ef he).elim
 | .one (.nil _)::_,vs,r,s1,he,hl,h=>(Pr.ef he).elim
 | .one .dead::_,vs,r,s1,he,hl,h=>(Pr.ef he).elim
theorem fn_caps (I:Inv D st tm w g) {f:FuncId} {cs r:List SC} {v:Value} {s1:St} (hsh:shape st tm w g (.fn f cs) v) (hst:∀ t∈stS (.fn f cs),D t) (he:(capR cs).Ends st r s1) :
  s1=st∧ ∃ vs:Array Value,v= .func (.func f) #[] vs∧vs.size=cs.length∧Opds D st tm w g r vs.toList:=by
 obtain ⟨vs,h1,h2,h3⟩:=hsh
 obtain ⟨hs,Os⟩:=x_u4 I cs vs.toList r s1 he (by simpa using h2) (fun j n t off v hc hv=>by
  have hj:=(List.getElem?_eq_some_iff.1 hc).1
  have hc':cs[j]= .one (.ptr n t off):=(List.getElem?_eq_some_iff.1 hc).2
  have hv':vs[j]'(by omega)=v:=by rw [Array.getElem?_toList,Array.getElem?_eq_getElem (by omega)] at hv;exact Option.some.inj hv
  have h4:=h3 j hj (by omega)
  rw [hc'] at h4
  exact ⟨fun ho=>by rw [←hv'];exact h4 ho,hst _ (by
   simp only [stS,List.mem_flatMap]
   exact ⟨_,List.mem_of_getElem? hc,by simp⟩)⟩)
 exact ⟨hs,vs,h1,h2,Os⟩
theorem Opds.append:∀ {a:List SC} {u:List Value} {b:List SC} {v:List Value},Opds D st tm w g a u→Opds D st tm w g b v→Opds D st tm w g (a++b) (u++v)
 | _,_,_,_, .nil,k=>k
 | _,_,_,_, .cons h t,k=> .cons h (t.append k)
theorem Opds.len {a:List SC} {u:List Value} (h:Opds D st tm w g a u):a.length=u.length:=h.get.1
theorem x_i6 (I:Inv D st tm w g):∀ (pk:List Pk) (acc xs:List SC) (vs:List Value) (r:List SC) (s1:St),(x_n4 acc pk xs).Ends st r s1→Opds D st tm w g xs vs→
  s1=st∧ ∃ us,x_pc pk us=vs∧Opds D st tm w g r us
 | [],acc,xs,vs,r,s1,he,Os=>by
  obtain ⟨rfl,hs⟩:=Pr.er he
  exact ⟨hs,vs,by cases vs<;>rfl,Os⟩
 | .one::pk,acc,[],vs,r,s1,he,Os=>(Pr.ef he).elim
 | .one::pk,acc,x::xs,_,r,s1,he, .cons (v:=v) (vs:=vs) O Os=>by
  obtain ⟨a,s,h1,h2⟩:=Pr.eb he
  obtain ⟨hs,us,h3,h4⟩:=x_i6 I pk _ xs vs a s h1 Os
  obtain ⟨rfl,hs'⟩:=Pr.er h2
  exact ⟨hs'.trans hs,v::us,by rw [←h3];rfl, .cons O h4⟩
 | .fn f m::pk,acc,[],vs,r,s1,he,Os=>(Pr.ef he).elim
 | .fn f m::pk,acc, .fn f' cs::xs,_,r,s1,he, .cons (v:=v) (vs:=vs) O Os=>by
  simp only [x_n4] at he
  split at he
  ·rename_i hf
   obtain ⟨rfl,hm⟩:=hf
   obtain ⟨c,s,h1,h2⟩:=Pr.eb he
   obtain ⟨hs,us,rfl,h3,h4⟩:=fn_caps I O.shp O.stm h1
   rw [hs] at h2
   obtain ⟨a,s',h5,h6⟩:=Pr.eb h2
   obtain ⟨hs',zs,h7,h8⟩:=x_i6 I pk _ xs vs a s' h5 Os
   obtain ⟨rfl,hs''⟩:=Pr.er h6
   have hm':us.toList.length=m:=by simpa [h3] using hm
   refine ⟨hs''.trans hs',us.toList++zs,?_,h4.append h8⟩
   show _::x_pc pk _=_
   rw [List.take_left' hm',List.drop_left' hm',h7,Array.toArray_toList]
  ·exact (Pr.ef he).elim
 | .fn f m::pk,acc, .dead::xs,vs,r,s1,he,Os=>(Pr.ef he).elim
 | .fn f m::pk,acc, .one _::xs,vs,r,s1,he,Os=>(Pr.ef he).elim
 | .fn f m::pk,acc, .agg _::xs,vs,r,s1,he,Os=>(Pr.ef he).elim
 | .fn f m::pk,acc, .tup _::xs,vs,r,s1,he,Os=>(Pr.ef he).elim
 | .fn f m::pk,acc, .pe .. ::xs,vs,r,s1,he,Os=>(Pr.ef he).elim
 | .fn f m::pk,acc, .ph .. ::xs,vs,r,s1,he,Os=>(Pr.ef he).elim
 | .gh c::pk,acc,xs,vs,r,s1,he,Os=>by
  simp only [x_n4] at he
  split at he
  ·obtain ⟨x,hx,he⟩:=Pr.ends_rb he
   split at he
   ·rename_i m s off hxc
    obtain ⟨y,hy,he⟩:=Pr.ends_rb he
    obtain ⟨hb,he⟩:=Pr.ek he
    obtain ⟨a,s',h5,h6⟩:=Pr.eb he
    obtain ⟨hs',zs,h7,h8⟩:=x_i6 I pk acc xs vs a s' h5 Os
    obtain ⟨rfl,hs''⟩:=Pr.er h6
    obtain ⟨cs2,h10,_⟩:=x_fx I hy
    rw [beq_iff_eq.1 hb] at h10
    refine ⟨hs''.trans hs', .pointer (some ⟨g.bb m,off,none⟩)::zs,h7, .cons (x_eu ⟨by simp,by simp⟩ trivial (fun k hk=>?_) fun _=>rfl) h8⟩
    simp only [stC,List.mem_singleton] at hk
    rw [hk];exact (I.box m s cs2 h10).1
   ·exact (Pr.ef he).elim
  ·exact (Pr.ef he).elim
theorem call_core {f:FuncId} {F:FSp} (hF:FOk P f F) (hmk:F.nv=false) (hfr:x_o5 D (i+1)) {ys:List SC} {vals:List Value} (hex:∀ w,(execOp (⟨tm,ds⟩ : Act).eval o).run P w= .ok (.enter f vals.toArray) w) (I:Inv D st tm w g)
  (Os0:Opds D st tm w g ys vals) (h2:((callR i F ys).bind (putD o)).Ends st () st'):OpOk P o D st tm w g st' (i+1) ds:=by
 obtain ⟨rs,sR,h3,hput⟩:=Pr.eb h2
 obtain ⟨xs,s0,h3u,h3⟩:=Pr.eb h3
 obtain ⟨hs0,us,hpk,Os⟩:=x_i6 I F.pk [] ys vals xs s0 h3u Os0
 rw [hs0] at h3
 obtain ⟨⟨a,ns⟩,s1,h4,h5⟩:=Pr.eb h3
 obtain ⟨rfl,cvs,hform,hal,hac⟩:=x_hj I _ _ _ _ _ h4 Os
 simp only at hform hal hac h5
 split at h5
 ·rename_i hnd
  obtain ⟨ls,s2,h6,h7⟩:=Pr.eb h5
  obtain ⟨g1,X,G1,Z1,hll,hgot,hXd,hinj⟩:=x_po I h6 hal hac
  obtain ⟨v,s3,h8,h9⟩:=Pr.eb h7
  obtain ⟨hv,hs3⟩:=x_fq h8
  rw [hs3] at h9
  obtain ⟨bk,s9,h9v,h9⟩:=Pr.eb h9
  obtain ⟨hs9,hvia1⟩:=x_kx G1.inv _ _ _ _ _ h9v
  have hvia:x_js w g (prs 0 F.ps ns) F.ps ns bk:=x_k2 (fun n=>by rw [Z1.bb]) _ _ _ hvia1
  rw [hs9] at h9
  obtain ⟨uu,s4,h10,h11⟩:=Pr.eb h9
  cases uu
  have hns:=x_i0 _ _ _ _ _ hform
  obtain ⟨G2,hkd,hkill,hklen⟩:=x_tb ns G1.inv h10 (fun x hx=>x_r7 (Z1.len x.1) (hns x hx))
  obtain ⟨r,hr,h12⟩:=Pr.ends_cal h11
  obtain ⟨uu,s5,h13,h14⟩:=Pr.eb h12
  cases uu
  obtain ⟨uu,s6,h13b,h14⟩:=Pr.eb h14
  cases uu
  obtain ⟨hrs,hsR⟩:=Pr.er h14
  have hrs:rs=resSC (i+1) F.rs (lv _ r):=hrs
  have hKf:=x_s3 F.ps 0 ns
  have hKi:=fun a a' n=>x_s5 F.ps 0 ns a a' n hnd
  have hKbx:∀ x∈prs 0 F.ps ns,g1.γ (g.bb x.2)= .bx x.2:=fun x hx=>by
   obtain ⟨_,l,hl⟩:=x_mh _ _ _ _ hx
   obtain ⟨t,cs,hb,_⟩:=hns _ hl
   exact Z1.bx _ _ (I.box _ t cs hb).2.1
  have hKbb:∀ x∈prs 0 F.ps ns,(calG g1 X (labs 0 F.ps) (prs 0 F.ps ns)).bb x.1=g.bb x.2:=fun x hx=>by rw [calG_bb hKf (k:=x.1) (n:=x.2) hx,Z1.bb]
  have hargs:=x_r8 (st:=s1) (w:=w) (g:=g) (gc:=calG g1 X (labs 0 F.ps) (prs 0 F.ps ns)) hKbb F.ps 0 a ns _ cvs ls bk hform hvia hll (fun j x cv y p hx hcv hy hp=>x_xj hXd hinj hp (hgot j x cv y hx hcv hy))
   (fun x hx=>⟨hKbb x hx,by show rho _ _ _ _=_;rw [hKbx x hx];exact rho_bx hKi hx⟩)
  have hU:Uni w (calG g1 X (labs 0 F.ps) (prs 0 F.ps ns)):=⟨fun b hb=>G1.inv.uni b fun e=>hb (by simp [calG,rho,e]),G1.inv.lib.tag fun b hb=>by simp [calG,rho,hb]⟩
  have hcall:=hF.ok hmk w _ _ ls v r hU hargs hv hr
  unfold OpOk Oper.wp
  rw [hex,Oper.upon_enter, ←hpk]
  refine hcall.mono fun e w' hend=>?_
  cases e with
  | panicked ch=>exact hend.elim
  | outgrown=>exact hend.elim
  | returned rv=>
   obtain ⟨gc',S,hU',hf,hh,hout⟩:=hend
   have hinfo:=x_nt F.ps 0 a ns _ cvs _ hform hout hKbb
   have hUg:Uni w g1:=⟨fun b hb=>G1.inv.uni b hb,G1.inv.lib⟩
   have hK1:∀ x∈prs 0 F.ps ns,gc'.γ (g1.bb x.2)= .bx x.1:=fun x hx=>by rw [Z1.bb];exact (hinfo x hx).1
   have G3:=ret_goes (d:=o.dst.getD 0) G2.inv S hU' (fun j h hj=>hkd h (hXd j h hj)) hKi (fun x hx=>by
    obtain ⟨k1,cells,ty,t,cs,k2,k3,k4⟩:=hinfo x hx
    obtain ⟨t',cs',k5,k6⟩:=x_r7 (hklen x.2) (x_r7 (Z1.len x.2) ⟨t,cs,k3,rfl⟩)
    exact ⟨hK1 x hx,cells,ty,t',cs',by rw [Z1.bb];exact k2,k5,by omega⟩) (fun x hx j c hcc=>by
    obtain ⟨_,l,hl⟩:=x_mh _ _ _ _ hx
    exact hkill _ hl j c hcc)
   obtain ⟨D4,G4,hD4,houtl⟩:=x_kp (G2:=retG w g1 gc' X (prs 0 F.ps ns) (o.dst.getD 0)) (s:=i+1) F.ps 0 a ns _ cvs _ hform hout G3.inv h13 (fun x hx=>⟨hKbb x hx,by show g1.bb _=_;rw [Z1.bb],fun j m a cv hm hh=>
    x_wp hUg S hK1 (sig_row_t hKf (k:=x.1) (n:=x.2) hx j) hm hh⟩) hnd (fun x hx j=>hfr _) (fun x hx=>x_r7 (hklen x.1) (x_r7 (Z1.len x.1) (hns x hx)))
   have G4b:=x_s2 bk G4.inv h13b fun x hx=>by
    obtain ⟨b1,b2⟩:=x_nn (G2:=retG w g1 gc' X (prs 0 F.ps ns) (o.dst.getD 0)) F.ps 0 a ns _ cvs _ bk hform hout hvia (fun y hy=>by rw [hKbb y hy];show _=g1.bb _;rw [Z1.bb]) (fun y hy=>by rw [hKbb y hy];show _=g1.bb _;rw [Z1.bb]) x hx
    exact ⟨x_r7 (houtl x.1) (x_r7 (hklen x.1) (x_r7 (Z1.len x.1) (hns _ b1))),b2⟩
   have hlen:resN F.rs≤(lv _ r).length:=by
    have:=hh.l1
    simp only [List.length_take] at this
    have:resN F.rs=(F.rs.flatMap fun r=>r.2.2).length:=rfl
    omega
   obtain ⟨r1,r2,r3⟩:=res_ready (s:=i+1) hf hlen
   rw [hsR,hrs] at hput
   obtain ⟨D5,G5,hD5⟩:=x_w3 (s:=i+1) (v:=rv) (d:=o.dst.getD 0) G4b.inv (fun d' hd=>by rw [hd];rfl) (fun j h=>by
    rcases hD4 _ _ h with h | ⟨_,n,j',h⟩
    ·exact hfr _ h
    ·simp at h) r2 r3 (fun j c hj=>by
    rw [r1] at hj
    obtain ⟨m,a,hm,ha,rfl⟩:=x_sk hj
    have hjm:=(List.getElem?_eq_some_iff.1 hm).1
    have hjv:j<(vcs rv).length:=by rw [hh.l2];exact hjm
    refine ⟨(vcs rv)[j],ge_ hjv,?_⟩
    by_cases hr:noR m=true
    ·have h0:=hh.h j m a _ hm ha (ge_ hjv) hr
     exact x_vr (x_wp (q:=⟨false,o.dst.getD 0,j⟩) hUg S hK1 (sig_row_f 0 j) hr h0)
    ·have hp:=hh.hp j m _ hm (ge_ hjv) (by simpa using hr)
     cases m with
     | r=>exact .inr ⟨.u,(), .inl rfl,fun _ _=>⟨rfl,hp⟩⟩
     | f=>simp [noR] at hr
     | x t=>simp [noR] at hr) hput
   refine ⟨D5,retG w g1 gc' X (prs 0 F.ps ns) (o.dst.getD 0),by rw [x_ua],?_,?_⟩
   ·rw [x_ua]
    exact ((((G1.trans G2).trans G3).trans G4).trans G4b).trans G5
   ·intro k t h
    rcases hD5 k t h with h | h
    ·rcases hD4 k t h with h | h
     ·exact .inl h
     ·exact .inr h.1
    ·exact .inr h
 ·exact (Pr.ef h5).elim
def mkG0 (g:Gh):Gh:= { γ:=fun b=>match g.γ b with | .fr=> .fr | _=> .out,bb:=fun _=>0 }
def mkG (g g':Gh) (w:World) (b n:Nat):Gh:=
 {γ:=fun c=>if c=b then .bx n else if c<w.heap.size then g.γ c else match g'.γ c with | .fr=> .fr | _=> .out,bb:=fun m=>if m=n then b else g.bb m }
theorem x_05 (I:Inv D st tm w g):∀ (ys:List SC) (vals:List Value) (ls:List LV) (s1:St),(mapP frz ys).Ends st ls s1→Opds D st tm w g ys vals→
  s1=st∧ls.length=vals.length∧ ∀ (j:Nat) a cv,ls[j]?=some a→vals[j]?=some cv→x_d7 cv∧lrep w g g.fr false a.1 a.2 cv
 | [],vals,ls,s1,he,Os=>by
  obtain ⟨rfl,hs⟩:=Pr.er he
  cases Os
  exact ⟨hs,rfl,fun j a cv h=>by simp at h⟩
 | y::ys,_,ls,s1,he, .cons (v:=v) (vs:=vs) O Os=>by
  obtain ⟨a,s,h1,h2⟩:=Pr.eb he
  obtain ⟨r,s',h3,h4⟩:=Pr.eb h2
  obtain ⟨rfl,hs'⟩:=Pr.er h4
  unfold frz at h1
  split at h1
  ·rename_i e v0
   obtain ⟨rfl,hs⟩:=Pr.er h1
   rw [hs] at h3
   obtain ⟨k1,k2,k3⟩:=x_05 I ys vs r s' h3 Os
   refine ⟨hs'.trans k1,congrArg Nat.succ k2,fun j a cv ha hcv=>?_⟩
   cases j with
   | zero=>
    have ha:(⟨e,v0⟩ : LV)=a:=Option.some.inj ha
    have hcv:v=cv:=Option.some.inj hcv
    subst ha hcv
    exact ⟨O.one.1,O.one.2.2.2⟩
   | succ j=>exact k3 j a cv ha hcv
  ·exact (Pr.ef h1).elim
theorem x_0e (I:Inv D st tm w g) {g':Gh} (S0:Stp w (mkG0 g) w1 g') (U:Uni w1 g') {n s:Nat} (hs:x_o5 D s) {b:Nat} {vals:Array Value} {ty:TypeId} (hb:w.heap.size≤b) (hbf:g'.γ b≠ .fr)
  (hh:w1.heap[b]?=some (.cells vals ty (0,0))) {ls:List LV} (hl:vals.size=ls.length) (hr:∀ (j:Nat) a cv,ls[j]?=some a→vals[j]?=some cv→lrep w1 g' g'.fr false a.1 a.2 cv) :
  Goes D (plusB D n s fun _=>False) st tm w g (nbSt st n s (ls.map x_id)) tm w1 (mkG g g' w b n):=by
 have hlt:b<w1.heap.size:=(Array.getElem?_eq_some_iff.1 hh).1
 have old:∀ b',b'<w.heap.size→w1.heap[b']?=w.heap[b']?:=fun b' h=>by
  cases hg:g.γ b' with
  | fr=>exact (S0.fr b' (by simp [mkG0,hg])).2
  | lent=>exact (S0.out b' h (by simp [mkG0,hg])).2
  | out=>exact (S0.out b' h (by simp [mkG0,hg])).2
  | row q=>exact (S0.out b' h (by simp [mkG0,hg])).2
  | bx m=>exact (S0.out b' h (by simp [mkG0,hg])).2
 have key:∀ b' t',g.γ b'=t'→t'≠ .out→(mkG g g' w b n).γ b'=t'∧w1.heap[b']?=w.heap[b']?:=fun b' t' h h'=>by
  have h1:b'<w.heap.size:=I.uni b' (by rw [h];exact h')
  have:b'≠b:=by omega
  exact ⟨by simp [mkG,this,h,h1],old b' h1⟩
 have hfr:∀ c,g'.γ c= .fr→(mkG g g' w b n).γ c= .fr:=fun c hc=>by
  have hcb:c≠b:=fun e=>hbf (e▸hc)
  by_cases hlt:c<w.heap.size
  ·cases hg:g.γ c with
   | fr=>simp [mkG,hcb,hlt,hg]
   | lent=>have:=(S0.out c hlt (by simp [mkG0,hg])).1;rw [hc] at this;cases this
   | out=>have:=(S0.out c hlt (by simp [mkG0,hg])).1;rw [hc] at this;cases this
   | row q=>have:=(S0.out c hlt (by simp [mkG0,hg])).1;rw [hc] at this;cases this
   | bx m=>have:=(S0.out c hlt (by simp [mkG0,hg])).1;rw [hc] at this;cases this
  ·simp [mkG,hcb,hlt,hc]
 have ha:∀ q:Pl, ¬ (q.bx=true∧q.n=n)→aAt (nbSt st n s (ls.map x_id)) q=aAt st q:=fun q hq=>by
  cases hb:q.bx with
  | false=>simp [aAt,hb,gets,nbSt]
  | true=>
   have:q.n≠n:=fun e=>hq ⟨hb,e⟩
   simp only [aAt,hb,if_true,getb,x_tp,this,false_and,if_false]
 have hc:∀ q:Pl, ¬ (q.bx=true∧q.n=n)→ ∀ c,aAt st q=some c→cAt tm w1 (mkG g g' w b n) q=cAt tm w g q:=fun q hq c hc=>by
  cases hb:q.bx with
  | false=>simp [cAt,hb]
  | true=>
   have hne:q.n≠n:=fun e=>hq ⟨hb,e⟩
   simp only [aAt,hb,if_true,getb] at hc
   cases hs:st.bx.getD q.n none with
   | none=>rw [hs] at hc;simp at hc
   | some bx=>
    obtain ⟨t,cs'⟩:=bx
    obtain ⟨_,h2,_⟩:=I.box q.n t cs' hs
    simp only [cAt,hb,if_true,mkG,hne,if_false]
    exact x_ig (key _ _ h2 (by simp)).2 _
 have hnew:∀ (q:Pl),(q.bx=true∧q.n=n)→ ∀ c,aAt (nbSt st n s (ls.map x_id)) q=some c→(ls.map x_id)[q.c]?=some c:=fun q hq c h=>by
  simp only [aAt,hq.1,if_true,getb,x_tp,hq.2,true_and] at h
  split at h
  ·simpa using h
  ·rename_i hn
   rw [gd_,List.getElem?_eq_none (by omega)] at h
   simp at h
 have S:Stp w g w1 (mkG g g' w b n):=⟨fun b h=>key b _ h (by simp),fun b h=>key b _ h (by simp),fun b' hl h=>by
  have:b'≠b:=by omega
  exact ⟨by simp [mkG,this,h,hl],old b' hl⟩,S0.size,S0.oth⟩
 refine (⟨by simp [nbSt,I.len],rfl,ha,hc,S.fr,S.lent,fun q t x v _ _ b' h=>key b' _ h (by simp),fun m _ _=>⟨.same _,rfl⟩,fun _ h=>h.elim,fun q hq c hqc=>?_,fun q hq t x v hqc=>?_,
  fun m t cs' hm=>?_,fun b' hb'=>?_,fun t h=> .inl h⟩ : Chg D (plusB D n s fun _=>False) st (nbSt st n s (ls.map x_id)) tm tm w w1 g (mkG g g' w b n) (fun q=>q.bx=true∧q.n=n) (fun _=>False)).goes I S
 ·have hj:=hnew q hq c hqc
  rw [List.getElem?_map,Option.map_eq_some_iff] at hj
  obtain ⟨a,ha,rfl⟩:=hj
  have hjl:=(List.getElem?_eq_some_iff.1 ha).1
  refine ⟨fun t ht=>by simp [x_id,stC] at ht,vals[q.c]'(by omega),?_,?_⟩
  ·simp only [cAt,hq.1,if_true,mkG,hq.2,bcell,hh]
   exact Array.getElem?_eq_getElem (by omega)
  ·exact lrep.mono (hr q.c a _ ha (Array.getElem?_eq_getElem (by omega))) (fun c hc=>⟨hfr c hc,rfl⟩) fun c hc=>⟨hfr c hc,rfl⟩
 ·have hj:=hnew q hq _ hqc
  rw [List.getElem?_map,Option.map_eq_some_iff] at hj
  obtain ⟨a,_,h⟩:=hj
  simp [x_id] at h
 ·rw [x_tp] at hm
  split at hm
  ·rename_i hmn
   obtain ⟨rfl,_⟩:=hmn
   simp only [sj_,Prod.mk.injEq] at hm
   obtain ⟨rfl,rfl⟩:=hm
   exact ⟨.inl (hs _), .inr (.inl rfl),by simp [mkG],vals,ty,by simp [mkG,hh],by simpa using hl⟩
  ·rename_i hn
   have hmn:m≠n:=fun e=>by
    subst e
    rw [gd_,List.getElem?_eq_none (Nat.le_of_not_lt fun h=>hn ⟨rfl,h⟩)] at hm
    simp at hm
   obtain ⟨h1,h2,vals',ty',h3,h4⟩:=I.box m t cs' hm
   have hbb:(mkG g g' w b n).bb m=g.bb m:=by simp [mkG,hmn]
   exact ⟨.inr ⟨cs',hm,hbb⟩, .inl h1,by rw [hbb];exact (key _ _ h2 (by simp)).1,vals',ty',by rw [hbb,(key _ _ h2 (by simp)).2];exact h3,h4⟩
 ·by_cases e:b'=b
  ·subst e;exact hlt
  ·by_cases hlt':b'<w.heap.size
   ·exact Nat.lt_of_lt_of_le hlt' S0.size
   ·refine U.1 b' fun ho=>hb' ?_
    simp [mkG,e,hlt',ho]
theorem callM_ok {sh:Nat} {f:FuncId} {F:FSp} (hF:FOk P f F) (hmk:F.nv=true) (hfr:x_o5 D (i+1)) {ys:List SC} {vals:List Value} (hex:∀ w,(execOp (⟨tm,ds⟩ : Act).eval o).run P w= .ok (.enter f vals.toArray) w) (I:Inv D st tm w g)
  (Os:Opds D st tm w g ys vals) (h2:(callM sh i F o ys).Ends st () st'):OpOk P o D st tm w g st' (i+1) ds:=by
 unfold callM at h2
 split at h2
 ·rename_i n hd
  obtain ⟨ls,s1,h3,h4⟩:=Pr.eb h2
  obtain ⟨rfl,hll,hrep⟩:=x_05 I _ _ _ _ h3 Os
  obtain ⟨v,s2,h5,h6⟩:=Pr.eb h4
  obtain ⟨hv,hs2⟩:=x_fq h5
  rw [hs2] at h6
  obtain ⟨r,hr,h7⟩:=Pr.ends_cal h6
  have h8:=Pr.ends_wr h7
  have hfr0:∀ b,g.γ b= .fr→(mkG0 g).γ b= .fr:=fun b h=>by simp [mkG0,h]
  have hU:Uni w (mkG0 g):=⟨fun b hb=>I.uni b fun e=>hb (by simp [mkG0,e]),I.lib.tag fun b hb=>by simp [mkG0,hb]⟩
  have hcall:=hF.mok hmk w (mkG0 g) vals ls v r (fun b=>by
   simp only [mkG0]
   split
   ·exact .inl rfl
   ·exact .inr rfl) hU hll (fun j a cv ha hcv=>⟨(hrep j a cv ha hcv).1,lrep.mono (hrep j a cv ha hcv).2 (fun c hc=>⟨hfr0 c hc,rfl⟩) fun c hc=>⟨hfr0 c hc,rfl⟩⟩) hv hr
  unfold OpOk Oper.wp
  rw [hex,Oper.upon_enter]
  refine hcall.mono fun e w' hend=>?_
  cases e with
  | panicked ch=>exact hend.elim
  | outgrown=>exact hend.elim
  | returned rv=>
   obtain ⟨g',b,cells,ty,S0,U,rfl,hb,hbf,hh,hl,hrr⟩:=hend
   have hgo:=x_0e I S0 U hfr (n:=n) hb hbf hh hl hrr
   have hO:=x_wk (tm:=tm) (D':=plusB D n (i+1) fun _=>False) (st':=nbSt s1 n (i+1) ((lv _ r).map x_id)) (w1:=w') (g':=mkG g g' w b n) (n:=n) (s:=i+1) (b:=b) (.inr (.inl rfl)) (by simp [mkG])
   refine ⟨plusB D n (i+1) fun _=>False,mkG g g' w b n,by rw [x_ua],?_,?_⟩
   ·rw [x_ua]
    exact hgo.trans (x_gh hgo.inv hO h8)
   ·intro k t h
    rcases h with h | h | ⟨_,h,_⟩
    ·exact .inl h
    ·exact .inr (congrArg Prod.snd h)
    ·exact h.elim
 ·exact (Pr.ef h2).elim
theorem x_yq {sh:Nat} {f:FuncId} {F:FSp} (hF:FOk P f F) (hfr:x_o5 D (i+1)) {ys:List SC} {vals:List Value} (hex:∀ w,(execOp (⟨tm,ds⟩ : Act).eval o).run P w= .ok (.enter f vals.toArray) w) (I:Inv D st tm w g)
  (Os:Opds D st tm w g ys vals) (h2:(callO sh i F o ys).Ends st () st'):OpOk P o D st tm w g st' (i+1) ds:=by
 unfold callO at h2
 cases hmk:F.nv with
 | true=>rw [hmk,if_pos rfl] at h2;exact callM_ok hF hmk hfr hex I Os h2
 | false=>
  rw [hmk] at h2
  exact call_core hF hmk hfr hex I Os h2
theorem ok_call (TF:∀ f xs F,T.of f xs=some F→FOk P f F) {c:Call} {f:FuncId} (hfr:x_o5 D (i+1)) (ho:o.op= .call c) (hc:c.callee= .value (.func f)) (I:Inv D st tm w g)
  (he:(opR T keep i o).Ends st () st'):OpOk P o D st tm w g st' (i+1) ds:=by
 simp only [opR,ho,hc] at he
 obtain ⟨xs,s,h1,h2⟩:=Pr.eb he
 obtain ⟨rfl,hl,Os⟩:=x_k7 (ds:=ds) I _ _ _ _ h1
 have harr:c.args.map (⟨tm,ds⟩ : Act).eval=(c.args.toList.map (⟨tm,ds⟩ : Act).eval).toArray:=by rw [←Array.toList_map,Array.toArray_toList]
 cases hT:T.of f xs with
 | none=>rw [hT] at h2;exact (Pr.ef h2).elim
 | some F=>
  rw [hT] at h2
  have hF:=TF f xs F hT
  exact x_yq hF hfr (fun w=>by rw [exec_call ho hc hF.ent,harr]) I Os h2
theorem ok_callv (TF:∀ f F,T.fs f=some F→FOk P f F) {c:Call} {n:Nat} (hfr:x_o5 D (i+1)) (ho:o.op= .call c) (hc:c.callee= .value (.tmp n)) (I:Inv D st tm w g)
  (he:(opR T keep i o).Ends st () st'):OpOk P o D st tm w g st' (i+1) ds:=by
 simp only [opR,ho,hc] at he
 have he:=Pr.ends_rs he
 split at he
 ·rename_i f cs hz
  split at he
  ·rename_i F hT
   obtain ⟨ys,s,h1,h2⟩:=Pr.eb he
   have hn:n<tm.size:=by
    rcases Nat.lt_or_ge n tm.size with h | h
    ·exact h
    ·rw [←I.len] at h
     simp only [gets,gd_,List.getElem?_eq_none h,Option.getD_none] at hz
     cases hz
   have hsh:=I.shp n hn
   rw [hz] at hsh
   obtain ⟨hs,us,hv,h3,Oc⟩:=fn_caps I hsh (by rw [←hz];exact I.stm n) h1
   rw [hs] at h2
   obtain ⟨xs,s',h4,h5⟩:=Pr.eb h2
   obtain ⟨rfl,hl,Os⟩:=x_k7 (ds:=ds) I _ _ _ _ h4
   refine x_yq (TF f F hT) hfr (fun w=>?_) I (Os.append Oc) h5
   rw [x_0j ho hc hv (TF f F hT).ent]
   congr 2
   apply Array.toList_inj.1
   simp
  ·exact (Pr.ef he).elim
 ·exact (Pr.ef he).elim
end Go.Kn
namespace Go.Kn
variable [Ctx]
variable {P:Program} {D:Key×Nat→Prop} {st st':St} {tm:Array Value} {w w1:World} {g:Gh} {ds:List Deferred} {E:Env}
variable {T:Tab} {keep:Bool} {i:Nat} {o:Oper}
structure TOk (P:Program) (T:Tab):Prop where
 ty:x_fu P T.ti
 fn:∀ f F,T.fs f=some F→FOk P f F
 fg:∀ f g F,T.ff f g=some F→FOk P f F
theorem TOk.of (TO:TOk P T) (f:FuncId) (xs:List SC) (F:FSp) (h:T.of f xs=some F):FOk P f F:=by
 unfold Tab.of at h
 split at h
 ·exact TO.fn f F h
 ·split at h
  ·exact TO.fn f F h
  ·rename_i hg
   rw [h] at hg
   exact TO.fg f _ F hg
theorem ok_assign {x:Operand} (hf:x_o5 D (i+1)) (ho:o.op= .assign x) (I:Inv D st tm w g) (he:(opR T keep i o).Ends st () st'):OpOk P o D st tm w g st' (i+1) ds:=by
 cases hz:frzD T o with
 | false=>exact x_zs hz hf ho I he
 | true=>
  simp only [opR,ho,hz,if_true] at he
  obtain ⟨a,s,h1,h2⟩:=Pr.eb he
  obtain ⟨rfl,O⟩:=x_bp (ds:=ds) I h1
  obtain ⟨b,s1,h3,h4⟩:=Pr.eb h2
  obtain ⟨g',G,O'⟩:=x_wa I h3 O
  exact x_gr (v:=(⟨tm,ds⟩ : Act).eval x) (w':=w) (by simp [execOp,ho]) ⟨D,g',rfl,G.trans (x_gh G.inv O' h4),fun k t h=> .inl h⟩
theorem op_ok (TO:TOk P T) (hf:x_o5 D (i+1)) (I:Inv D st tm w g) (he:(opR T keep i o).Ends st () st'):OpOk P o D st tm w g st' (i+1) ds:=by
 cases ho:o.op
 case move=>exact ok_move ho I he
 case assign=>exact ok_assign hf ho I he
 case pick=>exact ok_pick ho I he
 case alloc=>exact ok_alloc TO.ty hf ho I he
 case box=>exact ok_box hf ho I he
 case build=>exact ok_build TO.ty ho I he
 case buildSlice=>exact x_su TO.ty hf ho I he
 case load=>exact ok_load TO.ty ho I he
 case store=>exact ok_store TO.ty hf ho I he
 case nilCheck=>exact x_xt ho I he
 case binOp=>exact ok_binOp TO.ty ho I he
 case unOp=>exact ok_unOp ho I he
 case convert=>exact x_y2 TO.ty hf ho I he
 case makeSlice=>exact x_uk TO.ty hf ho I he
 case slice=>exact ok_slice TO.ty ho I he
 case fieldAddr=>exact x_tz TO.ty ho I he
 case field=>exact ok_field TO.ty ho I he
 case indexAddr=>exact x_ug TO.ty ho I he
 case index=>exact ok_index TO.ty ho I he
 case extract=>exact x_yv ho I he
 case makeFunc=>exact x_xu (fn:= .tmp 0) ⟨_,ho⟩ I he
 case call c=>
  cases hc:c.callee
  case builtin b=>exact x_08 TO.ty hf ho hc I he
  case value x=>
   cases x
   case func f=>
    exact ok_call TO.of hf ho hc I he
   case tmp n=>exact ok_callv TO.fn hf ho hc I he
   all_goals (simp only [opR,ho,hc] at he;exact (Pr.ef he).elim)
  all_goals (simp only [opR,ho,hc] at he;exact (Pr.ef he).elim)
 all_goals (simp only [opR,ho] at he;exact (Pr.ef he).elim)
def x_kf (a b:St):Loc→Prop
 | .sl n=>gets a n=gets b n
 | .bx n=>a.bx.getD n none=b.bx.getD n none
def x_gv (a b:St):Prop:=a.sl.length=b.sl.length∧a.bx.length=b.bx.length
theorem x_pj (st:St) (x:Wr):x_gv (x.put st) st:=by cases x<;>simp [Wr.put,x_gv]
theorem x_j1 {st:St} {x:Wr} {l:Loc} (h:x.loc≠l):x_kf (x.put st) st l:=by
 cases x with
 | sl n y=>
  cases l with
  | sl m=>
   have:n≠m:=fun e=>h (by rw [e];rfl)
   simp [x_kf,Wr.put,gets,gd_,List.getElem?_set_ne this]
  | bx m=>rfl
 | bc n c y=>
  cases l with
  | sl m=>rfl
  | bx m=>
   have:n≠m:=fun e=>h (by rw [e];rfl)
   simp [x_kf,Wr.put,gd_,List.getElem?_modify,this]
 | nb n t cs=>
  cases l with
  | sl m=>rfl
  | bx m=>
   have:n≠m:=fun e=>h (by rw [e];rfl)
   simp [x_kf,Wr.put,gd_,List.getElem?_set_ne this]
theorem x_qp {a b:St} {x:Wr} {l:Loc} (hl:x_gv a b) (h:x_kf a b l):x_kf (x.put a) (x.put b) l:=by
 by_cases hx:x.loc=l
 ·subst hx
  cases x with
  | sl n y=>
   simp only [x_kf,Wr.loc,Wr.put,gets,gd_,List.getElem?_set,if_true]
   rw [hl.1]
  | bc n c y=>
   simp only [x_kf,Wr.loc,Wr.put,gd_,List.getElem?_modify,if_true] at h ⊢
   revert h
   cases h1:a.bx[n]? with
   | none=>
    have:n<b.bx.length→False:=fun hb=>by rw [←hl.2] at hb;simp [ge_ hb] at h1
    have h2:b.bx[n]?=none:=List.getElem?_eq_none (Nat.le_of_not_lt this)
    simp [h2]
   | some u=>
    have h3:=(List.getElem?_eq_some_iff.1 h1).1
    rw [hl.2] at h3
    rw [ge_ h3]
    simp only [Option.getD_some,Option.map_some]
    intro h
    rw [h]
  | nb n t cs=>
   simp only [x_kf,Wr.loc,Wr.put,gd_,List.getElem?_set,if_true]
   rw [hl.2]
 ·have h1:=x_j1 (st:=a) hx
  have h2:=x_j1 (st:=b) hx
  cases l<;>simp only [x_kf] at h h1 h2 ⊢ <;>rw [h1,h2,h]
theorem x_gv.trans {a b c:St} (h:x_gv a b) (k:x_gv b c):x_gv a c:=⟨h.1.trans k.1,h.2.trans k.2⟩
theorem x_gv.symm {a b:St} (h:x_gv a b):x_gv b a:=⟨h.1.symm,h.2.symm⟩
theorem x_0g {α : Type} (p:Pr α):∀ (a b:St) (x : α) (tr:List Loc) (ws:List Wr),p.Ev a x tr ws→x_gv b a→(∀ l∈tr,x_kf b a l)→(∀ y∈ws,x_kf b a y.loc)→p.Ev b x tr ws:=by
 induction p with
 | ret z=>intro a b x tr ws h _ _ _;exact h
 | fail=>intro a b x tr ws h _ _ _;exact h
 | chk c p ih=>intro a b x tr ws ⟨hc,h⟩ hl ht hw;exact ⟨hc,ih a b x tr ws h hl ht hw⟩
 | br c p q ihp ihq=>
  intro a b x tr ws h hl ht hw
  rcases h with ⟨hc,h⟩ | ⟨hc,h⟩
  ·exact .inl ⟨hc,ihp a b x tr ws h hl ht hw⟩
  ·exact .inr ⟨hc,ihq a b x tr ws h hl ht hw⟩
 | cal e y p ih=>intro a b x tr ws ⟨v,hv,h⟩ hl ht hw;exact ⟨v,hv,ih v a b x tr ws h hl ht hw⟩
 | rs n p ih=>
  intro a b x tr ws h hl ht hw
  obtain ⟨t,rfl,h⟩:=h
  have h0:gets b n=gets a n:=ht (.sl n) (by simp)
  refine ⟨t,rfl,?_⟩
  rw [h0]
  exact ih _ a b x t ws h hl (fun l hl'=>ht l (by simp [hl'])) hw
 | rb n c p ih=>
  intro a b x tr ws h hl ht hw
  obtain ⟨y,t,hy,rfl,h⟩:=h
  have h0:b.bx.getD n none=a.bx.getD n none:=ht (.bx n) (by simp)
  refine ⟨y,t,by rw [←hy];simp only [getb,h0],rfl,ih _ a b x t ws h hl (fun l hl'=>ht l (by simp [hl'])) hw⟩
 | wr y p ih=>
  intro a b x tr ws h hl ht hw
  obtain ⟨s,rfl,h⟩:=h
  exact ⟨s,rfl,ih (y.put a) (y.put b) x tr s h ((x_pj b y).trans (hl.trans (x_pj a y).symm)) (fun l hl'=>x_qp hl (ht l hl')) (fun z hz=>x_qp hl (hw z (by simp [hz])))⟩
 | ln n c p ih=>
  intro a b x tr ws h hl ht hw
  obtain ⟨t,hc,rfl,h⟩:=h
  have h0:b.bx.getD n none=a.bx.getD n none:=ht (.bx n) (by simp)
  exact ⟨t,by rw [h0];exact hc,rfl,ih a b x t ws h hl (fun l hl'=>ht l (by simp [hl'])) hw⟩
theorem x_rl (ws:List Wr):∀ st:St,x_gv (puts st ws) st:=by
 induction ws with
 | nil=>intro st;exact ⟨rfl,rfl⟩
 | cons x ws ih=>intro st;exact (ih _).trans (x_pj st x)
theorem x_ja (l:Loc):∀ (ws:List Wr) (a b:St),x_gv a b→x_kf a b l→x_kf (puts a ws) (puts b (ws.filter fun x=>x.loc == l)) l
 | [],a,b,hl,h=>h
 | x::ws,a,b,hl,h=>by
  simp only [x_qn,List.filter_cons]
  by_cases hx:x.loc=l
  ·have:(x.loc == l)=true:=by simp [hx]
   rw [if_pos this,x_qn]
   exact x_ja l ws _ _ ((x_pj a x).trans (hl.trans (x_pj b x).symm)) (x_qp hl h)
  ·have:¬ (x.loc == l)=true:=by simp [hx]
   rw [if_neg this]
   refine x_ja l ws _ _ ((x_pj a x).trans hl) ?_
   have h1:=x_j1 (st:=a) hx
   cases l<;>simp only [x_kf] at h h1 ⊢ <;>rw [h1,h]
theorem st_ext {a b:St} (hl:x_gv a b) (h:∀ l,x_kf a b l):a=b:=by
 obtain ⟨sa,ba⟩:=a
 obtain ⟨sb,bb⟩:=b
 obtain ⟨h1,h2⟩:=hl
 simp only at h1 h2
 congr 1
 ·apply List.ext_getElem h1
  intro n ha hb
  have:=h (.sl n)
  simpa [x_kf,gets,gd_,ge_ ha,ge_ hb] using this
 ·apply List.ext_getElem h2
  intro n ha hb
  have:=h (.bx n)
  simpa [x_kf,gd_,ge_ ha,ge_ hb] using this
theorem x_kf.trans' {a b c:St} {l:Loc} (h:x_kf a b l) (k:x_kf b c l):x_kf a c l:=by cases l<;>simp only [x_kf] at h k ⊢ <;>rw [h,k]
theorem x_kf.symm' {a b:St} {l:Loc} (h:x_kf a b l):x_kf b a l:=by cases l<;>exact h.symm
theorem x_kf.rfl' {a:St} {l:Loc}:x_kf a a l:=by cases l<;>rfl
theorem x_rk {st:St} {l:Loc} {u v:List Wr} (h:u.filter (fun x=>x.loc == l)=v.filter fun x=>x.loc == l):x_kf (puts st u) (puts st v) l:=by
 have h1:=x_ja l u st st ⟨rfl,rfl⟩ .rfl'
 have h2:=x_ja l v st st ⟨rfl,rfl⟩ .rfl'
 rw [h] at h1
 exact h1.trans' h2.symm'
end Go.Kn
namespace Go.Kn
variable [Ctx]
variable {P:Program} {D:Key×Nat→Prop} {st st':St} {tm:Array Value} {w w1:World} {g:Gh} {ds:List Deferred} {E:Env}
variable {T:Tab} {keep:Nat→Bool} {i:Nat} {o:Oper}
def x_ui (T:Tab) (keep:Nat→Bool) (i:Nat) (o:Oper) (p:St) (tr:List Loc) (ws:List Wr):Prop:= ∃ t0,(opR T (keep i) (i+1) o).Ev p () t0 ws∧ ∀ l∈t0,l∈tr
def x_nk (o:Oper) (p:St) (tr:List Loc) (ws:List Wr):Prop:= ∃ t0,(putD o (.tup [])).Ev p () t0 ws∧ ∀ l∈t0,l∈tr
def opEv (T:Tab) (keep:Nat→Bool) (all:List Oper) (i:Nat) (o:Oper) (p:St) (tr:List Loc) (ws:List Wr):Prop:=match o.guard with
 | none=>x_ui T keep i o p tr ws
 | some (j,want)=> ∃ s,(all[j]?).bind (·.dst)=some s∧Loc.sl s∈tr∧
   ((∃ b,gets p s=x_o6 b∧((b=want∧x_ui T keep i o p tr ws)∨(b≠want∧x_nk o p tr ws)))∨(gets p s= .tup []∧x_nk o p tr ws))
theorem wp_anyQ {a:Act} {w:World} {K:Act→World→Prop} {Q:Exit→Act→World→Prop} (h:o.wp P a w K (fun _ _ _=>False)):o.wp P a w K Q:=by
 unfold Oper.wp at *
 generalize (execOp a.eval o).run P w=r at *
 cases r with
 | ok n w'=>
  cases n<;>simp only [Oper.upon] at h ⊢ <;>
   first
    | exact h
    | exact Calls.mono h (fun e w'' he=>by
      cases e
      ·exact he
      ·exact he.elim
      ·obtain ⟨_,_,he⟩:=he;exact he.elim)
 | halt x w'=>cases x<;>simp only [Oper.upon] at h ⊢ <;>exact h.elim
theorem opd_undef:Opd D st tm w g (.tup []) undef:=⟨⟨#[],rfl,rfl,fun i h=>by simp at h⟩,fun j c h=>by simp [SC.cells] at h,by simp [stS]⟩
theorem x_vy (I:Inv D st tm w g) {s:Nat} {b:Bool} (h:gets st s=x_o6 b):tm[s]?=some (.bool b):=by
 have hs:s<tm.size:=by
  rcases Nat.lt_or_ge s tm.size with h' | h'
  ·exact h'
  ·simp [gets,x_o6,gd_,List.getElem?_eq_none (show st.sl.length≤s by have:=I.len;omega)] at h
 have hsh:=I.shp s hs
 rw [h] at hsh
 obtain ⟨cv,h1,h2⟩:=I.cel ⟨false,s,0⟩ (.val .f .b b) (by simp [aAt,h,x_o6,SC.cells])
 have hcv:cv= .bool b:=x_pa (ok:=g.fr) (show lrep w g g.fr false .b b cv from h2)
 subst hcv
 simp only [cAt,Bool.false_eq_true,if_false] at h1
 rw [x_ze hsh] at h1
 simp only [List.getElem?_cons_zero,sj_] at h1
 simpa [Array.getD,hs] using h1
theorem slot_tup (I:Inv D st tm w g) {s:Nat} (h:gets st s= .tup []) (b:Bool):tm[s]?≠some (.bool b):=by
 intro hb
 have hs:s<tm.size:=(Array.getElem?_eq_some_iff.1 hb).1
 have hsh:=I.shp s hs
 rw [h] at hsh
 obtain ⟨vs,h1,_⟩:=hsh
 have:tm.getD s undef= .bool b:=by
  have:=(Array.getElem?_eq_some_iff.1 hb).2
  simp [Array.getD,hs,this]
 rw [this] at h1
 simp at h1
theorem op_step {ops:Array Oper} {Q:Exit→Act→World→Prop} {K:Act→World→Prop} {tr:List Loc} {ws:List Wr} (TO:TOk P T) (hf:x_o5 D (i+2)) (I:Inv D st tm w g) (ho:ops[i]?=some o)
  (he:opEv T keep ops.toList i o st tr ws) (hK:∀ D' g' tm' w',Goes D D' st tm w g (puts st ws) tm' w' g'→(∀ k t,D' (k,t)→D (k,t)∨t=i+2)→K ⟨tm',ds⟩ w'):wpOp P ops Q i K ⟨tm,ds⟩ w:=by
 have does:x_ui T keep i o st tr ws→o.wp P ⟨tm,ds⟩ w K Q:=fun ⟨t0,h,_⟩=>by
  have hok:=op_ok (ds:=ds) TO hf I ⟨t0,ws,h,rfl⟩
  refine wp_anyQ (Oper.wp_mono (fun a w' hn=>?_) hok)
  obtain ⟨D',g',h1,h2,h3⟩:=hn
  obtain ⟨tm',ds'⟩:=a
  simp only at h1 h2
  subst h1
  exact hK D' g' tm' w' h2 h3
 have skips:x_nk o st tr ws→K ((⟨tm,ds⟩ : Act).put o.dst undef) w:=fun ⟨t0,h,_⟩=>by
  rw [x_ua]
  exact hK D g _ w (x_gh I opd_undef ⟨t0,ws,h,rfl⟩) fun _ _ h=> .inl h
 unfold wpOp
 rw [ho]
 simp only
 unfold opEv at he
 cases hg:o.guard with
 | none=>
  rw [hg] at he
  have:Region.wanted o (yielded ops tm)=true:=by simp [Region.wanted,hg]
  rw [if_pos this]
  exact .inl (does he)
 | some jw=>
  obtain ⟨j,want⟩:=jw
  rw [hg] at he
  obtain ⟨s,hs,_,he⟩:=he
  have hs':(ops[j]?).bind (·.dst)=some s:=by rw [←hs];simp
  have hw:∀ {y},yielded ops tm j=y→Region.wanted o (yielded ops tm)=(y == some want):=fun hy=>by simp [Region.wanted,hg,hy]
  rcases he with ⟨b,hb,h⟩ | ⟨hb,h⟩
  ·have hy:yielded ops tm j=some b:=by
    simp only [yielded,hs',Option.bind_some,x_vy I hb]
   rcases h with ⟨rfl,h⟩ | ⟨hne,h⟩
   ·rw [hw hy,if_pos (by simp)]
    exact .inl (does h)
   ·rw [hw hy,if_neg (by simp [hne])]
    exact skips h
  ·have hy:yielded ops tm j=none:=by
    simp only [yielded,hs',Option.bind_some]
    cases ht:tm[s]? with
    | none=>rfl
    | some v=>cases v<;>first | rfl | exact absurd ht (slot_tup I hb _)
   rw [hw hy,if_neg (by simp)]
   exact skips h
theorem x_ve {s:Nat} {b:Bool} (h:gets st s= .one (.val .f .b b)):setb st s b=st:=by
 have hs:s<st.sl.length:=by
  rcases Nat.lt_or_ge s st.sl.length with h' | h'
  ·exact h'
  ·simp [gets,gd_,List.getElem?_eq_none h'] at h
 obtain ⟨sl,bx⟩:=st
 simp only [setb,x_o6]
 congr 1
 rw [←h]
 simp only [gets,gd_,ge_ hs,Option.getD_some]
 exact List.set_getElem_self hs
theorem x_zg {R:Type} {all:List Oper}:∀ (os:List Oper) (i:Nat) (st:St) (lg:List Ent) (k:St→List Ent→Option R) (r:R),rops T keep all i os st lg k=some r→
  ∃ es:List Ent,es.length=os.length∧k (puts st (es.flatMap (·.ws))) (es.reverse++lg)=some r∧
   ∀ (m:Nat) o,os[m]?=some o→ ∃ e,es[m]?=some e∧e.i=i+m∧opEv T keep all (i+m) o (puts st ((es.take m).flatMap (·.ws))) e.tr e.ws
 | [],i,st,lg,k,r,h=>⟨[],rfl,by simpa [rops,puts] using h,fun m o h=>by simp at h⟩
 | o::os,i,st,lg,k,r,h=>by
  have fin:∀ (tr:List Loc) (ws:List Wr),opEv T keep all i o st tr ws→rops T keep all (i+1) os (puts st ws) (⟨i,tr,ws⟩::lg) k=some r→
    ∃ es:List Ent,es.length=(o::os).length∧k (puts st (es.flatMap (·.ws))) (es.reverse++lg)=some r∧
     ∀ (m:Nat) o',(o::os)[m]?=some o'→ ∃ e,es[m]?=some e∧e.i=i+m∧opEv T keep all (i+m) o' (puts st ((es.take m).flatMap (·.ws))) e.tr e.ws:=by
   intro tr ws hev hr
   obtain ⟨es,h1,h2,h3⟩:=x_zg os (i+1) (puts st ws) _ k r hr
   refine ⟨⟨i,tr,ws⟩::es,by simp [h1],by simpa [x_hk] using h2,fun m o' hm=>?_⟩
   cases m with
   | zero=>
    simp only [List.getElem?_cons_zero,sj_] at hm
    subst hm
    exact ⟨_,rfl,rfl,by simpa [puts] using hev⟩
   | succ m=>
    obtain ⟨e,h4,h5,h6⟩:=h3 m o' (by simpa using hm)
    refine ⟨e,by simpa using h4,by omega,?_⟩
    rw [show i+1+m=i+(m+1) by omega] at h6
    simpa [x_hk] using h6
  have does:∀ (tr:List Loc),((opR T (keep i) (i+1) o).run st tr [] fun _ st tr ws=>rops T keep all (i+1) os st (⟨i,tr,ws⟩::lg) k)=some r→
    ∃ tr' ws,x_ui T keep i o st tr' ws∧(∀ l∈tr,l∈tr')∧rops T keep all (i+1) os (puts st ws) (⟨i,tr',ws⟩::lg) k=some r:=by
   intro tr h
   obtain ⟨⟨⟩,tr',ws,h1,h2⟩:=Pr.run_ev _ _ _ _ _ _ h
   exact ⟨tr'.reverse++tr,ws,⟨tr',h1,fun l hl=>by simp [hl]⟩,fun l hl=>by simp [hl],by simpa using h2⟩
  have skips:∀ (tr:List Loc),((putD o (.tup [])).run st tr [] fun _ st tr ws=>rops T keep all (i+1) os st (⟨i,tr,ws⟩::lg) k)=some r→
    ∃ tr' ws,x_nk o st tr' ws∧(∀ l∈tr,l∈tr')∧rops T keep all (i+1) os (puts st ws) (⟨i,tr',ws⟩::lg) k=some r:=by
   intro tr h
   obtain ⟨⟨⟩,tr',ws,h1,h2⟩:=Pr.run_ev _ _ _ _ _ _ h
   exact ⟨tr'.reverse++tr,ws,⟨tr',h1,fun l hl=>by simp [hl]⟩,fun l hl=>by simp [hl],by simpa using h2⟩
  simp only [rops] at h
  split at h
  ·rename_i hg
   obtain ⟨tr',ws,h1,_,h2⟩:=does _ h
   exact fin tr' ws (by simp only [opEv,hg];exact h1) h2
  ·rename_i j want hg
   split at h
   ·simp at h
   ·rename_i s hs
    split at h
    ·rename_i b hb
     have hsame:∀ b',b=b'→setb st s b'=st:=fun b' e=>by subst e;exact x_ve hb
     have key:∀ (c:Bool),(c=true→b=want∧ ∃ tr' ws,x_ui T keep i o st tr' ws∧(∀ l∈[Loc.sl s],l∈tr')∧rops T keep all (i+1) os (puts st ws) (⟨i,tr',ws⟩::lg) k=some r)→
       (c=false→b≠want∧ ∃ tr' ws,x_nk o st tr' ws∧(∀ l∈[Loc.sl s],l∈tr')∧rops T keep all (i+1) os (puts st ws) (⟨i,tr',ws⟩::lg) k=some r)→ ∃ es:List Ent,es.length=(o::os).length∧k (puts st (es.flatMap (·.ws))) (es.reverse++lg)=some r∧
       ∀ (m:Nat) o',(o::os)[m]?=some o'→ ∃ e,es[m]?=some e∧e.i=i+m∧opEv T keep all (i+m) o' (puts st ((es.take m).flatMap (·.ws))) e.tr e.ws:=by
      intro c h1 h2
      cases c with
      | true=>
       obtain ⟨hw,tr',ws,h3,h4,h5⟩:=h1 rfl
       exact fin tr' ws (by simp only [opEv,hg];exact ⟨s,hs,h4 _ (by simp), .inl ⟨b,hb, .inl ⟨hw,h3⟩⟩⟩) h5
      | false=>
       obtain ⟨hw,tr',ws,h3,h4,h5⟩:=h2 rfl
       exact fin tr' ws (by simp only [opEv,hg];exact ⟨s,hs,h4 _ (by simp), .inl ⟨b,hb, .inr ⟨hw,h3⟩⟩⟩) h5
     cases want with
     | true=>
      simp only [if_true] at h
      cases b with
      | true=>rw [hsame true rfl] at h;exact key true (fun _=>⟨rfl,does _ h⟩) (by simp)
      | false=>rw [hsame false rfl] at h;exact key false (by simp) fun _=>⟨by simp,skips _ h⟩
     | false=>
      simp only [Bool.false_eq_true,if_false] at h
      cases b with
      | true=>rw [hsame true rfl] at h;exact key false (by simp) fun _=>⟨by simp,skips _ h⟩
      | false=>rw [hsame false rfl] at h;exact key true (fun _=>⟨rfl,does _ h⟩) (by simp)
    ·rename_i hb
     obtain ⟨tr',ws,h1,h4,h2⟩:=skips _ h
     exact fin tr' ws (by simp only [opEv,hg];exact ⟨s,hs,h4 _ (by simp), .inr ⟨hb,h1⟩⟩) h2
    ·simp at h
end Go.Kn
namespace Go.Kn
variable [Ctx]
variable {P:Program} {D:Key×Nat→Prop} {st st':St} {tm:Array Value} {w w1:World} {g:Gh} {ds:List Deferred} {E:Env}
variable {T:Tab} {keep:Nat→Bool} {i:Nat} {o:Oper}
structure Txt (T:Tab) (keep:Nat→Bool) (ops:Array Oper) (st0:St) (es:List Ent):Prop where
 len:es.length=ops.size
 ev:∀ (m:Nat) o,ops[m]?=some o→ ∃ e,es[m]?=some e∧e.i=m∧opEv T keep ops.toList m o (puts st0 ((es.take m).flatMap (·.ws))) e.tr e.ws
def Init (D:Key×Nat→Prop):Prop:= ∀ k t,D (k,t)→t≤1
theorem x_wy {R:Type} {ops:Array Oper} {st:St} {k:St→List Ent→Option R} {r:R} (h:rops T keep ops.toList 0 ops.toList st [] k=some r) :
  ∃ es,Txt T keep ops st es∧k (puts st (es.flatMap (·.ws))) es.reverse=some r:=by
 obtain ⟨es,h1,h2,h3⟩:=x_zg _ _ _ _ _ _ h
 refine ⟨es,⟨by simpa using h1,fun m o ho=>?_⟩,by simpa using h2⟩
 obtain ⟨e,h4,h5,h6⟩:=h3 m o (by simpa using ho)
 rw [Nat.zero_add] at h5 h6
 exact ⟨e,h4,h5,h6⟩
theorem txt_plain {ops:Array Oper} {es:List Ent} {Q:Exit→Act→World→Prop} (TO:TOk P T) (X:Txt T keep ops st es) (hD:Init D) (I:Inv D st tm w g)
  (hQ:∀ D' g' tm' w',Goes D D' st tm w g (puts st (es.flatMap (·.ws))) tm' w' g'→Q .normal ⟨tm',ds⟩ w'):wpOps P ops Q (List.range ops.size) ⟨tm,ds⟩ w:=by
 have main:∀ (k m:Nat) (D':Key×Nat→Prop) (tm':Array Value) (w':World) (g':Gh),m+k=ops.size→Goes D D' st tm w g (puts st ((es.take m).flatMap (·.ws))) tm' w' g'→(∀ q t,D' (q,t)→t≤m+1)→
   wpOps P ops Q (List.range' m k) ⟨tm',ds⟩ w':=by
  intro k
  induction k with
  | zero=>
   intro m D' tm' w' g' hm G _
   have:es.take m=es:=List.take_of_length_le (by rw [X.len];omega)
   rw [this] at G
   exact hQ D' g' tm' w' G
  | succ k ih=>
   intro m D' tm' w' g' hm G hst
   rw [List.range'_succ,wpOps_cons]
   have hlt:m<ops.size:=by omega
   have ho:ops[m]?=some ops[m]:=Array.getElem?_eq_getElem hlt
   obtain ⟨e,h1,h2,h3⟩:=X.ev m _ ho
   refine op_step TO (fun q h=>by have:=hst q _ h;omega) G.inv ho h3 fun D2 g2 tm2 w2 G2 hD2=>ih (m+1) D2 tm2 w2 g2 (by omega) ?_ fun q t h=>?_
   ·have:es.take (m+1)=es.take m++[e]:=by rw [List.take_add_one,h1];rfl
    rw [this,List.flatMap_append,x_hk]
    simpa using G.trans G2
   ·rcases hD2 q t h with h | h
    ·have:=hst q t h;omega
    ·omega
 have:=main ops.size 0 D tm w g (by omega) (by simpa [puts] using Goes.refl I) (fun q t h=>by have:=hD q t h;omega)
 rwa [←List.range_eq_range'] at this
def wsOf (es:List Ent) (j:Nat):List Wr:=((es[j]?).map (·.ws)).getD []
def wsIf (es:List Ent) (n:Nat) (S:Nat→Bool):List Wr:=(List.range n).flatMap fun j=>if S j then wsOf es j else []
theorem x_kw {α β : Type} {l:List α} {f h : α→List β} (he:∀ x∈l,f x=h x):l.flatMap f=l.flatMap h:=by
 rw [List.flatMap_def,List.flatMap_def,List.map_congr_left he]
theorem x_rn {es:List Ent} {n:Nat} (hn:es.length=n):∀ m,m≤n→(es.take m).flatMap (·.ws)=wsIf es n (fun j=>decide (j<m)):=by
 intro m
 induction m with
 | zero=>intro _;simp [wsIf]
 | succ m ih=>
  intro hm
  have h1:es.take (m+1)=es.take m++[es[m]]:=by rw [List.take_add_one,ge_ (by omega)];rfl
  rw [h1,List.flatMap_append,ih (by omega)]
  have split:∀ (f:Nat→List Wr) k,k<n→(∀ j,k<j→f j=[])→(List.range n).flatMap f=(List.range k).flatMap f++f k:=by
   intro f k hk hf
   have:List.range n=List.range k++k::(List.range (n-(k+1))).map (fun x=>x+(k+1)):=by
    have h2:n=(k+1)+(n-(k+1)):=by omega
    conv=>lhs;rw [h2,List.range_add,List.range_succ]
    simp [Nat.add_comm]
   rw [this,List.flatMap_append,List.flatMap_cons]
   have h3:((List.range (n-(k+1))).map (fun x=>x+(k+1))).flatMap f=[]:=by
    rw [List.flatMap_eq_nil_iff]
    intro x hx
    simp only [List.mem_map] at hx
    obtain ⟨y,_,rfl⟩:=hx
    exact hf _ (by omega)
   rw [h3,List.append_nil]
  unfold wsIf
  rw [split (fun j=>if decide (j<m+1)=true then wsOf es j else []) m (by omega) (fun j hj=>by rw [if_neg (by simp;omega)])]
  congr 1
  ·have h4:(List.range n).flatMap (fun j=>if decide (j<m)=true then wsOf es j else [])=(List.range m).flatMap (fun j=>if decide (j<m)=true then wsOf es j else []):=by
    rcases Nat.lt_or_ge m n with h | h
    ·rw [split _ m h (fun j hj=>by rw [if_neg (by simp;omega)]),if_neg (by simp),List.append_nil]
    ·have:m=n:=by omega
     rw [this]
   rw [h4]
   apply x_kw
   intro j hj
   have hj:j<m:=List.mem_range.1 hj
   rw [if_pos (by simp;omega),if_pos (by simp;omega)]
  ·simp [wsOf,ge_ (show m<es.length by omega)]
theorem x_l3 {es:List Ent} {n:Nat} {S S':Nat→Bool} {l:Loc} (h:∀ j,j<n→S j≠S' j→(wsOf es j).filter (fun x=>x.loc == l)=[]) :
  (wsIf es n S).filter (fun x=>x.loc == l)=(wsIf es n S').filter fun x=>x.loc == l:=by
 unfold wsIf
 rw [List.filter_flatMap,List.filter_flatMap]
 apply x_kw
 intro j hj
 have hj:=List.mem_range.1 hj
 by_cases hs:S j=S' j
 ·rw [hs]
 ·have h0:=h j hj hs
  cases h1:S j<;>cases h2:S' j<;>simp_all
end Go.Kn
namespace Go.Kn
variable [Ctx]
variable {P:Program} {D:Key×Nat→Prop} {st st':St} {tm:Array Value} {w w1:World} {g:Gh} {ds:List Deferred} {E:Env}
variable {T:Tab} {keep:Nat→Bool} {i:Nat} {o:Oper}
def x_u9 (acc:List (List Nat)) (o:Oper):List (List Nat):=acc++[(o.after.toList.filter (Region.binds .any)).flatMap fun e=>e.on::acc.getD e.on []]
theorem reach_eq (ops:List Oper):reach ops=ops.foldl x_u9 []:=rfl
theorem x_vx:∀ (ops:List Oper) (acc:List (List Nat)),(∀ x,x<acc.length→(ops.foldl x_u9 acc).getD x []=acc.getD x [])∧
  ∀ (m:Nat) o,ops[m]?=some o→ ∀ a∈(ops.foldl x_u9 acc).getD (acc.length+m) [], ∃ e∈o.after.toList,Region.binds .any e=true∧(a=e.on∨(e.on<acc.length+m∧a∈(ops.foldl x_u9 acc).getD e.on []))
 | [],acc=>⟨fun _ _=>rfl,fun m o h=>by simp at h⟩
 | o::ops,acc=>by
  obtain ⟨h1,h2⟩:=x_vx ops (x_u9 acc o)
  have hl:(x_u9 acc o).length=acc.length+1:=by simp [x_u9]
  have h0:∀ x,x<acc.length→(x_u9 acc o).getD x []=acc.getD x []:=fun x hx=>by
   simp only [x_u9,gd_]
   rw [List.getElem?_append_left hx]
  simp only [List.foldl_cons]
  refine ⟨fun x hx=>(h1 x (by omega)).trans (h0 x hx),fun m o' hm a ha=>?_⟩
  cases m with
  | zero=>
   simp only [List.getElem?_cons_zero,sj_] at hm
   subst hm
   rw [Nat.add_zero,h1 _ (by omega)] at ha
   have hv:(x_u9 acc o).getD acc.length []=(o.after.toList.filter (Region.binds .any)).flatMap fun e=>e.on::acc.getD e.on []:=by
    simp [x_u9,gd_]
   rw [hv,List.mem_flatMap] at ha
   obtain ⟨e,he,ha⟩:=ha
   rw [List.mem_filter] at he
   refine ⟨e,he.1,he.2,?_⟩
   rcases List.mem_cons.1 ha with h | h
   ·exact .inl h
   ·have hlt:e.on<acc.length:=by
     rcases Nat.lt_or_ge e.on acc.length with h' | h'
     ·exact h'
     ·simp [gd_,List.getElem?_eq_none h'] at h
    exact .inr ⟨by omega,by rw [h1 _ (by omega),h0 _ hlt];exact h⟩
  | succ m=>
   have:=h2 m o' (by simpa using hm) a (by rw [hl,show acc.length+1+m=acc.length+(m+1) by omega];exact ha)
   rw [hl,show acc.length+1+m=acc.length+(m+1) by omega] at this
   exact this
theorem x_n3 {ops:Array Oper} {S:Nat→Bool} (hS:∀ (b:Nat) o,ops[b]?=some o→S b=true→ ∀ e∈o.after.toList,Region.binds .any e=true→S e.on=true) :
  ∀ (b:Nat) o,ops[b]?=some o→(∀ e∈o.after.toList,Region.binds .any e=true→S e.on=true)→ ∀ a∈(reach ops.toList).getD b [],S a=true:=by
 intro b
 induction b using Nat.strongRecOn with
 | ind b ih=>
  intro o ho hp a ha
  obtain ⟨e,he,hb,h⟩:=(x_vx ops.toList []).2 b o (by simpa using ho) a (by rw [List.length_nil,Nat.zero_add];exact ha)
  rw [List.length_nil,Nat.zero_add] at h
  rcases h with rfl | ⟨hlt,h⟩
  ·exact hp e he hb
  ·have hlt':e.on<ops.size:=by have:=(Array.getElem?_eq_some_iff.1 ho).1;omega
   exact ih e.on hlt _ (Array.getElem?_eq_getElem hlt') (hS _ _ (Array.getElem?_eq_getElem hlt') (hp e he hb)) a h
theorem x_t5 {a b:List Loc} (h:meets a b=false) {l:Loc} (ha:l∈a) (hb:l∈b):False:=by
 simp only [meets,List.any_eq_false] at h
 exact h l ha (by simpa using hb)
theorem x_v3 {rch:List (List Nat)}:∀ (p:List Ent) (y:Ent) (s:List Ent),x_y0 rch (p++y::s)=true→ ∀ x∈s,
  ((rch.getD y.i []).contains x.i || !(meets (x.ws.map Wr.loc) (y.tr++y.ws.map Wr.loc) || meets (y.ws.map Wr.loc) x.tr))=true
 | [],y,s,h,x,hx=>by
  simp only [List.nil_append,x_y0] at h
  exact List.all_eq_true.1 (Bool.and_eq_true_iff.1 h).1 x hx
 | z::p,y,s,h,x,hx=>by
  simp only [List.cons_append,x_y0] at h
  exact x_v3 p y s (Bool.and_eq_true_iff.1 h).2 x hx
theorem x_vb {rch:List (List Nat)} {es:List Ent} (h:x_y0 rch es.reverse=true) {a b:Nat} {x y:Ent} (hab:a<b) (hx:es[a]?=some x) (hy:es[b]?=some y) (hn:x.i∉rch.getD y.i []) :
  (∀ l∈x.ws.map Wr.loc,l∉y.tr∧l∉y.ws.map Wr.loc)∧ ∀ l∈y.ws.map Wr.loc,l∉x.tr:=by
 obtain ⟨hb,rfl⟩:=List.getElem?_eq_some_iff.1 hy
 have he:es=es.take b++es[b]::es.drop (b+1):=by rw [List.getElem_cons_drop,List.take_append_drop]
 have hr:es.reverse=(es.drop (b+1)).reverse++es[b]::(es.take b).reverse:=by
  conv=>lhs;rw [he]
  simp
 rw [hr] at h
 have hm:x∈(es.take b).reverse:=by
  rw [List.mem_reverse]
  refine List.mem_iff_getElem?.2 ⟨a,?_⟩
  rw [List.getElem?_take,if_pos hab]
  exact hx
 have:=x_v3 _ _ _ h x hm
 simp only [Bool.or_eq_true,Bool.not_eq_true',Bool.or_eq_false_iff] at this
 rcases this with h' | ⟨h1,h2⟩
 ·exact absurd (by simpa using h') hn
 ·exact ⟨fun l hl=>⟨fun h3=>x_t5 h1 hl (List.mem_append.2 (.inl h3)),fun h3=>x_t5 h1 hl (List.mem_append.2 (.inr h3))⟩,fun l hl h3=>x_t5 h2 hl h3⟩
theorem x_lt {ws:List Wr} {l:Loc} (h:l∉ws.map Wr.loc):ws.filter (fun x=>x.loc == l)=[]:=by
 rw [List.filter_eq_nil_iff]
 intro x hx hl
 exact h (List.mem_map.2 ⟨x,hx,by simpa using hl⟩)
theorem x_02 {all:List Oper} {a b:St} {tr:List Loc} {ws:List Wr} (h:opEv T keep all i o a tr ws) (hl:x_gv b a) (ht:∀ l∈tr,x_kf b a l) (hw:∀ y∈ws,x_kf b a y.loc):opEv T keep all i o b tr ws:=by
 have does:x_ui T keep i o a tr ws→x_ui T keep i o b tr ws:=fun ⟨t0,h,hs⟩=>⟨t0,x_0g _ a b _ _ _ h hl (fun l hl'=>ht l (hs l hl')) hw,hs⟩
 have skips:x_nk o a tr ws→x_nk o b tr ws:=fun ⟨t0,h,hs⟩=>⟨t0,x_0g _ a b _ _ _ h hl (fun l hl'=>ht l (hs l hl')) hw,hs⟩
 unfold opEv at *
 cases hg:o.guard with
 | none=>rw [hg] at h;exact does h
 | some jw=>
  obtain ⟨j,want⟩:=jw
  rw [hg] at h
  obtain ⟨s,hs,hm,h⟩:=h
  have hsl:gets b s=gets a s:=ht (.sl s) hm
  refine ⟨s,hs,hm,?_⟩
  rw [hsl]
  rcases h with ⟨c,hc,h⟩ | ⟨hc,h⟩
  ·exact .inl ⟨c,hc,h.imp (fun h=>⟨h.1,does h.2⟩) fun h=>⟨h.1,skips h.2⟩⟩
  ·exact .inr ⟨hc,skips h⟩
end Go.Kn
namespace Go.Kn
variable [Ctx]
variable {P:Program} {D:Key×Nat→Prop} {st st':St} {tm:Array Value} {w w1:World} {g:Gh} {ds:List Deferred} {E:Env}
variable {T:Tab} {keep:Nat→Bool} {i:Nat} {o:Oper}
def Closed (ops:Array Oper) (S:Nat→Bool):Prop:= ∀ (b:Nat) o,ops[b]?=some o→S b=true→ ∀ e∈o.after.toList,Region.binds .any e=true→S e.on=true
theorem x_wu {es:List Ent} {j:Nat} {e:Ent} (h:es[j]?=some e):wsOf es j=e.ws:=by simp [wsOf,h]
section
variable {ops:Array Oper} {es:List Ent} {S:Nat→Bool} {e:Ent}
theorem x_u8 (X:Txt T keep ops st es) (hi:x_y0 (reach ops.toList) es.reverse=true) (hS:Closed ops S) (hno:S i=false) (ho:ops[i]?=some o) (hp:∀ e∈o.after.toList,Region.binds .any e=true→S e.on=true)
  (he:es[i]?=some e) {l:Loc} (hl:l∈e.tr∨l∈e.ws.map Wr.loc) (j:Nat) (hj:j<ops.size) (hji:j≠i) (hne:S j≠decide (j<i)):(wsOf es j).filter (fun x=>x.loc == l)=[]:=by
 have hoj:ops[j]?=some ops[j]:=Array.getElem?_eq_getElem hj
 obtain ⟨ej,h1,h2,_⟩:=X.ev j _ hoj
 obtain ⟨ei,h3,h4,_⟩:=X.ev i _ ho
 rw [he] at h3
 obtain rfl:=Option.some.inj h3
 rw [x_wu h1]
 apply x_lt
 intro hm
 rcases Nat.lt_or_ge j i with hlt | hge
 ·have hSj:S j=false:=by
   cases h:S j with
   | false=>rfl
   | true=>rw [h] at hne;simp [hlt] at hne
  have hn:ej.i∉(reach ops.toList).getD e.i []:=by
   rw [h2,h4]
   intro h
   have:=x_n3 hS i o ho hp j h
   rw [hSj] at this
   simp at this
  obtain ⟨k1,k2⟩:=x_vb hi hlt h1 he hn
  obtain ⟨k3,k4⟩:=k1 l hm
  exact hl.elim k3 k4
 ·have hgt:i<j:=by omega
  have hSj:S j=true:=by
   cases h:S j with
   | true=>rfl
   | false=>rw [h] at hne;simp at hne;omega
  have hn:e.i∉(reach ops.toList).getD ej.i []:=by
   rw [h2,h4]
   intro h
   have:=x_n3 hS j _ hoj (hS j _ hoj hSj) i h
   rw [hno] at this
   simp at this
  obtain ⟨k1,k2⟩:=x_vb hi hgt he h1 hn
  rcases hl with hl | hl
  ·exact k2 l hm hl
  ·exact (k1 l hl).2 hm
theorem any_step (X:Txt T keep ops st es) (hi:x_y0 (reach ops.toList) es.reverse=true) (hS:Closed ops S) (hno:S i=false) (ho:ops[i]?=some o) (hp:∀ e∈o.after.toList,Region.binds .any e=true→S e.on=true) :
  ∃ e,es[i]?=some e∧opEv T keep ops.toList i o (puts st (wsIf es ops.size S)) e.tr e.ws∧puts (puts st (wsIf es ops.size S)) e.ws=puts st (wsIf es ops.size fun j=>S j || decide (j=i)):=by
 obtain ⟨e,h1,h2,h3⟩:=X.ev i o ho
 have hlt:=(Array.getElem?_eq_some_iff.1 ho).1
 have htake:=x_rn X.len i (by omega)
 have hread:∀ l,l∈e.tr∨l∈e.ws.map Wr.loc→(wsIf es ops.size S).filter (fun x=>x.loc == l)=(wsIf es ops.size fun j=>decide (j<i)).filter fun x=>x.loc == l:=fun l hl=>
  x_l3 fun j hj hne=>by
   by_cases hji:j=i
   ·subst hji;rw [hno] at hne;simp at hne
   ·exact x_u8 X hi hS hno ho hp h1 hl j hj hji hne
 rw [htake] at h3
 refine ⟨e,h1,x_02 h3 ((x_rl _ _).trans (x_rl _ _).symm) (fun l hl=>x_rk (hread l (.inl hl))) (fun y hy=>x_rk (hread _ (.inr (List.mem_map.2 ⟨y,hy,rfl⟩)))),?_⟩
 rw [←x_hk]
 refine st_ext ((x_rl _ _).trans (x_rl _ _).symm) fun l=>x_rk ?_
 rw [List.filter_append]
 by_cases hl:l∈e.ws.map Wr.loc
 ·rw [hread l (.inr hl), ←List.filter_append]
  have h4:wsIf es ops.size (fun j=>decide (j<i))++e.ws=wsIf es ops.size fun j=>decide (j<i+1):=by
   rw [←x_rn X.len (i+1) (by omega), ←htake,List.take_add_one,h1]
   simp
  rw [h4]
  refine (x_l3 fun j hj hne=>?_).symm
  by_cases hji:j=i
  ·subst hji;simp at hne
  ·refine x_u8 X hi hS hno ho hp h1 (.inr hl) j hj hji fun h=>hne ?_
   simp only [hji,decide_false,Bool.or_false]
   rw [h]
   simp only [decide_eq_decide]
   omega
 ·rw [x_lt hl,List.append_nil]
  refine x_l3 fun j hj hne=>?_
  by_cases hji:j=i
  ·subst hji;rw [x_wu h1];exact x_lt hl
  ·simp [hji] at hne
theorem x_qd {listed:Array Bool} {j:Nat}:j∈Region.ready .any ops listed↔j<ops.size∧listed.getD j true=false∧ ∃ o,ops[j]?=some o∧ ∀ e∈o.after.toList,Region.binds .any e=true→listed.getD e.on false=true:=by
 unfold Region.ready
 rw [List.mem_filter,List.mem_range]
 constructor
 ·rintro ⟨h1,h2⟩
  simp only [Bool.and_eq_true,Bool.not_eq_true'] at h2
  refine ⟨h1,h2.1,ops[j],Array.getElem?_eq_getElem h1,fun e he hb=>?_⟩
  have h3:=h2.2
  rw [Array.getElem?_eq_getElem h1] at h3
  simp only [Option.map_some,Option.getD_some] at h3
  rw [←Array.all_toList,List.all_eq_true] at h3
  have:=h3 e he
  simpa [hb] using this
 ·rintro ⟨h1,h2,o,h3,h4⟩
  refine ⟨h1,?_⟩
  simp only [Bool.and_eq_true,Bool.not_eq_true']
  refine ⟨h2,?_⟩
  rw [h3]
  simp only [Option.map_some,Option.getD_some]
  rw [←Array.all_toList,List.all_eq_true]
  intro e he
  cases hb:Region.binds .any e with
  | false=>rfl
  | true=>simpa using h4 e he hb
end
end Go.Kn
namespace Go.Kn
variable [Ctx]
variable {P:Program} {D:Key×Nat→Prop} {st st':St} {tm:Array Value} {w w1:World} {g:Gh} {ds:List Deferred} {E:Env}
variable {T:Tab} {keep:Nat→Bool} {i:Nat} {o:Oper}
theorem fwd_on {ops:Array Oper} (h:fwd ops.toList=true) {j:Nat} {o:Oper} (ho:ops[j]?=some o):∀ e∈o.after.toList,Region.binds .any e=true→e.on<j:=by
 intro e he hb
 have h1:=List.all_eq_true.1 h (o,j) (by rw [List.mem_zipIdx_iff_getElem?];simpa using ho)
 simp only at h1
 rw [←Array.all_toList,List.all_eq_true] at h1
 have:=h1 e he
 simpa [hb] using this
theorem x_0s {ops:Array Oper} {listed:Array Bool} (hsz:listed.size=ops.size) (hf:fwd ops.toList=true) (hr:Region.ready .any ops listed=[]):∀ j,j<ops.size→listed.getD j false=true:=by
 intro j
 induction j using Nat.strongRecOn with
 | ind j ih=>
  intro hj
  cases hl:listed.getD j false with
  | true=>rfl
  | false=>
   exfalso
   have hm:j∈Region.ready .any ops listed:=by
    rw [x_qd]
    refine ⟨hj,?_,ops[j],Array.getElem?_eq_getElem hj,fun e he hb=>?_⟩
    ·have hjl:j<listed.size:=by omega
     simp [Array.getD,hjl] at hl ⊢
     exact hl
    ·have:=fwd_on hf (Array.getElem?_eq_getElem hj) e he hb
     exact ih e.on this (by omega)
   rw [hr] at hm
   simp at hm
def cnt (n:Nat) (S:Nat→Bool):Nat:=((List.range n).filter fun j=> !S j).length
theorem cnt_lt {n i:Nat} {S:Nat→Bool} (hi:i<n) (hno:S i=false):cnt n (fun j=>S j || decide (j=i))<cnt n S:=by
 unfold cnt
 have:((List.range n).filter fun j=> !(S j || decide (j=i)))=((List.range n).filter fun j=> !S j).filter fun j=> !decide (j=i):=by
  rw [List.filter_filter]
  apply List.filter_congr
  intro j _
  cases S j<;>cases decide (j=i)<;>rfl
 rw [this]
 rw [List.length_filter_lt_length_iff_exists]
 exact ⟨i,by rw [List.mem_filter];exact ⟨List.mem_range.2 hi,by simp [hno]⟩,by simp⟩
theorem txt_any {ops:Array Oper} {es:List Ent} {Q:Exit→Act→World→Prop} (TO:TOk P T) (X:Txt T keep ops st es) (hfw:fwd ops.toList=true) (hi:x_y0 (reach ops.toList) es.reverse=true) (hD:Init D) (I:Inv D st tm w g)
  (hQ:∀ D' g' tm' w',Goes D D' st tm w g (puts st (es.flatMap (·.ws))) tm' w' g'→Q .normal ⟨tm',ds⟩ w'):wpAny P .any ops Q ops.size (Array.replicate ops.size false) ⟨tm,ds⟩ w:=by
 have main:∀ (fuel:Nat) (listed:Array Bool) (D':Key×Nat→Prop) (tm':Array Value) (w':World) (g':Gh),listed.size=ops.size→Closed ops (fun j=>listed.getD j false)→
   cnt ops.size (fun j=>listed.getD j false)≤fuel→Goes D D' st tm w g (puts st (wsIf es ops.size fun j=>listed.getD j false)) tm' w' g'→
   (∀ q t,D' (q,t)→t≤1∨ ∃ j,listed.getD j false=true∧t=j+2)→wpAny P .any ops Q fuel listed ⟨tm',ds⟩ w':=by
  have fin:∀ (listed:Array Bool) (D':Key×Nat→Prop) (tm':Array Value) (w':World) (g':Gh),(∀ j,j<ops.size→listed.getD j false=true)→Goes D D' st tm w g (puts st (wsIf es ops.size fun j=>listed.getD j false)) tm' w' g'→Q .normal ⟨tm',ds⟩ w':=by
   intro listed D' tm' w' g' hall G
   have:wsIf es ops.size (fun j=>listed.getD j false)=es.flatMap (·.ws):=by
    have h1:=x_rn X.len ops.size (Nat.le_refl _)
    rw [List.take_of_length_le (by rw [X.len];exact Nat.le_refl _)] at h1
    rw [h1]
    apply x_kw
    intro j hj
    have hj:=List.mem_range.1 hj
    rw [if_pos (hall j hj),if_pos (by simpa using hj)]
   rw [this] at G
   exact hQ D' g' tm' w' G
  intro fuel
  induction fuel with
  | zero=>
   intro listed D' tm' w' g' hsz hcl hc G hst
   have hall:∀ j,j<ops.size→listed.getD j false=true:=fun j hj=>by
    cases h:listed.getD j false with
    | true=>rfl
    | false=>
     exfalso
     have:cnt ops.size (fun j=>listed.getD j false)=0:=by omega
     unfold cnt at this
     rw [List.length_eq_zero_iff,List.filter_eq_nil_iff] at this
     exact this j (List.mem_range.2 hj) (by simp [h])
   refine ⟨?_,fin listed D' tm' w' g' hall G⟩
   rw [List.eq_nil_iff_forall_not_mem]
   intro j hj
   rw [x_qd] at hj
   have h1:=hall j hj.1
   have hjl:j<listed.size:=by omega
   have h2:=hj.2.1
   simp [Array.getD,hjl] at h1 h2
   rw [h1] at h2
   simp at h2
  | succ fuel ih=>
   intro listed D' tm' w' g' hsz hcl hc G hst
   refine ⟨fun hr=>fin listed D' tm' w' g' (x_0s hsz hfw hr) G,fun i hir=>?_⟩
   rw [x_qd] at hir
   obtain ⟨hlt,hno,o,ho,hp⟩:=hir
   have hil:i<listed.size:=by omega
   have hno':listed.getD i false=false:=by
    simp [Array.getD,hil] at hno ⊢
    exact hno
   obtain ⟨e,h1,h2,h3⟩:=any_step X hi hcl hno' ho hp
   have hset:∀ j,(listed.setIfInBounds i true).getD j false=(listed.getD j false || decide (j=i)):=fun j=>by
    by_cases hji:j=i
    ·subst hji;simp [Array.getD,hil]
    ·rw [getD_set_ne false (Ne.symm hji)];simp [hji]
   have hfun:(fun j=>(listed.setIfInBounds i true).getD j false)=fun j=>listed.getD j false || decide (j=i):=funext hset
   refine op_step TO (fun q h=>?_) G.inv ho h2 fun D2 g2 tm2 w2 G2 hD2=>ih (listed.setIfInBounds i true) D2 tm2 w2 g2 (by simpa using hsz) ?_ ?_ ?_ fun q t h=>?_
   ·rcases hst q _ h with h | ⟨j,hj,h⟩
    ·omega
    ·have:i=j:=by omega
     subst this
     rw [hno'] at hj
     simp at hj
   ·rw [hfun]
    intro b ob hob hb e he hbd
    simp only [Bool.or_eq_true,decide_eq_true_eq] at hb ⊢
    rcases hb with hb | rfl
    ·exact .inl (hcl b ob hob hb e he hbd)
    ·rw [ho] at hob
     obtain rfl:=Option.some.inj hob
     exact .inl (hp e he hbd)
   ·rw [hfun]
    have:=cnt_lt (S:=fun j=>listed.getD j false) hlt hno'
    omega
   ·rw [hfun, ←h3]
    exact G.trans G2
   ·rcases hD2 q t h with h | h
    ·rcases hst q t h with h | ⟨j,hj,h⟩
     ·exact .inl h
     ·exact .inr ⟨j,by rw [hset,hj];rfl,h⟩
    ·exact .inr ⟨i,by rw [hset];simp,h⟩
 refine main ops.size _ D tm w g (by simp) ?_ ?_ ?_ fun q t h=> .inl (hD q t h)
 ·intro b ob hob hb
  simp [Array.getD] at hb
 ·unfold cnt
  exact Nat.le_trans (List.length_filter_le _ _) (by simp)
 ·have:wsIf es ops.size (fun j=>(Array.replicate ops.size false).getD j false)=[]:=by
   unfold wsIf
   rw [List.flatMap_eq_nil_iff]
   intro j hj
   rw [if_neg]
   simp [Array.getD]
  rw [this]
  exact .refl I
end Go.Kn
