import Derived.Great.FillDense
import Derived.Laws.BytesString
import Derived.Test.YtfaccbkibjkfjaaGreatDoorT01
set_option linter.all false
set_option maxRecDepth 100000
set_option maxHeartbeats 1000000
section
namespace Go.Am
section
variable {S:Nat→Prop} {w:World} {ρ:AV→Value→Prop}
theorem bz.eG:∀{xs:List AV} {vs:List Value} {c:Array Value} {o:Nat},aF S w ρ xs vs→(∀j v,vs[j]? =some v→c[o+j]? =some v)→bz S w ρ xs c o
 |[],_,_,_,_,_=>by simp only[bz]
 |x::xs,vs,c,o,h,hc=>by
  simp only[aF]at h;obtain⟨v,r,rfl,h1,h2⟩:=h;simp only[bz];refine⟨⟨v,by simpa using hc 0 v rfl,h1⟩,bz.eG h2 fun j u hj=>?_⟩;rw[show o+1+j=o+(j+1) by omega];exact hc (j+1) u (by simpa using hj)
theorem bz.append:∀{xs ys:List AV} {c:Array Value} {o:Nat},bz S w ρ xs c o→bz S w ρ ys c (o+xs.length)→bz S w ρ (xs++ys) c o
 |[],_,_,_,_,h=>by simpa using h
 |x::xs,ys,c,o,h,h'=>by
  simp only[bz]at h;simp only[List.cons_append,bz];refine⟨h.1,bz.append h.2 ?_⟩;rw[show o+1+xs.length=o+(x::xs).length by simp;omega];exact h'
theorem bz.move:∀{xs:List AV} {c c':Array Value} {o o':Nat},bz S w ρ xs c o→(∀j,j<xs.length→c'[o'+j]? =c[o+j]?)→bz S w ρ xs c' o'
 |[],_,_,_,_,_,_=>by simp only[bz]
 |x::xs,c,c',o,o',h,he=>by
  simp only[bz]at h ⊢;obtain⟨⟨v,hv,h1⟩,h2⟩:=h;refine⟨⟨v,?_,h1⟩,bz.move h2 fun j hj=>?_⟩
  ·have:=he 0 (by simp);simpa[hv]using this
  ·have:=he (j+1) (by simp;omega);rw[show o'+1+j=o'+(j+1) by omega,show o+1+j=o+(j+1) by omega];exact this
theorem b7.move:∀{xs:List PV} {c c':Array Value} {o o':Nat},b7 S w xs c o→(∀j,j<xs.length→c'[o'+j]? =c[o+j]?)→b7 S w xs c' o'
 |[],_,_,_,_,_,_=>by simp only[b7]
 |x::xs,c,c',o,o',h,he=>by
  simp only[b7]at h ⊢;obtain⟨⟨v,hv,h1⟩,h2⟩:=h;refine⟨⟨v,?_,h1⟩,b7.move h2 fun j hj=>?_⟩
  ·have:=he 0 (by simp);simpa[hv]using this
  ·have:=he (j+1) (by simp;omega);rw[show o'+1+j=o'+(j+1) by omega,show o+1+j=o+(j+1) by omega];exact this
theorem b7.eG:∀{xs:List PV} {vs:List Value} {c:Array Value} {o:Nat},a7 S w xs vs→(∀j v,vs[j]? =some v→c[o+j]? =some v)→b7 S w xs c o
 |[],_,_,_,_,_=>by simp only[b7]
 |x::xs,vs,c,o,h,hc=>by
  simp only[a7]at h;obtain⟨v,r,rfl,h1,h2⟩:=h;simp only[b7];refine⟨⟨v,by simpa using hc 0 v rfl,h1⟩,b7.eG h2 fun j u hj=>?_⟩;rw[show o+1+j=o+(j+1) by omega];exact hc (j+1) u (by simpa using hj)
end
section
variable {S:Nat→Prop} {w:World}
theorem b7.append:∀{xs ys:List PV} {c:Array Value} {o:Nat},b7 S w xs c o→b7 S w ys c (o+xs.length)→b7 S w (xs++ys) c o
 |[],_,_,_,_,h=>by simpa using h
 |x::xs,ys,c,o,h,h'=>by
  simp only[b7]at h;simp only[List.cons_append,b7];refine⟨h.1,b7.append h.2 ?_⟩;rw[show o+1+xs.length=o+(x::xs).length by simp;omega];exact h'
theorem bI.mV:∀{rs:List (List PV)} {c:Array Value} {o sz:Nat},aS sz rs→(∀i,i<rs.length→b7 S w (rs.getD i []) c (o+i*sz))→bI S w rs c o
 |[],_,_,_,_,_=>by simp only[bI]
 |r::rs,c,o,sz,hl,h=>by
  simp only[bI];refine⟨by simpa using h 0 (by simp),?_⟩;rw[hl r List.mem_cons_self]
  refine bI.mV (fun x hx=>hl x (List.mem_cons_of_mem _ hx)) fun i hi=>?_
  have:=h (i+1) (by simpa using hi);rw[show o+sz+i*sz=o+(i+1)*sz by rw[Nat.add_mul,Nat.one_mul];omega];simpa using this
theorem bI.rows:∀{rs:List (List PV)} {c:Array Value} {o sz j:Nat},aS sz rs→bI S w rs c o→j<rs.length→b7 S w (rs.getD j []) c (o+j*sz)
 |[],_,_,_,_,_,_,hj=>by simp at hj
 |r::rs,c,o,sz,0,_,hr,_=>by simp only[bI]at hr;simpa using hr.1
 |r::rs,c,o,sz,j+1,hl,hr,hj=>by
  simp only[bI]at hr;have:=bI.rows (j:=j) (fun x hx=>hl x (List.mem_cons_of_mem _ hx)) hr.2 (by simpa using hj);have hs:r.length=sz:=hl r List.mem_cons_self;rw[hs]at this;rw[show o+(j+1)*sz=o+sz+j*sz by rw[Nat.add_mul,Nat.one_mul];omega];simpa using this
theorem uo {i j sz k:Nat} (h:i<j) (hk:k<sz):i*sz+k<j*sz:=by
 have:(i+1)*sz≤j*sz:=Nat.mul_le_mul_right _ h;rw[Nat.add_mul,Nat.one_mul]at this;omega
theorem bI.set {rs:List (List PV)} {c c':Array Value} {sz j off:Nat} {ys:List PV} {vs:List Value} (hl:aS sz rs) (hr:bI S w rs c 0) (hj:j<rs.length) (hle:off+ys.length≤sz)
  (hy:a7 S w ys vs) (hc:∀k,c'[k]? =if j*sz+off≤k∧k<j*sz+off+ys.length then vs[k-(j*sz+off)]? else c[k]?):
  aS sz (rs.set j (np off ys (rs.getD j [])))∧bI S w (rs.set j (np off ys (rs.getD j []))) c' 0:=by
 have bM:(rs.getD j []).length=sz:=by
  rw[List.getD_eq_getElem?_getD,List.getElem?_eq_getElem hj];exact hl _ (List.getElem_mem _)
 have AG:(np off ys (rs.getD j [])).length=sz:=by simp only[np,List.length_append,List.length_take,List.length_drop,bM];omega
 have bP:aS sz (rs.set j (np off ys (rs.getD j []))):=by
  intro r ri
  rcases List.mem_or_eq_of_mem_set ri with h|h
  ·exact hl r h
  ·rw[h];exact AG
 have sP:=a7.length hy;refine⟨bP,bI.mV bP fun i hi=>?_⟩;rw[Nat.zero_add]
 have hY:i<rs.length:=by simpa using hi
 by_cases pI:i=j
 ·subst pI
  have e:(rs.set i (np off ys (rs.getD i []))).getD i []=np off ys (rs.getD i []):=by simp[List.getD_eq_getElem?_getD,hY]
  rw[e];have h0:=bI.rows hl hr hY;rw[Nat.zero_add]at h0
  have ht:(List.take off (rs.getD i [])).length=off:=by simp only[List.length_take,bM];omega
  unfold np;refine b7.append (b7.append ?_ ?_) ?_
  ·refine b7.move (h0.take off) fun k hk=>?_
   rw[ht]at hk;rw[hc,if_neg (by omega)]
  ·refine b7.eG hy fun k v hk=>?_
   have eZ:k<ys.length:=by have:=(List.getElem?_eq_some_iff.1 hk).1;omega
   rw[ht,hc,if_pos (by omega),show i*sz+off+k-(i*sz+off)=k by omega];exact hk
  ·refine b7.move (h0.drop (off+ys.length)) fun k hk=>?_
   have e2:(List.take off (rs.getD i [])++ys).length=off+ys.length:=by simp only[List.length_append,ht]
   rw[e2,hc,if_neg (by omega)]
 ·have e:(rs.set j (np off ys (rs.getD j []))).getD i []=rs.getD i []:=by
   simp[List.getD_eq_getElem?_getD,List.getElem?_set_ne (Ne.symm pI)]
  rw[e];have h0:=bI.rows hl hr hY;rw[Nat.zero_add]at h0
  have hri:(rs.getD i []).length=sz:=by
   rw[List.getD_eq_getElem?_getD,List.getElem?_eq_getElem hY];exact hl _ (List.getElem_mem _)
  refine b7.move h0 fun k hk=>?_
  rw[hri]at hk;rw[hc,if_neg ?_]
  rcases Nat.lt_or_gt_of_ne pI with h1|h1
  ·have:=uo h1 hk;omega
  ·have h3:(j+1)*sz≤i*sz:=Nat.mul_le_mul_right _ h1;rw[Nat.add_mul,Nat.one_mul]at h3;omega
end
section
variable {S:Nat→Prop} {w:World} {ρ:AV→Value→Prop}
theorem bR.mV:∀{rs:List (List AV)} {c:Array Value} {o sz:Nat},(∀r∈rs,r.length=sz)→(∀i,i<rs.length→bz S w ρ (rs.getD i []) c (o+i*sz))→bR S w ρ rs c o
 |[],_,_,_,_,_=>by simp only[bR]
 |r::rs,c,o,sz,hl,h=>by
  simp only[bR];refine⟨by simpa using h 0 (by simp),?_⟩;rw[hl r List.mem_cons_self]
  refine bR.mV (fun x hx=>hl x (List.mem_cons_of_mem _ hx)) fun i hi=>?_
  have:=h (i+1) (by simpa using hi);rw[show o+sz+i*sz=o+(i+1)*sz by rw[Nat.add_mul,Nat.one_mul];omega];simpa using this
theorem bR.set {rs:List (List AV)} {c c':Array Value} {sz j off:Nat} {ys:List AV} {vs:List Value} (hl:∀r∈rs,r.length=sz) (hr:bR S w ρ rs c 0) (hj:j<rs.length) (hle:off+ys.length≤sz)
  (hy:aF S w ρ ys vs) (hc:∀k,c'[k]? =if j*sz+off≤k∧k<j*sz+off+ys.length then vs[k-(j*sz+off)]? else c[k]?):
  (∀r∈rs.set j (place off ys (rs.getD j [])),r.length=sz)∧bR S w ρ (rs.set j (place off ys (rs.getD j []))) c' 0:=by
 have bM:(rs.getD j []).length=sz:=by
  rw[List.getD_eq_getElem?_getD,List.getElem?_eq_getElem hj];exact hl _ (List.getElem_mem _)
 have AG:(place off ys (rs.getD j [])).length=sz:=by simp only[place,List.length_append,List.length_take,List.length_drop,bM];omega
 have bP:∀r∈rs.set j (place off ys (rs.getD j [])),r.length=sz:=by
  intro r ri
  rcases List.mem_or_eq_of_mem_set ri with h|h
  ·exact hl r h
  ·rw[h];exact AG
 have sP:=aF.length hy;refine⟨bP,bR.mV bP fun i hi=>?_⟩;rw[Nat.zero_add]
 have hY:i<rs.length:=by simpa using hi
 by_cases pI:i=j
 ·subst pI
  have e:(rs.set i (place off ys (rs.getD i []))).getD i []=place off ys (rs.getD i []):=by simp[List.getD_eq_getElem?_getD,hY]
  rw[e];have h0:=bR.row hl hr hY;rw[Nat.zero_add]at h0
  have ht:(List.take off (rs.getD i [])).length=off:=by simp only[List.length_take,bM];omega
  unfold place;refine bz.append (bz.append ?_ ?_) ?_
  ·refine bz.move (h0.take off) fun k hk=>?_
   rw[ht]at hk;rw[hc,if_neg (by omega)]
  ·refine bz.eG hy fun k v hk=>?_
   have eZ:k<ys.length:=by have:=(List.getElem?_eq_some_iff.1 hk).1;omega
   rw[ht,hc,if_pos (by omega),show i*sz+off+k-(i*sz+off)=k by omega];exact hk
  ·refine bz.move (h0.drop (off+ys.length)) fun k hk=>?_
   have e2:(List.take off (rs.getD i [])++ys).length=off+ys.length:=by simp only[List.length_append,ht]
   rw[e2,hc,if_neg (by omega)]
 ·have e:(rs.set j (place off ys (rs.getD j []))).getD i []=rs.getD i []:=by
   simp[List.getD_eq_getElem?_getD,List.getElem?_set_ne (Ne.symm pI)]
  rw[e];have h0:=bR.row hl hr hY;rw[Nat.zero_add]at h0
  have hri:(rs.getD i []).length=sz:=by
   rw[List.getD_eq_getElem?_getD,List.getElem?_eq_getElem hY];exact hl _ (List.getElem_mem _)
  refine bz.move h0 fun k hk=>?_
  rw[hri]at hk;rw[hc,if_neg ?_]
  rcases Nat.lt_or_gt_of_ne pI with h1|h1
  ·have:=uo h1 hk;omega
  ·have h3:(j+1)*sz≤i*sz:=Nat.mul_le_mul_right _ h1;rw[Nat.add_mul,Nat.one_mul]at h3;omega
end
section
variable {P:Program} {w0:World} {own0:Nat→Prop} {hvs:List Value} {G:Nat→Option (List PV)} {S0:Nat→Prop} {accs:List Nat}
 {γ:Nat→Option Nat} {S:Nat→Prop} {st:St} {a:Act} {w:World} {o:Oper} {kn:Nat}
 (h:dj w0 own0 hvs G γ S st a w) (bm:∀b,S0 b→S b) (bd:∀b,S b→S0 b∨w0.heap.size≤b∨own0 b)
include h bm bd
theorem zl:∀{cs:List AV} {ps:List PV} {vs:List Value},AV.mR cs=some ps→aF S w (Ref γ S w st.mem) cs vs→a7 S w ps vs:=by
 intro cs ps vs h1 h2
 have hr:aq S w (Ref γ S w st.mem) (.agg cs) (.agg vs.toArray):=by simp only[aq];exact⟨vs,rfl,h2⟩
 have:=fD (γ:=γ) (st:=st) (.agg cs) (p:=.agg ps) (by simp only[AV.flat,h1]) hr;simp only[aJ]at this;obtain⟨us,he,hl⟩:=this
 have:vs=us:=by simpa using he
 rw[this];exact hl
omit h bm bd in
theorem oA {t:TypeId} {x y:Operand} {n:Nat} {b off:Nat} {c:Array Value} {e:TypeId} (ho:o.op=.store t x y) (hn:bZ P t=some n)
  (hx:a.eval x=.pointer (some ⟨b,off,none⟩)) (hb:w.heap[b]? =some (.cells c e (0,0))) {vs:List Value} (hv:(a.eval y).cells.toList=vs) (hlen:vs.length=n) (hle:off+n≤c.size)
  (pw:∀v∈vs,v.oneCell'=true):
  ∃(w':World) (c':Array Value),(execOp a.eval o).run P w=.ok .skip w'∧w'.heap[b]? =some (.cells c' e (0,0))∧c'.size=c.size∧
   (∀j,c'[j]? =if off≤j∧j<off+n then vs[j-off]? else c[j]?)∧
   (∀k,k≠b→w'.heap[k]? =w.heap[k]?)∧w'.heap.size=w.heap.size∧w'.os=w.os∧w'.tape=w.tape∧w'.output=w.output:=by
 obtain⟨w',c',h1,h2,h3,h4,h5⟩:=pU (P:=P) (e:=e) vs 0 off c w hb (by simpa[hlen]using hle) pw;refine⟨w',c',?_,h2,h3,fun j=>by simpa[hlen]using h4 j,h5⟩
 have dZ:(a.eval y).cells.size=n:=by rw[←hlen,←hv];simp
 simp only[execOp,ho,hx,Instr.storeAt,Instr.sureAddr,Sem.run_bind,Sem.run_pure,Result.andThen_ok,storeVar,run_sizeOf hn,dZ,ne_eq,not_true_eq_false,if_false,hv];rw[h1];rfl
omit h bm bd in
theorem pV {ρ:AV→Value→Prop} (hρ:wK ρ):∀{xs:List AV} {vs:List Value},fr xs=true→aF S w ρ xs vs→∀v∈vs,v.oneCell'=true
 |[],_,_,h=>by simp only[aF]at h;subst h;simp
 |x::xs,vs,h1,h=>by
  simp only[aF]at h;obtain⟨v,r,rfl,h2,h3⟩:=h;simp only[fr]at h1;split at h1
  ·rename_i hx;intro u hu;simp only[List.mem_cons]at hu
   rcases hu with rfl|hu
   ·exact aq.one hρ hx h2
   ·exact pV hρ h1 h3 u hu
  ·cases h1
omit h bm bd in
theorem Em {off:Nat} {ys cs r:List AV} {t:TypeId} (ho:fr ys=true) (h:place off ys cs=.iJ t::r):∃r',cs=.iJ t::r':=by
 have hy:∀y q,ys=y::q→y≠.iJ t:=by
  intro y q e hyt;subst e;subst hyt;simp[fr,AV.one]at ho
 unfold place at h
 cases off with
 |zero=>
  cases ys with
  |nil=>exact⟨r,by simpa using h⟩
  |cons y q=>simp at h;exact absurd h.1 (hy y q rfl)
 |succ k=>
  cases cs with
  |nil=>
   cases ys with
   |nil=>simp at h
   |cons y q=>simp at h;exact absurd h.1 (hy y q rfl)
  |cons c q=>simp at h;exact⟨q,by rw[h.1]⟩
theorem X4 {t:TypeId} {x y:Operand} {x' y':bN} {n:Nat} (ho:o.op=.store t x y) (hn:bZ P t=some n) (hx:a8 G x=some x') (hy:a8 G y=some y'):
  cg P w0 own0 hvs G S0 o a w st kn γ S (b6 aG kn (.st x' y' n) st.ev):=by
 simp only[b6,sS];have h1:=h.aj hx;have h2:=h.aj hy;split
 ·rename_i id off b4;rw[b4]at h1;simp only[aq,Ref]at h1;intro ob bH;simp only[bH]at h1
  cases ob with
  |rows sz rs ver=>trivial
  |eL rs ver=>trivial
  |cf=>trivial
  |map=>trivial
  |iK=>trivial
  |fz=>trivial
  |cH=>trivial
  |er=>trivial
  |cells cs=>
   simp only;split
   ·rename_i kj;split
    ·rename_i ff;obtain⟨hlen,hle⟩:=ff;obtain⟨b,hb,he⟩:=h1;obtain⟨b',c,e,gV,hc,dZ,hr,Ma⟩:=h.mem id _ bH;rw[hb]at gV;cases gV;have fL:=aq.cells (kN γ st.mem) kj h2;have T6:=aF.length fL;obtain⟨w',c',bJ,sd,B1,vY,hk,eF,Jv,Jw,jm⟩:=oA (P:=P) ho hn he hc rfl (T6.trans hlen) (by omega) (pV (kN γ st.mem) kj fL);have key:=dj.l5 h bH hb hk eF Jv Jw jm (ob':=.cells (place off (st.ev y').cells cs))
      (fun z v hz hv=>by
       cases z<;>simp only[bD,Option.some.injEq,reduceCtorEq]at hz<;>subst hz<;>simp only[Ref,bH]at hv
       ·simp only[Ref,St.aC,aE (bQ bH),if_true];exact hv)
      (fun hρ hl=>by
       refine⟨b,c',e,hb,sd,?_,?_,fun t r he=>by obtain⟨r',ri⟩:=Em kj he;exact Ma t r' ri⟩
       ·simp[place,B1,dZ,hlen];omega
       ·have bL:(List.take off cs).length=off:=by simp;omega
        refine bz.append (bz.append ?_ ?_) ?_
        ·refine bz.move ((bz.later hl hρ hr).take off) fun j hj=>?_
         rw[vY,if_neg (by omega)]
        ·refine bz.eG (aF.later hl hρ _ fL) fun j v hj=>?_
         have vN:j<n:=by
          have:=(List.getElem?_eq_some_iff.1 hj).1;rw[T6,hlen]at this;exact this
         rw[bL,vY,if_pos (by omega),show 0+off+j-off=j by omega];exact hj
        ·have:=(bz.later hl hρ hr).drop (off+n);rw[hlen]
         refine bz.move this fun j hj=>?_
         rw[vY,if_neg (by simp[hlen];omega)];simp[hlen]
         congr 1;omega)
     exact⟨undef,w',γ,S,.inr ⟨bJ,rfl⟩,bm,bd,key.1,by simp only[aq]⟩
    ·trivial
   ·trivial
 ·rename_i id ver j off b4
  cases kj:fr (st.ev y').cells with
  |false=>trivial
  |true=>
   simp only;rw[b4]at h1;simp only[aq,Ref]at h1;intro ob bH;simp only[bH]at h1
   cases ob with
   |cells cs=>trivial
   |eL rs ver=>trivial
   |map=>trivial
   |iK=>trivial
   |fz=>trivial
   |cH=>trivial
   |er=>trivial
   |cf sz rs bo=>
    simp only
    by_cases hv:ver=bo
    ·subst hv;simp only[beq_self_eq_true];split
     ·rename_i ff;obtain⟨hlen,hle⟩:=ff;obtain⟨b,hb,he,zj,hj⟩:=h1.2 rfl;obtain⟨c,e,hc,dZ,bP,hr⟩:=kY hb (h.mem id _ bH)
      have vN:j.toNat<rs.length:=by omega
      have fL:=aq.cells (kN γ st.mem) kj h2;have T6:=aF.length fL
      have MJ:j.toNat*sz+off+n≤c.size:=by
       have:(j.toNat+1)*sz≤rs.length*sz:=Nat.mul_le_mul_right _ vN;rw[Nat.add_mul,Nat.one_mul]at this;omega
      obtain⟨w',c',bJ,sd,B1,vY,hk,eF,Jv,Jw,jm⟩:=oA (P:=P) ho hn he hc rfl (T6.trans hlen) MJ (pV (kN γ st.mem) kj fL);have key:=dj.l5 h bH hb hk eF Jv Jw jm (ob':=.cf sz (aG.My rs j off (st.ev y').cells) ver)
       (fun z v hz hv=>by
        cases z with
        |dB i2 v2=>
         simp only[bD,Option.some.injEq]at hz;subst hz;simp only[Ref,bH]at hv;simp only[Ref,St.aC,aE (bQ bH),if_true,aG,List.length_set];refine⟨hv.1,fun e2=>?_⟩;obtain⟨a1,cap,q1,q2,q3⟩:=hv.2 e2;refine⟨a1,cap,q1,q2,q3.imp (fun h=>h) ?_⟩;rintro⟨b1,c1,r1,r2,r3,r4⟩;rw[hb]at r1;cases r1;simp only[ag,hc,Option.some.injEq]at r3;subst r3;exact⟨b,c',hb,r2,by simp[ag,sd],B1.trans r4⟩
        |cW i2 v2 j2 o2=>
         simp only[bD,Option.some.injEq]at hz;subst hz;simp only[Ref,bH]at hv;simp only[Ref,St.aC,aE (bQ bH),if_true,aG,List.length_set];exact hv
        |ptr i2 o2=>
         simp only[bD,Option.some.injEq]at hz;subst hz;simp only[Ref,bH]at hv
        |dt i2=>
         simp only[bD,Option.some.injEq]at hz;subst hz;simp only[Ref,bH]at hv
        |eR i2 o2=>
         simp only[bD,Option.some.injEq]at hz;subst hz;simp only[Ref,bH]at hv
        |_=>simp[bD]at hz)
       (fun hρ hl=>by
        obtain⟨g1,g2⟩:=bR.set (off:=off) bP (bR.later hl hρ hr) vN (by omega) (aF.later hl hρ _ fL) (fun k=>by rw[hlen];exact vY k)
        exact .inr ⟨b,c',e,hb,sd,by simp only[aG,List.length_set,B1];exact dZ,by simpa only[aG]using g1,by simpa only[aG]using g2⟩)
      exact⟨undef,w',γ,S,.inr ⟨bJ,rfl⟩,bm,bd,key.1,by simp only[aq]⟩
     ·trivial
    ·simp only[beq_eq_false_iff_ne.2 hv];trivial
   |rows sz rs bo=>
    simp only
    cases zm:AV.mR (st.ev y').cells with
    |none=>trivial
    |some ys=>
    simp only
    by_cases hv:ver=bo
    ·subst hv;simp only[beq_self_eq_true];split
     ·rename_i ff;obtain⟨hlen,hle⟩:=ff;obtain⟨b,hb,he,zj,hj⟩:=h1.2 rfl;obtain⟨c,e,hc,dZ,bP,hr⟩:=rows_block hb (h.mem id _ bH)
      have vN:j.toNat<rs.length:=by omega
      have fL:=aq.cells (kN γ st.mem) kj h2;have T6:=aF.length fL;have hL:=zl h bm bd zm fL
      have Cq:(st.ev y').cells.length=n:=by rw[←T6,a7.length hL,hlen]
      have MJ:j.toNat*sz+off+n≤c.size:=by
       have:(j.toNat+1)*sz≤rs.length*sz:=Nat.mul_le_mul_right _ vN;rw[Nat.add_mul,Nat.one_mul]at this;omega
      obtain⟨w',c',bJ,sd,B1,vY,hk,eF,Jv,Jw,jm⟩:=oA (P:=P) ho hn he hc rfl (T6.trans Cq) MJ (pV (kN γ st.mem) kj fL);have key:=dj.l5 h bH hb hk eF Jv Jw jm (ob':=.rows sz (aG.Mx rs j off ys) ver)
       (fun z v hz hv=>by
        cases z with
        |dB i2 v2=>
         simp only[bD,Option.some.injEq]at hz;subst hz;simp only[Ref,bH]at hv;simp only[Ref,St.aC,aE (bQ bH),if_true,aG,List.length_set];refine⟨hv.1,fun e2=>?_⟩;obtain⟨a1,cap,q1,q2,q3⟩:=hv.2 e2;refine⟨a1,cap,q1,q2,q3.imp (fun h=>h) ?_⟩;rintro⟨b1,c1,r1,r2,r3,r4⟩;rw[hb]at r1;cases r1;simp only[ag,hc,Option.some.injEq]at r3;subst r3;exact⟨b,c',hb,r2,by simp[ag,sd],B1.trans r4⟩
        |cW i2 v2 j2 o2=>
         simp only[bD,Option.some.injEq]at hz;subst hz;simp only[Ref,bH]at hv;simp only[Ref,St.aC,aE (bQ bH),if_true,aG,List.length_set];exact hv
        |ptr i2 o2=>
         simp only[bD,Option.some.injEq]at hz;subst hz;simp only[Ref,bH]at hv
        |dt i2=>
         simp only[bD,Option.some.injEq]at hz;subst hz;simp only[Ref,bH]at hv
        |eR i2 o2=>
         simp only[bD,Option.some.injEq]at hz;subst hz;simp only[Ref,bH]at hv
        |_=>simp[bD]at hz)
       (fun hρ hl=>by
        obtain⟨g1,g2⟩:=bI.set (off:=off) bP (bI.later hl rs hr) vN (by omega) (a7.later hl ys hL) (fun k=>by rw[hlen];exact vY k)
        exact .inr ⟨b,c',e,hb,sd,by simp only[aG,List.length_set,B1];exact dZ,by simpa only[aG]using g1,by simpa only[aG]using g2⟩)
      exact⟨undef,w',γ,S,.inr ⟨bJ,rfl⟩,bm,bd,key.1,by simp only[aq]⟩
     ·trivial
    ·simp only[beq_eq_false_iff_ne.2 hv];trivial
 ·trivial
end
end Go.Am
end
section
namespace Go.Am
section
variable {P:Program} {S:Nat→Prop} {w:World}
theorem u9 {ρ:AV→Value→Prop} {v:Value} {p:PV} (h:l0 v=some p):aq S w ρ p.laid v:=by
 have hr:aJ S w p v:=sc h;unfold PV.laid;split
 ·unfold l0 at h
  split at h<;>first|(simp at h;done)|skip
  ·simp only[aq];exact⟨none,rfl,.inl trivial⟩
  ·split at h<;>simp at h
 ·simpa only[aq]using hr
theorem sW {ρ:AV→Value→Prop}:∀{vs:List Value} {ps:List PV},jT vs=some ps→aF S w ρ (ps.map PV.laid) vs
 |[],ps,h=>by simp only[jT,Option.some.injEq]at h;subst h;simp only[List.map_nil,aF]
 |v::r,ps,h=>by
  simp only[jT]at h
  cases h1:l0 v with
  |none=>simp[h1]at h
  |some p=>
   cases h2:jT r with
   |none=>simp[h1,h2]at h
   |some q=>
    simp only[h1,h2,Option.some.injEq]at h;subst h;simp only[List.map_cons,aF];exact⟨v,r,rfl,u9 h1,sW h2⟩
theorem oB {ρ:AV→Value→Prop} {t:TypeId} {z:List PV} (h:ic P t=some z) {i:TypeInfo} {zv:Value} (hi:P.info? t=some i) (hz:i.zero=some zv):aF S w ρ (z.map PV.laid) zv.cells.toList:=by
 unfold ic at h;simp only[hi,Option.bind_some,hz]at h
 cases hp:vM zv with
 |none=>simp[hp]at h
 |some p=>
  simp only[hp,Option.map_some,Option.some.injEq]at h;subst h;unfold vM at hp;split at hp
  ·rename_i cs;split at hp
   ·rename_i ps rj;simp only[Option.some.injEq]at hp;subst hp;simpa only[PV.cells,Value.cells]using sW rj
   ·simp at hp
  ·have hl:=u9 (S:=S) (w:=w) (ρ:=ρ) hp
   have pw:zv.oneCell'=true∧p.cells=[p]:=by
    unfold l0 at hp
    split at hp<;>first|(cases hp;exact⟨rfl,rfl⟩)|(split at hp<;>first|(cases hp;exact⟨rfl,rfl⟩)|(simp at hp;done))|(simp at hp;done)
   rw[qR pw.1,pw.2];simp only[List.map_cons,List.map_nil,aF];exact⟨zv,[],rfl,hl,rfl⟩
theorem ij {t:TypeId} {z:List PV} (h:ic P t=some z):∃i zv,P.info? t=some i∧i.zero=some zv∧a7 S w z zv.cells.toList∧(zeroValue t).run P w=.ok zv w:=by
 unfold ic at h
 cases hi:P.info? t with
 |none=>simp[hi]at h
 |some i=>
  cases hz:i.zero with
  |none=>simp[hi,hz]at h
  |some zv=>
   simp only[hi,Option.bind_some,hz]at h
   cases hp:vM zv with
   |none=>simp[hp]at h
   |some p=>
    simp only[hp,Option.map_some,Option.some.injEq]at h;subst h;refine⟨i,zv,rfl,hz,?_,?_⟩
    ·have hr:aJ S w p zv:=wJ hp
     cases p with
     |agg ps=>simp only[aJ]at hr;obtain⟨vs,rfl,hr⟩:=hr;simpa only[PV.cells,Value.cells]using hr
     |_=>
      have h1:zv.oneCell'=true:=by
       unfold vM at hp;split at hp
       ·split at hp<;>simp at hp
       ·unfold l0 at hp
        split at hp<;>first|rfl|(simp at hp;done)
      rw[qR h1];simp only[PV.cells,a7];exact⟨zv,[],rfl,hr,rfl⟩
    ·simp only[zeroValue,typeInfo,Sem.run_bind,run_program,Result.andThen_ok,hi,hz,Sem.run_pure]
theorem rA {α β:Type} (f:α→Sem β) (g:α→β):∀(l:List α),(∀x∈l,(f x).run P w=.ok (g x) w)→(l.mapM f).run P w=.ok (l.map g) w
 |[],_=>by simp only[List.mapM_nil,Sem.run_pure,List.map_nil]
 |x::l,h=>by
  simp only[List.mapM_cons,Sem.run_bind,h x List.mem_cons_self,Result.andThen_ok,rA f g l (fun y hy=>h y (List.mem_cons_of_mem _ hy)),Sem.run_pure,List.map_cons]
theorem wM {α β:Type} (f:α→Sem β) (g:α→β) (xs:Array α) (h:∀x∈xs.toList,(f x).run P w=.ok (g x) w):(xs.mapM f).run P w=.ok (xs.map g) w:=by
 rw[Array.mapM_eq_mapM_toList];simp only[Sem.run_map,rA f g xs.toList h,Result.andThen_ok]
 congr 1
 apply Array.ext';simp
theorem Cr {ρ:AV→Value→Prop} {cs:List AV} {c:Array Value} {off:Nat} {xs:List AV} {vs:List Value} (hc:bz S w ρ cs c 0) (dZ:c.size=cs.length) (hx:aF S w ρ xs vs) (hle:off+xs.length≤cs.length):
  bz S w ρ (place off xs cs) ((vs.zipIdx).foldl (fun cs (x:Value×Nat)=>cs.setIfInBounds (off+x.2) x.1) c) 0∧
   ((vs.zipIdx).foldl (fun cs (x:Value×Nat)=>cs.setIfInBounds (off+x.2) x.1) c).size=(place off xs cs).length:=by
 obtain⟨h1,h2⟩:=Great.foldl_set off vs 0 c;have hl:=aF.length hx;constructor
 ·have ht:(List.take off cs).length=off:=by simp only[List.length_take];omega
  refine bz.append (bz.append ?_ ?_) ?_
  ·refine bz.move (hc.take off) fun j hj=>?_
   rw[ht]at hj;rw[h2,if_neg (by omega)]
  ·refine bz.eG hx fun j v hj=>?_
   have vN:j<vs.length:=(List.getElem?_eq_some_iff.1 hj).1;rw[ht,h2,if_pos (by omega),show 0+off+j-(off+0)=j by omega];exact hj
  ·refine bz.move (hc.drop (off+xs.length)) fun j hj=>?_
   have e2:(List.take off cs++xs).length=off+xs.length:=by simp only[List.length_append,ht]
   rw[e2,h2,if_neg (by omega)]
 ·rw[h1,dZ];simp only[place,List.length_append,List.length_take,List.length_drop];omega
end
section
variable {P:Program} {w0:World} {own0:Nat→Prop} {hvs:List Value} {G:Nat→Option (List PV)} {S0:Nat→Prop} {accs:List Nat}
 {γ:Nat→Option Nat} {S:Nat→Prop} {st:St} {a:Act} {w:World} {o:Oper} {kn:Nat}
 (h:dj w0 own0 hvs G γ S st a w) (bm:∀b,S0 b→S b) (bd:∀b,S b→S0 b∨w0.heap.size≤b∨own0 b)
include h bm bd
theorem se (En:Nat→Option (Nat×Nat)):∀(parts:List (Nat×Operand)) (ps:List (Nat×Nat×bN)) (cs:List AV) (c:Array Value) {X5:List AV},
  parts.length=ps.length→(∀(k i:Nat) (x:Operand) (off n:Nat) (y:bN),parts[k]? =some (i,x)→ps[k]? =some (off,n,y)→En i=some (off,n)∧a8 G x=some y)→
  jQ st.ev ps cs=some X5→bz S w (Ref γ S w st.mem) cs c 0→c.size=cs.length→
  ∃c',Instr.fill En c (parts.map fun(i,x)=>(i,a.eval x))=some c'∧bz S w (Ref γ S w st.mem) X5 c' 0∧c'.size=X5.length
 |[],[],cs,c,X5,_,_,hm,hr,dZ=>by
  simp only[jQ,Option.some.injEq]at hm;subst hm;exact⟨c,rfl,hr,dZ⟩
 |(i,x)::parts,(off,n,y)::ps,cs,c,X5,hl,hp,hm,hr,dZ=>by
  obtain⟨zn,hy⟩:=hp 0 i x off n y rfl rfl;simp only[jQ]at hm;split at hm
  ·rename_i pw;split at hm
   ·rename_i hle
    cases kj:fr (st.ev y).cells with
    |false=>rw[kj]at pw;cases pw
    |true=>
    rw[kj]at pw
    have hn:(st.ev y).cells.length=n:=by simpa using pw
    have X6:off+n≤cs.length:=by simpa using hle
    have fL:=aq.cells (kN γ st.mem) kj (h.aj hy);have gE:=aF.length fL
    have hvs:(a.eval x).cells.size=n:=by rw[←hn,←gE];simp
    obtain⟨k1,k2⟩:=Cr hr dZ fL (off:=off) (by rw[hn];exact X6);obtain⟨c',g1,g2,g3⟩:=se En parts ps _ _ (by simpa using hl) (fun k i' x' o' n' y' h1 h2=>hp (k+1) i' x' o' n' y' (by simpa using h1) (by simpa using h2)) hm k1 k2;refine⟨c',?_,g2,g3⟩;simp only[List.map_cons,Instr.fill,zn,hvs];rw[if_neg (by simp;omega)];rw[←g1]
    congr 1
    rw[←Array.foldl_toList,Array.toList_zipIdx]
   ·cases hm
  ·cases hm
 |[],_::_,_,_,_,hl,_,_,_,_=>by simp at hl
 |_::_,[],_,_,_,hl,_,_,_,_=>by simp at hl
theorem HY {t:TypeId} {r0:List PV} (ho:o.op=.alloc t) (hz:ic P t=some (.nj::r0)):
  cg P w0 own0 hvs G S0 o a w st kn γ S (b6 aG kn (.uf t (.nj::r0)) st.ev):=by
 intro hm bL;obtain⟨i,zv,hi,F8,hr,bJ⟩:=ij (S:=S) (w:=w) hz
 have key:=dj.new h hm bL (.cells (.iJ t::r0.map PV.laid)) zv.cells t (fun hρ hl=>by
  refine⟨w.heap.size,zv.cells,t,by simp[dw],heap_alloc_new,by have:=a7.length hr;simp at this;simp;omega,?_,fun t' r' he=>by injection he with h1 h2;injection h1⟩;refine bz.eG (vs:=zv.cells.toList) ?_ (fun j v hj=>by simpa using hj);have hl:=oB (S:=S) (w:=w.alloc (.cells zv.cells t)) (ρ:=Ref (dw γ kn (some w.heap.size)) S (w.alloc (.cells zv.cells t)) (st.aC kn (.cells (.iJ t::r0.map PV.laid))).mem) hz hi F8
  simp only[List.map_cons,aF]at hl ⊢;obtain⟨v,r,he,h1,h2⟩:=hl
  exact⟨v,r,he,by simpa only[PV.laid,aq,aJ]using h1,h2⟩)
 refine⟨.pointer (some ⟨w.heap.size,0,none⟩),w.alloc (.cells zv.cells t),_,S,.inl ?_,bm,bd,key.1,?_⟩
 ·simp only[execOp,ho,Instr.alloc,Sem.run_bind,bJ,Result.andThen_ok,newVar,newRow,run_newObj,Sem.run_pure,World.alloc_eq]
 ·simp only[aq,Ref,St.aC,aE bL,if_true];exact⟨w.heap.size,by simp[dw],rfl⟩
theorem Jx {t:TypeId} {z:List PV} (ho:o.op=.alloc t) (hz:ic P t=some z):
  cg P w0 own0 hvs G S0 o a w st kn γ S (b6 aG kn (.alloc z) st.ev):=by
 intro hm bL;obtain⟨i,zv,hi,F8,hr,bJ⟩:=ij (S:=S) (w:=w) hz
 have key:=dj.new h hm bL (.cells (z.map PV.laid)) zv.cells t (fun hρ hl=>by
  refine⟨w.heap.size,zv.cells,t,by simp[dw],heap_alloc_new,by simp[←a7.length hr],?_,fun t' r' he=>by
   cases z with
   |nil=>simp at he
   |cons p q=>simp only[List.map_cons]at he;injection he with h1;unfold PV.laid at h1;split at h1<;>cases h1⟩
  exact bz.eG (oB hz hi F8) (fun j v hj=>by simpa using hj))
 refine⟨.pointer (some ⟨w.heap.size,0,none⟩),w.alloc (.cells zv.cells t),_,S,.inl ?_,bm,bd,key.1,?_⟩
 ·simp only[execOp,ho,Instr.alloc,Sem.run_bind,bJ,Result.andThen_ok,newVar,newRow,run_newObj,Sem.run_pure,World.alloc_eq]
 ·simp only[aq,Ref,St.aC,aE bL,if_true];exact⟨w.heap.size,by simp[dw],rfl⟩
theorem T7 {t:TypeId} {n:Nat} {x:Operand} {x':bN} (ho:o.op=.box t x) (hx:a8 G x=some x'):
  cg P w0 own0 hvs G S0 o a w st kn γ S (b6 aG kn (.box x' n) st.ev):=by
 simp only[b6];split
 ·rename_i kj;split
  ·intro hm bL;have fL:=aq.cells (kN γ st.mem) kj (h.aj hx)
   have key:=dj.new h hm bL (.cells (st.ev x').cells) (a.eval x).cells t (fun hρ hl=>by
    refine⟨w.heap.size,(a.eval x).cells,t,by simp[dw],heap_alloc_new,by simp[←aF.length fL],?_,fun t' r' he=>by rw[he]at kj;simp[fr,AV.one]at kj⟩
    exact bz.eG (aF.later hl hρ _ fL) (fun j v hj=>by simpa using hj))
   refine⟨.pointer (some ⟨w.heap.size,0,none⟩),w.alloc (.cells (a.eval x).cells t),_,S,.inl ?_,bm,bd,key.1,?_⟩
   ·simp only[execOp,ho,Instr.box,Sem.run_bind,Result.andThen_ok,newVar,newRow,run_newObj,Sem.run_pure,World.alloc_eq]
   ·simp only[aq,Ref,St.aC,aE bL,if_true];exact⟨w.heap.size,by simp[dw],rfl⟩
  ·trivial
 ·trivial
end
end Go.Am
end
section
namespace Go.Am
section
variable {P:Program} {w0:World} {own0:Nat→Prop} {hvs:List Value} {G:Nat→Option (List PV)} {S0:Nat→Prop} {accs:List Nat}
 {γ:Nat→Option Nat} {S:Nat→Prop} {st:St} {a:Act} {w:World} {o:Oper} {kn:Nat}
theorem va {t:TypeId} {fs:Array Field} (ht:P.underlying t=some (.struct fs)):∀{parts:List (Nat×Operand)} {ps:List (Nat×Nat×bN)},r8 P G t parts=some ps→
  parts.length=ps.length∧∀(k i:Nat) (x:Operand) (off n:Nat) (y:bN),parts[k]? =some (i,x)→ps[k]? =some (off,n,y)→
   (∃f,fs[i]? =some f∧f.offset=off∧bZ P f.type=some n)∧a8 G x=some y
 |[],ps,h=>by simp only[r8,Option.some.injEq]at h;subst h;simp
 |(i,x)::r,ps,h=>by
  simp only[r8]at h
  cases hf:r7 P t i with
  |none=>simp[hf]at h
  |some f=>
   cases hn:bZ P f.type with
   |none=>simp[hf,hn]at h
   |some n=>
    cases hx:a8 G x with
    |none=>simp[hf,hn,hx]at h
    |some y=>
     cases hr:r8 P G t r with
     |none=>simp[hf,hn,hx,hr]at h
     |some qs=>
      simp only[hf,hn,hx,hr,Option.bind_some,Option.map_some,Option.some.injEq]at h;subst h;obtain⟨h1,h2⟩:=va ht hr;refine⟨by simp[h1],fun k i' x' off n' y' hk eZ=>?_⟩
      cases k with
      |zero=>
       simp only[List.getElem?_cons_zero,Option.some.injEq,Prod.mk.injEq]at hk eZ;obtain⟨rfl,rfl⟩:=hk;obtain⟨rfl,rfl,rfl⟩:=eZ;refine⟨⟨f,?_,rfl,hn⟩,hx⟩;unfold r7 at hf;rw[ht]at hf;exact hf
      |succ k=>exact h2 k i' x' off n' y' (by simpa using hk) (by simpa using eZ)
theorem vb {n:Nat}:∀{parts:List (Nat×Operand)} {ps:List (Nat×Nat×bN)},r9 G n parts=some ps→
  parts.length=ps.length∧∀(k i:Nat) (x:Operand) (off m:Nat) (y:bN),parts[k]? =some (i,x)→ps[k]? =some (off,m,y)→(i*n=off∧m=n)∧a8 G x=some y
 |[],ps,h=>by simp only[r9,Option.some.injEq]at h;subst h;simp
 |(i,x)::r,ps,h=>by
  simp only[r9]at h
  cases hx:a8 G x with
  |none=>simp[hx]at h
  |some y=>
   cases hr:r9 G n r with
   |none=>simp[hx,hr]at h
   |some qs=>
    simp only[hx,hr,Option.bind_some,Option.map_some,Option.some.injEq]at h;subst h;obtain⟨h1,h2⟩:=vb hr;refine⟨by simp[h1],fun k i' x' off n' y' hk eZ=>?_⟩
    cases k with
    |zero=>
     simp only[List.getElem?_cons_zero,Option.some.injEq,Prod.mk.injEq]at hk eZ;obtain⟨rfl,rfl⟩:=hk;obtain⟨rfl,rfl,rfl⟩:=eZ;exact⟨⟨rfl,rfl⟩,hx⟩
    |succ k=>exact h2 k i' x' off n' y' (by simpa using hk) (by simpa using eZ)
variable (h:dj w0 own0 hvs G γ S st a w) (bm:∀b,S0 b→S b) (bd:∀b,S b→S0 b∨w0.heap.size≤b∨own0 b)
include h bm bd
theorem T8 {t:TypeId} {z:List PV} {fs:Array Field} {parts:Array (Nat×Operand)} {ps:List (Nat×Nat×bN)} (ho:o.op=.build t parts) (hz:ic P t=some z)
  (ht:P.underlying t=some (.struct fs)) (bP:(fs.toList.all fun f=>(P.info? f.type).isSome)=true) (rj:r8 P G t parts.toList=some ps):
  cg P w0 own0 hvs G S0 o a w st kn γ S (b6 aG kn (.mk z ps) st.ev):=by
 simp only[b6]
 cases hm:jQ st.ev ps (z.map PV.laid)with
 |none=>trivial
 |some cs=>
  obtain⟨i,zv,hi,F8,hr,bJ⟩:=ij (S:=S) (w:=w) hz;obtain⟨h1,h2⟩:=va (G:=G) ht rj
  have zn:∀f∈fs.toList,(do pure (f.offset,←sizeOf f.type):Sem (Nat×Nat)).run P w=.ok (f.offset,(bZ P f.type).getD 0) w:=by
   intro f hf;have:=List.all_eq_true.1 bP f hf;obtain⟨inf,hinf⟩:=Option.isSome_iff_exists.1 this
   have dZ:bZ P f.type=some inf.size:=by simp[bZ,hinf]
   simp only[Sem.run_bind,run_sizeOf dZ,Result.andThen_ok,Sem.run_pure,dZ,Option.getD_some]
  have ML:=wM (P:=P) (w:=w) (fun f:Field=>(do pure (f.offset,←sizeOf f.type):Sem (Nat×Nat))) (fun f=>(f.offset,(bZ P f.type).getD 0)) fs zn;obtain⟨c',g1,g2,g3⟩:=se h bm bd (fun i=>(fs.map fun f=>(f.offset,(bZ P f.type).getD 0))[i]?) parts.toList ps (z.map PV.laid) zv.cells h1
   (fun k i x off n y hk eZ=>by
    obtain⟨⟨f,hf,Eo,hn⟩,hx⟩:=h2 k i x off n y hk eZ;refine⟨?_,hx⟩
    simp[hf,Eo,hn]) hm (bz.eG (oB hz hi F8) (fun j v hj=>by simpa using hj)) (by simp[←a7.length hr])
  obtain⟨vs,q1,q2,q3⟩:=bz.list g2
  have hvs:vs=c'.toList:=by
   apply List.ext_getElem?
   intro j
   by_cases hj:j<vs.length
   ·have:=q3 j _ (List.getElem?_eq_getElem hj);rw[Nat.zero_add]at this;rw[List.getElem?_eq_getElem hj,Array.getElem?_toList,this]
   ·rw[List.getElem?_eq_none (by omega),List.getElem?_eq_none (by simp[g3];omega)]
  refine aK h bm bd (u:=.agg c') ?_ (by simp only[aq];exact⟨c'.toList,by simp,hvs▸q1⟩);simp only[execOp,ho,Instr.build,Sem.run_bind,bJ,Result.andThen_ok,run_underlying ht,ML,Array.toList_map];rw[g1];rfl
theorem T9 {t e:TypeId} {z:List PV} {m n:Nat} {parts:Array (Nat×Operand)} {ps:List (Nat×Nat×bN)} (ho:o.op=.build t parts) (hz:ic P t=some z)
  (ht:P.underlying t=some (.array m e)) (hn:bZ P e=some n) (rj:r9 G n parts.toList=some ps):
  cg P w0 own0 hvs G S0 o a w st kn γ S (b6 aG kn (.mk z ps) st.ev):=by
 simp only[b6]
 cases hm:jQ st.ev ps (z.map PV.laid)with
 |none=>trivial
 |some cs=>
  obtain⟨i,zv,hi,F8,hr,bJ⟩:=ij (S:=S) (w:=w) hz;obtain⟨h1,h2⟩:=vb (G:=G) rj;obtain⟨c',g1,g2,g3⟩:=se h bm bd (fun i=>some (i*n,n)) parts.toList ps (z.map PV.laid) zv.cells h1
   (fun k i x off n' y hk eZ=>by
    obtain⟨⟨Eo,hn⟩,hx⟩:=h2 k i x off n' y hk eZ;subst Eo;subst hn
    exact⟨rfl,hx⟩) hm (bz.eG (oB hz hi F8) (fun j v hj=>by simpa using hj)) (by simp[←a7.length hr])
  obtain⟨vs,q1,q2,q3⟩:=bz.list g2
  have hvs:vs=c'.toList:=by
   apply List.ext_getElem?
   intro j
   by_cases hj:j<vs.length
   ·have:=q3 j _ (List.getElem?_eq_getElem hj);rw[Nat.zero_add]at this;rw[List.getElem?_eq_getElem hj,Array.getElem?_toList,this]
   ·rw[List.getElem?_eq_none (by omega),List.getElem?_eq_none (by simp[g3];omega)]
  refine aK h bm bd (u:=.agg c') ?_ (by simp only[aq];exact⟨c'.toList,by simp,hvs▸q1⟩);simp only[execOp,ho,Instr.build,Sem.run_bind,bJ,Result.andThen_ok,run_underlying ht,run_sizeOf hn,Array.toList_map];rw[g1];rfl
theorem Ua {t:TypeId} {e:TypeId} {x:Operand} {x':bN} {c:Call} (ho:o.op=.call c) (hc:c.callee=.builtin .len) (ha:c.args=#[x]) (nV:c.argTypes=#[t])
  (ht:P.underlying t=some (.slice e)) (hx:a8 G x=some x'):
  cg P w0 own0 hvs G S0 o a w st kn γ S (b6 aG kn (.len x') st.ev):=by
 have h1:=h.aj hx
 have bJ:∀b n k,a.eval x=.slice b n k→(execOp a.eval o).run P w=.ok (.value (.int .i64 n)) w:=by
  intro b n k he;simp only[execOp,ho,resolve,hc,ha,nV,Sem.run_bind,Sem.run_pure,Result.andThen_ok,invoke,builtin];simp[he,Builtin.len_,run_underlying ht,goInt]
 simp only[b6,Ay];split
 ·rename_i rows spare b4;rw[b4]at h1;simp only[aq,aJ]at h1;obtain⟨b,k,he,_⟩:=h1;exact aK h bm bd (bJ b _ k he) (by simp only[aq,aJ,aG])
 ·rename_i rows b4;rw[b4]at h1;simp only[aq]at h1;obtain⟨b,he,_⟩:=h1;exact aK h bm bd (bJ b _ _ he) (by simp only[aq,aJ,aG])
 ·rename_i id ver b4;rw[b4]at h1;simp only[aq,Ref]at h1;intro ob bH;simp only[bH]at h1
  cases ob with
  |cells cs=>trivial
  |map=>trivial
  |iK=>trivial
  |fz=>trivial
  |cH t rs bo=>
   by_cases hv:ver=bo
   ·subst hv;simp only[beq_self_eq_true];obtain⟨b,k,he,_⟩:=h1.2 rfl;exact aK h bm bd (bJ b _ k he) (by simp only[aq,aJ,aG])
   ·simp only[beq_eq_false_iff_ne.2 hv];trivial
  |er=>trivial
  |rows sz rs bo=>
   by_cases hv:ver=bo
   ·subst hv;simp only[beq_self_eq_true];obtain⟨b,k,he,_⟩:=h1.2 rfl;exact aK h bm bd (bJ b _ k he) (by simp only[aq,aJ,aG])
   ·simp only[beq_eq_false_iff_ne.2 hv];trivial
  |cf sz rs bo=>
   by_cases hv:ver=bo
   ·subst hv;simp only[beq_self_eq_true];obtain⟨b,k,he,_⟩:=h1.2 rfl;exact aK h bm bd (bJ b _ k he) (by simp only[aq,aJ,aG])
   ·simp only[beq_eq_false_iff_ne.2 hv];trivial
  |eL rs bo=>
   by_cases hv:ver=bo
   ·subst hv;simp only[beq_self_eq_true];have h2:=h1.2 rfl;simp only[aJ]at h2;obtain⟨b,k,he,_⟩:=h2;exact aK h bm bd (bJ b _ k he) (by simp only[aq,aJ,aG])
   ·simp only[beq_eq_false_iff_ne.2 hv];trivial
 ·rename_i rows b4;rw[b4]at h1;simp only[aq]at h1;obtain⟨b,he,_⟩:=h1;exact aK h bm bd (bJ b _ _ he) (by simp only[aq,aJ,aG])
 ·trivial
theorem MM {t:TypeId} {x:Operand} {x':bN} {c:Call} (ho:o.op=.call c) (hc:c.callee=.builtin .len) (ha:c.args=#[x]) (nV:c.argTypes=#[t])
  (ht:P.underlying t=some .string) (hx:a8 G x=some x'):
  cg P w0 own0 hvs G S0 o a w st kn γ S (b6 aG kn (.lens x') st.ev):=by
 have h1:=h.aj hx;simp only[b6];split
 ·rename_i s b4;rw[b4]at h1;simp only[aq,aJ]at h1;refine aK h bm bd (u:=.int .i64 s.length) ?_ (by simp only[aq,aJ,aG]);simp only[execOp,ho,resolve,hc,ha,nV,Sem.run_bind,Sem.run_pure,Result.andThen_ok,invoke,builtin]
  have hl:(Builtin.len_ #[t] o.type #[.string ⟨s.toArray⟩]).run P w=.ok (.int .i64 s.length) w:=by
   have e:∀v:Value,(Builtin.len_ #[t] o.type #[v]).run P w=((underlying t).run P w).andThen fun d w'=>(match d,v with
    |.string,.string s=>pure (goInt s.size)
    |_,_=>Builtin.len_ #[t] o.type #[v]).run P w':=by
    intro v;simp only[run_underlying ht,Result.andThen_ok]
    cases v<;>first|rfl|simp[Builtin.len_,run_underlying ht]
   rw[e,run_underlying ht];simp only[Result.andThen_ok,Sem.run_pure,goInt];rfl
  simp only[List.map_toArray,List.map_cons,List.map_nil,h1,hl,Result.andThen_ok]
 ·trivial
theorem Ub {t e:TypeId} {x i:Operand} {x' i':bN} {sz:Nat} (ho:o.op=.indexAddr t x i) (ht:P.underlying t=some (.slice e)) (dZ:bZ P e=some sz) (hx:a8 G x=some x') (hi:a8 G i=some i'):
  cg P w0 own0 hvs G S0 o a w st kn γ S (b6 aG kn (.idx x' i' sz) st.ev):=by
 have h1:=h.aj hx;have h2:=h.aj hi
 have bJ:∀b off n k kk (j:Int),a.eval x=.slice (some ⟨b,off,none⟩) n k→a.eval i=.int kk j→0≤j→j<n→
   (execOp a.eval o).run P w=.ok (.value (.pointer (some ⟨b,off+j.toNat*sz,none⟩))) w:=by
  intro b off n k kk j he hj h0 h1;simp only[execOp,ho,he,hj,Instr.indexAt,asIntOf,Sem.run_bind,Sem.run_pure,Result.andThen_ok,run_underlying ht,h0,h1,and_self,if_true,run_sizeOf dZ,ig]
 simp only[b6];split
 ·rename_i k j lz;rw[lz]at h2;simp only[aq,aJ]at h2;simp only[Ax];split
  ·rename_i rows spare b4;rw[b4]at h1;simp only[aq,aJ]at h1;rintro⟨zj,AF,px⟩;obtain⟨a0,cap,he,dQ,hd⟩:=h1
   rcases hd with⟨hd,_⟩|⟨b,off,c,mM,ha,hs,hc,bP,_,hr,_⟩
   ·subst hd;simp at AF;omega
   ·subst ha
    have HZ:j.toNat<rows.length:=by omega
    have bM:=bI.rows bP hr HZ
    have lK:mM=sz:=by
     rw[←px,List.getD_eq_getElem?_getD,List.getElem?_eq_getElem HZ];exact(bP _ (List.getElem_mem _)).symm
    subst lK;refine aK h bm bd (bJ b off _ _ _ j he h2 zj AF) ?_;simp only[aq,aG];exact⟨b,off+j.toNat*mM,c,rfl,hs,hc,bM⟩
  ·rename_i rows b4;rw[b4]at h1;simp only[aq]at h1;rintro⟨zj,AF,px⟩;obtain⟨a0,he,hd⟩:=h1
   rcases hd with hd|⟨b,off,c,mM,ha,hs,hc,bP,hr⟩
   ·subst hd;simp at AF;omega
   ·subst ha
    have HZ:j.toNat<rows.length:=by omega
    have bM:=bI.rows bP hr HZ
    have lK:mM=sz:=by
     rw[←px,List.getD_eq_getElem?_getD,List.getElem?_eq_getElem HZ];exact(bP _ (List.getElem_mem _)).symm
    subst lK;refine aK h bm bd (bJ b off _ _ _ j he h2 zj AF) ?_;simp only[aq,aG];exact⟨b,off+j.toNat*mM,c,rfl,hs,hc,bM⟩
  ·rename_i id ver b4;rw[b4]at h1;simp only[aq,Ref]at h1;intro ob bH;simp only[bH]at h1
   cases ob with
   |cells cs=>trivial
   |map=>trivial
   |iK=>trivial
   |fz=>trivial
   |cH=>trivial
   |er=>trivial
   |cf mM rs bo=>
    by_cases hv:ver=bo
    ·subst hv;simp only[beq_self_eq_true];rintro⟨zj,AF,px⟩
     have HZ:j.toNat<rs.length:=by omega
     obtain⟨a0,cap,he,dQ,hd⟩:=h1.2 rfl
     rcases hd with hd|⟨b,c,hb,ha,hc,kh⟩
     ·omega
     ·subst ha;obtain⟨c1,e1,yD,hsz1,bP,hr⟩:=kY hb (h.mem id _ bH)
      have lK:mM=sz:=by
       rw[←px,List.getD_eq_getElem?_getD,List.getElem?_eq_getElem HZ];exact(bP _ (List.getElem_mem _)).symm
      subst lK;refine aK h bm bd (bJ b 0 _ _ _ j he h2 zj AF) ?_;simp only[aq,Ref,bH];exact⟨⟨Nat.le_refl _,rfl⟩,fun _=>⟨b,hb,by simp,zj,AF⟩⟩
    ·simp only[beq_eq_false_iff_ne.2 hv];trivial
   |rows mM rs bo=>
    by_cases hv:ver=bo
    ·subst hv;simp only[beq_self_eq_true];rintro⟨zj,AF,px⟩
     have HZ:j.toNat<rs.length:=by omega
     obtain⟨a0,cap,he,dQ,hd⟩:=h1.2 rfl
     rcases hd with hd|⟨b,c,hb,ha,hc,kh⟩
     ·omega
     ·subst ha;obtain⟨c1,e1,yD,hsz1,bP,hr⟩:=rows_block hb (h.mem id _ bH)
      have lK:mM=sz:=by
       rw[←px,List.getD_eq_getElem?_getD,List.getElem?_eq_getElem HZ];exact(bP _ (List.getElem_mem _)).symm
      subst lK;refine aK h bm bd (bJ b 0 _ _ _ j he h2 zj AF) ?_;simp only[aq,Ref,bH];exact⟨⟨Nat.le_refl _,rfl⟩,fun _=>⟨b,hb,by simp,zj,AF⟩⟩
    ·simp only[beq_eq_false_iff_ne.2 hv];trivial
   |eL rs bo=>
    by_cases hv:ver=bo
    ·subst hv;simp only[beq_self_eq_true];rintro⟨zj,AF,px⟩
     have HZ:j.toNat<rs.length:=by omega
     have h3:=h1.2 rfl;simp only[aJ]at h3;obtain⟨a0,cap,he,dQ,hd⟩:=h3
     rcases hd with⟨hd,_⟩|⟨b,off,c,mM,ha,hs,hc,bP,_,hr,_⟩
     ·subst hd;simp at AF;omega
     ·subst ha;have bM:=bI.rows bP hr HZ
      have lK:mM=sz:=by
       rw[←px,List.getD_eq_getElem?_getD,List.getElem?_eq_getElem HZ];exact(bP _ (List.getElem_mem _)).symm
      subst lK;refine aK h bm bd (bJ b off _ _ _ j he h2 zj AF) ?_;simp only[aq,Ref,bH];exact⟨⟨Nat.le_refl _,rfl⟩,fun _=>⟨b,off+j.toNat*mM,c,rfl,hs,hc,bM,zj,AF⟩⟩
    ·simp only[beq_eq_false_iff_ne.2 hv];trivial
  ·trivial
 ·trivial
theorem Uc {x:Operand} {x':bN} (ho:o.op=.nilCheck x) (hx:a8 G x=some x'):
  cg P w0 own0 hvs G S0 o a w st kn γ S (b6 aG kn (.Xi x') st.ev):=by
 have h1:=h.aj hx
 have hp:∀b,a.eval x=.pointer (some b)→(execOp a.eval o).run P w=.ok (.value (a.eval x)) w:=by
  intro b he;simp only[execOp,ho,he,Sem.run_pure]
 have hf:∀f v0 v,a.eval x=.func (.func f) v0 v→(execOp a.eval o).run P w=.ok (.value (a.eval x)) w:=by
  intro f v0 v he;simp only[execOp,ho,he,Sem.run_pure]
 simp only[b6];split
 ·rename_i id off b4;have B3:=h1;rw[b4]at h1;simp only[aq,Ref]at h1;split at h1
  ·obtain⟨b,hb,he⟩:=h1;exact aK h bm bd (hp _ he) (b4▸B3)
  ·obtain⟨b,hb,he⟩:=h1;exact aK h bm bd (hp _ he) (b4▸B3)
  ·obtain⟨b,hb,he⟩:=h1;exact aK h bm bd (hp _ he) (b4▸B3)
  ·exact h1.elim
 ·rename_i r off b4;have B3:=h1;rw[b4]at h1;simp only[aq]at h1;obtain⟨b,o',c,he,_⟩:=h1;exact aK h bm bd (hp _ he) (b4▸B3)
 ·rename_i f c b4;have B3:=h1;rw[b4]at h1;simp only[aq]at h1;obtain⟨vs,he,_⟩:=h1;exact aK h bm bd (hf _ _ _ he) (b4▸B3)
 ·rename_i f c b4;have B3:=h1;rw[b4]at h1;simp only[aq,aJ]at h1;obtain⟨vs,he,_⟩:=h1;exact aK h bm bd (hf _ _ _ he) (b4▸B3)
 ·rename_i c b4;have B3:=h1;rw[b4]at h1;simp only[aq,aJ]at h1;obtain⟨b,off,c',he,_⟩:=h1;exact aK h bm bd (hp _ he) (b4▸B3)
 ·rename_i f c b4;have B3:=h1;rw[b4]at h1;simp only[aq]at h1;obtain⟨vs,he,_⟩:=h1;exact aK h bm bd (hf _ _ _ he) (b4▸B3)
 ·rename_i id ver j off b4;have B3:=h1;rw[b4]at h1;simp only[aq,Ref]at h1;intro ob bH;simp only[bH]at h1
  cases ob with
  |rows sz rs bo=>
   by_cases hv:ver=bo
   ·subst hv;simp only[beq_self_eq_true];obtain⟨b,hb,he,_⟩:=h1.2 rfl;exact aK h bm bd (hp _ he) (b4▸B3)
   ·simp only[beq_eq_false_iff_ne.2 hv];trivial
  |cf sz rs bo=>
   by_cases hv:ver=bo
   ·subst hv;simp only[beq_self_eq_true];obtain⟨b,hb,he,_⟩:=h1.2 rfl;exact aK h bm bd (hp _ he) (b4▸B3)
   ·simp only[beq_eq_false_iff_ne.2 hv];trivial
  |_=>trivial
 ·trivial
end
end Go.Am
end
section
namespace Go.Am
section
variable {P:Program} {w:World}
theorem zo {x:Value} {k:IntKind} {i:Int} {y:Nat} {code:BoundsCode} (hx:x=.int k i) (h0:0≤i) (h1:i≤y):(Instr.sliceBound x y code).run P w=.ok i.toNat w:=by
 subst hx;exact run_sliceBound w k i y code h0 h1
theorem wN {isS:Bool} {len cap:Nat} {lo hi:Option Value} {l h:Option Int}
  (hl:(lo=none∧l=none)∨∃k n,lo=some (.int k n)∧l=some n) (hh:(hi=none∧h=none)∨∃k n,hi=some (.int k n)∧h=some n)
  (_hle:len≤cap) (h0:0≤l.getD 0) (h1:l.getD 0≤h.getD len) (h2:h.getD len≤cap):
  (Instr.sliceBounds isS len cap lo hi none).run P w=.ok ((l.getD 0).toNat,(h.getD len).toNat,cap) w:=by
 have hH:∀(c:BoundsCode),(match hi with|some v=>Instr.sliceBound v cap c|none=>pure len:Sem Nat).run P w=.ok (h.getD len).toNat w:=by
  intro c
  rcases hh with⟨rfl,rfl⟩|⟨k,n,rfl,rfl⟩
  ·simp
  ·exact zo rfl (by simp at*;omega) (by simpa using h2)
 have hL:∀(c:BoundsCode),(match lo with|some v=>Instr.sliceBound v (h.getD len).toNat c|none=>pure 0:Sem Nat).run P w=.ok (l.getD 0).toNat w:=by
  intro c
  rcases hl with⟨rfl,rfl⟩|⟨k,n,rfl,rfl⟩
  ·simp
  ·exact zo rfl (by simpa using h0) (by simp at*;omega)
 have e1:=hH (if isS then .sliceAcap else .sliceAlen);have e2:=hL .sliceB;unfold Instr.sliceBounds
 rcases hh with⟨rfl,rfl⟩|⟨k,n,rfl,rfl⟩
 ·simp only[Sem.run_bind,Sem.run_pure,Result.andThen_ok]at e1 e2 ⊢
  cases lo with
  |none=>simp only[Sem.run_pure]at e2 ⊢;injection e2 with e3;simp only[Result.andThen_ok,Option.getD_none];rw[←e3];rfl
  |some v=>simp at e2 ⊢;rw[e2];rfl
 ·simp only[Sem.run_bind,Sem.run_pure,Result.andThen_ok]at e1 e2 ⊢;rw[e1];simp only[Result.andThen_ok]
  cases lo with
  |none=>simp only[Sem.run_pure]at e2 ⊢;injection e2 with e3;rw[←e3];rfl
  |some v=>simp at e2 ⊢;rw[e2];rfl
end
section
variable {P:Program} {w0:World} {own0:Nat→Prop} {hvs:List Value} {G:Nat→Option (List PV)} {S0:Nat→Prop} {accs:List Nat}
 {γ:Nat→Option Nat} {S:Nat→Prop} {st:St} {a:Act} {w:World} {o:Oper} {kn:Nat}
theorem aJ.cells {S:Nat→Prop} {w:World} {p:PV} {v:Value} (h:aJ S w p v):a7 S w p.cells v.cells.toList:=by
 cases p with
 |agg ps=>simp only[aJ]at h;obtain⟨vs,rfl,h⟩:=h;simpa only[PV.cells,Value.cells]using h
 |_=>
  have e:v.cells=#[v]:=by
   simp only[aJ]at h
   first
    |(subst h;rfl)
    |(obtain⟨_,rfl,_⟩:=h;rfl)
    |(obtain⟨_,_,rfl,_⟩:=h;rfl)
    |(obtain⟨_,_,_,rfl,_⟩:=h;rfl)
  rw[e];simp only[PV.cells,a7];exact⟨v,[],rfl,h,rfl⟩
theorem a7.append {S:Nat→Prop} {w:World}:∀{xs ys:List PV} {us vs:List Value},a7 S w xs us→a7 S w ys vs→a7 S w (xs++ys) (us++vs)
 |[],_,_,_,h,h'=>by simp only[a7]at h;subst h;simpa using h'
 |x::xs,ys,us,vs,h,h'=>by
  simp only[a7]at h;obtain⟨v,r,rfl,h1,h2⟩:=h;simp only[List.cons_append,a7];exact⟨v,r++vs,rfl,h1,a7.append h2 h'⟩
theorem aF.append {S:Nat→Prop} {w:World} {ρ:AV→Value→Prop}:∀{xs ys:List AV} {us vs:List Value},aF S w ρ xs us→aF S w ρ ys vs→aF S w ρ (xs++ys) (us++vs)
 |[],ys,us,vs,h,h'=>by simp only[aF]at h;subst h;simpa using h'
 |x::xs,ys,us,vs,h,h'=>by
  simp only[aF]at h;obtain⟨v,r,rfl,h1,h2⟩:=h;simp only[List.cons_append,aF];exact⟨v,r++vs,rfl,h1,aF.append h2 h'⟩
theorem aF.split {S:Nat→Prop} {w:World} {ρ:AV→Value→Prop}:∀{xs ys:List AV} {vs:List Value},aF S w ρ (xs++ys) vs→∃u v,vs=u++v∧aF S w ρ xs u∧aF S w ρ ys v
 |[],ys,vs,h=>⟨[],vs,rfl,by simp only[aF],h⟩
 |x::xs,ys,vs,h=>by
  simp only[List.cons_append,aF]at h;obtain⟨v,r,rfl,h1,h2⟩:=h;obtain⟨u,v',rfl,h3,h4⟩:=aF.split h2;exact⟨v::u,v',rfl,by simp only[aF];exact⟨v,u,rfl,h1,h3⟩,h4⟩
theorem bR.of_flat {S:Nat→Prop} {w:World} {ρ:AV→Value→Prop}:∀{rs:List (List AV)} {vs:List Value} {c:Array Value} {o:Nat},aF S w ρ rs.flatten vs→(∀j v,vs[j]? =some v→c[o+j]? =some v)→bR S w ρ rs c o
 |[],_,_,_,_,_=>by simp only[bR]
 |r::rs,vs,c,o,hr,hc=>by
  rw[List.flatten_cons]at hr;obtain⟨u,v,rfl,h1,h2⟩:=aF.split hr;have hl:=aF.length h1;simp only[bR];refine⟨bz.eG h1 fun j x hj=>hc j x (by rw[List.getElem?_append_left (List.getElem?_eq_some_iff.1 hj).1];exact hj),bR.of_flat h2 fun j x hj=>?_⟩;have:=hc (r.length+j) x (by rw[←hl,List.getElem?_append_right (by omega)];simpa using hj);rw[show o+r.length+j=o+(r.length+j) by omega];exact this
theorem ey {w:World} {c:Array Value} {e:TypeId} {f:Nat×Nat}:ag (w.alloc (.cells c e f)) w.heap.size=some c:=by unfold ag;rw[heap_alloc_new]
theorem Ud {x y:List UInt8} (h:x=y):Value.string ⟨x.toArray⟩=Value.string ⟨y.toArray⟩:=by rw[h]
theorem rB (s:List UInt8) (l h:Nat):(ByteArray.mk s.toArray).extract l h=⟨((s.drop l).take (h-l)).toArray⟩:=by
 apply ByteArray.ext;rw[ByteArray.data_extract];simp[List.extract_toArray]
variable (h:dj w0 own0 hvs G γ S st a w) (bm:∀b,S0 b→S b) (bd:∀b,S b→S0 b∨w0.heap.size≤b∨own0 b)
include h bm bd
theorem jo {lo:Option Operand} {Ep:Option bN} {l:Option Int} (h1:kp G lo=some Ep) (h2:da st.ev Ep=some l):
  (lo.map a.eval=none∧l=none)∨∃k n,lo.map a.eval=some (.int k n)∧l=some n:=by
 cases lo with
 |none=>
  simp only[kp,Option.some.injEq]at h1;subst h1;simp only[da,Option.some.injEq]at h2;subst h2;exact .inl ⟨rfl,rfl⟩
 |some x=>
  simp only[kp]at h1
  cases hx:a8 G x with
  |none=>simp[hx]at h1
  |some x'=>
   simp only[hx,Option.map_some,Option.some.injEq]at h1;subst h1;simp only[da]at h2;have hr:=h.aj hx;split at h2
   ·rename_i k n b4;simp only[Option.some.injEq]at h2;subst h2;rw[b4]at hr;simp only[aq,aJ]at hr;exact .inr ⟨k,n,by simp[hr],rfl⟩
   ·cases h2
theorem Ue {t:TypeId} {x:Operand} {x':bN} {lo hi:Option Operand} {Ep hY:Option bN} (ho:o.op=.slice t x lo hi none) (ht:P.underlying t=some .string) (hx:a8 G x=some x')
  (Rr:kp G lo=some Ep) (X7:kp G hi=some hY):
  cg P w0 own0 hvs G S0 o a w st kn γ S (b6 aG kn (.ud x' Ep hY) st.ev):=by
 simp only[b6]
 cases hl:da st.ev Ep with
 |none=>trivial
 |some l=>
  cases hh:da st.ev hY with
  |none=>trivial
  |some H0=>
   simp only[pJ];have h1:=h.aj hx;split
   ·rename_i s b4;rw[b4]at h1;simp only[aq,aJ]at h1;rintro⟨b0,b1,b2⟩;simp only[aG]at b0 b1 b2;have hb:=wN (P:=P) (w:=w) (isS:=false) (len:=s.length) (cap:=s.length) (jo h bm bd Rr hl) (jo h bm bd X7 hh) (Nat.le_refl _) b0 b1 b2;refine aK h bm bd (u:=.string ((ByteArray.mk s.toArray).extract (l.getD 0).toNat (H0.getD s.length).toNat)) ?_ ?_
    ·have e1:(Instr.slice t (.string ⟨s.toArray⟩) (lo.map a.eval) (hi.map a.eval) none).run P w=.ok (.string ((ByteArray.mk s.toArray).extract (l.getD 0).toNat (H0.getD s.length).toNat)) w:=by
      simp only[Instr.slice,Sem.run_bind,run_underlying ht,Result.andThen_ok,Option.isSome_none,Bool.false_eq_true,if_false,Sem.run_pure];have dZ:(ByteArray.mk s.toArray).size=s.length:=rfl;rw[dZ,hb];rfl
     simp only[execOp,ho,h1,Option.map_none,Instr.sliceAt,Sem.run_bind,run_underlying ht,Result.andThen_ok,e1,Sem.run_pure]
    ·simp only[aq,aJ,aG,rB]
   ·trivial
theorem AH:∀{xs:List Operand} {ys:List bN},dO G xs=some ys→aF S w (Ref γ S w st.mem) (ys.map st.ev) (xs.map a.eval)
 |[],ys,hh=>by simp only[dO,Option.some.injEq]at hh;subst hh;simp only[List.map_nil,aF]
 |x::xs,ys,hh=>by
  simp only[dO]at hh
  cases hx:a8 G x with
  |none=>simp[hx]at hh
  |some y=>
   cases hr:dO G xs with
   |none=>simp[hx,hr]at hh
   |some zs=>
    simp only[hx,hr,Option.some.injEq]at hh;subst hh;simp only[List.map_cons,aF];exact⟨_,_,rfl,h.aj hx,AH hr⟩
theorem Uf {f:FuncId} {first fW:Array Operand} {cs:List bN} (ho:o.op=.makeFunc (.func f) first fW) (hf:first.toList=[]) (hc:dO G fW.toList=some cs):
  cg P w0 own0 hvs G S0 o a w st kn γ S (b6 aG kn (.TL f cs) st.ev):=by
 refine aK h bm bd (u:=.func (.func f) #[] (fW.map a.eval)) ?_ ?_
 ·have e:first=#[]:=by simpa using hf
  simp only[execOp,ho,Instr.makeFunc,Sem.run_bind,Sem.run_pure,Result.andThen_ok,e,Array.map_empty]
 ·simp only[aq];exact⟨(fW.map a.eval).toList,by rw[Array.toArray_toList],by rw[Array.toList_map];exact AH h bm bd hc⟩
theorem vd {n:Nat}:∀{xs:List Operand} {ys:List bN} {rows:List (List PV)},dO G xs=some ys→fA n st.ev ys=some rows→
  rows.length=xs.length∧aS n rows∧(∀v∈xs.map a.eval,v.cells.size=n)∧∃vs:List Value,a7 S w rows.flatten vs∧vs=(xs.map a.eval).flatMap fun v=>v.cells.toList
 |[],ys,rows,hh,hr=>by
  simp only[dO,Option.some.injEq]at hh;subst hh;simp only[fA,Option.some.injEq]at hr;subst hr;exact⟨rfl,by simp[aS],by simp,[],by simp only[List.flatten_nil,a7],rfl⟩
 |x::xs,ys,rows,hh,hr=>by
  simp only[dO]at hh
  cases hx:a8 G x with
  |none=>simp[hx]at hh
  |some y=>
   cases hq:dO G xs with
   |none=>simp[hx,hq]at hh
   |some zs=>
    simp only[hx,hq,Option.some.injEq]at hh;subst hh;simp only[fA]at hr;split at hr
    ·rename_i p hp;split at hr
     ·rename_i hlen;split at hr
      ·rename_i rs hrs;simp only[Option.some.injEq]at hr;subst hr;obtain⟨h1,h2,h3,vs,h4,h5⟩:=vd hq hrs;have hrep:=fD (γ:=γ) (st:=st) _ hp (h.aj hx)
       have zn:p.cells.length=n:=by simpa using hlen
       have gE:a7 S w p.cells (a.eval x).cells.toList:=aJ.cells hrep;refine⟨by simp[h1],?_,?_,?_⟩
       ·intro r hr
        rcases List.mem_cons.1 hr with rfl|hr
        ·exact zn
        ·exact h2 r hr
       ·intro v hv
        rcases List.mem_cons.1 hv with rfl|hv
        ·rw[←zn,←a7.length gE];simp
        ·exact h3 v hv
       ·refine⟨(a.eval x).cells.toList++vs,?_,by simp[h5]⟩;rw[List.flatten_cons];exact a7.append gE h4
      ·cases hr
     ·cases hr
    ·cases hr
theorem bI.of_flat {S:Nat→Prop} {w:World}:∀{rs:List (List PV)} {vs:List Value} {c:Array Value} {o:Nat},a7 S w rs.flatten vs→(∀j v,vs[j]? =some v→c[o+j]? =some v)→bI S w rs c o
 |[],_,_,_,_,_=>by simp only[bI]
 |r::rs,vs,c,o,hr,hc=>by
  rw[List.flatten_cons]at hr
  have key:∀(xs ys:List PV) (vs:List Value),a7 S w (xs++ys) vs→∃u v,vs=u++v∧a7 S w xs u∧a7 S w ys v:=by
   intro xs
   induction xs with
   |nil=>intro ys vs h;exact⟨[],vs,rfl,by simp only[a7],h⟩
   |cons x xs ih=>
    intro ys vs h;simp only[List.cons_append,a7]at h;obtain⟨v,r,rfl,h1,h2⟩:=h;obtain⟨u,q,rfl,h3,h4⟩:=ih ys r h2;exact⟨v::u,q,rfl,by simp only[a7];exact⟨v,u,rfl,h1,h3⟩,h4⟩
  obtain⟨u,v,rfl,h1,h2⟩:=key r rs.flatten vs hr;have hl:=a7.length h1;simp only[bI];refine⟨b7.eG h1 fun j x hj=>hc j x ?_,bI.of_flat h2 fun j x hj=>?_⟩
  ·rw[List.getElem?_append_left (List.getElem?_eq_some_iff.1 hj).1];exact hj
  ·rw[show o+r.length+j=o+(u.length+j) by omega];refine hc _ x ?_;rw[List.getElem?_append_right (by omega),show u.length+j-u.length=j by omega];exact hj
omit h bm bd in
theorem mW:∀{k:Nat} {parts:List (Nat×Operand)} {ps:List bN},ly G k parts=some ps→
  dO G (parts.map (·.2))=some ps∧∀(f:Operand→Value),(parts.map fun(x:Nat×Operand)=>(x.1,f x.2))=((parts.map fun x=>f x.2).zipIdx k).map fun x=>(x.2,x.1)
 |_,[],ps,hh=>by simp only[ly,Option.some.injEq]at hh;subst hh;exact⟨rfl,fun _=>rfl⟩
 |k,(i,x)::r,ps,hh=>by
  simp only[ly]at hh;split at hh
  ·rename_i hi;subst hi
   cases hx:a8 G x with
   |none=>simp[hx]at hh
   |some y=>
    cases hr:ly G (i+1) r with
    |none=>simp[hx,hr]at hh
    |some ys=>
     simp only[hx,hr,Option.bind_some,Option.map_some,Option.some.injEq]at hh;subst hh;obtain⟨h1,h2⟩:=mW hr;exact⟨by simp only[List.map_cons,dO,hx,h1],fun f=>by simp only[List.map_cons,List.zipIdx_cons,h2 f]⟩
  ·cases hh
end
theorem Jy {G:Nat→Option (List PV)} {xs:List Operand}:∀{ys:List bN},dO G xs=some ys→ys.length=xs.length:=by
 induction xs with
 |nil=>intro ys hh;simp only[dO,Option.some.injEq]at hh;subst hh;rfl
 |cons x xs ih=>
  intro ys hh;simp only[dO]at hh;split at hh
  ·split at hh
   ·rename_i q hq;simp only[Option.some.injEq]at hh;subst hh;simp[ih hq]
   ·cases hh
  ·cases hh
theorem Cs {sz:Nat}:∀{l:List Value},(∀v∈l,v.cells.size=sz)→(l.flatMap fun v=>v.cells.toList).length=l.length*sz
 |[],_=>by simp
 |v::l,h=>by
  simp only[List.flatMap_cons,List.length_append,Cs (fun v hv=>h v (List.mem_cons_of_mem _ hv)),List.length_cons,Array.length_toList,h v List.mem_cons_self,Nat.add_mul,Nat.one_mul,Nat.add_comm]
theorem Ct {P:Program} {G:Nat→Option (List PV)} {a:Act} {w:World} {o:Oper} {t e:TypeId} {len sz:Nat} {parts:Array (Nat×Operand)} {ps:List bN} {z:List PV} (ho:o.op=.buildSlice t len parts) (ht:P.underlying t=some (.slice e)) (dZ:bZ P e=some sz)
  (rj:ly G 0 parts.toList=some ps) (hlen:ps.length=len) (rk:0<sz) (l6:len*sz≤2^24) (hz:ic P e=some z) (h3:∀v∈(parts.toList.map (·.2)).map a.eval,v.cells.size=sz):
  ∃c:Array Value,(execOp a.eval o).run P w=.ok (.value (.slice (some ⟨w.heap.size,0,none⟩) len len)) (w.alloc (.cells c e))∧c.size=len*sz∧parts.toList.length=len∧
   c=(((parts.toList.map (·.2)).map a.eval).flatMap fun v=>v.cells.toList).toArray:=by
 obtain⟨Rs,hzip⟩:=mW rj
 have Jz:parts.toList.length=len:=by
  rw[←hlen];have:=Jy Rs;simpa using this.symm
 obtain⟨i,zv,hi,F8,F9,sX⟩:=ij (S:=fun _=>True) (w:=w) hz
 have e1:(parts.toList.map (fun x:Nat×Operand=>a.eval x.2))=((parts.toList.map (·.2)).map a.eval):=by simp
 have hfl:((parts.toList.map (fun x:Nat×Operand=>a.eval x.2)).flatMap fun v=>v.cells.toList).length=len*sz:=by
  rw[e1,Cs h3];simp only[List.length_map,Jz]
 refine⟨((parts.toList.map (fun x:Nat×Operand=>a.eval x.2)).flatMap fun v=>v.cells.toList).toArray,?_,by simpa using hfl,Jz,by rw[e1]⟩
 have Rt:∀base:Array Value,base.size=len*sz→Instr.fill (fun i=>some (i*sz,sz)) base (parts.map fun x=>(x.1,a.eval x.2)).toList=some ((parts.toList.map (fun x:Nat×Operand=>a.eval x.2)).flatMap fun v=>v.cells.toList).toArray:=by
  intro base hb;rw[Array.toList_map];have e1:=hzip a.eval;rw[e1];exact Great.fill_whole rk _ base (fun v hv=>h3 v (by simpa using hv)) (by simp[Jz,hb])
 simp only[execOp,ho,Instr.buildSlice,Sem.run_bind,run_underlying ht,Result.andThen_ok,run_sizeOf dZ];rw[if_neg (by omega)]
 by_cases X8:len*sz=0
 ·rw[if_pos X8];simp only[Sem.run_bind,Sem.run_pure,Result.andThen_ok];rw[Rt _ (by simp)];simp only[Sem.run_bind,newRow,run_newObj,Result.andThen_ok,Sem.run_pure,World.alloc_eq]
 ·rw[if_neg X8];simp only[Sem.run_bind,sX,Result.andThen_ok,Sem.run_pure];rw[Rt _ (by simp)];simp only[Sem.run_bind,newRow,run_newObj,Result.andThen_ok,Sem.run_pure,World.alloc_eq]
section
variable {P:Program} {w0:World} {own0:Nat→Prop} {hvs:List Value} {G:Nat→Option (List PV)} {S0:Nat→Prop} {accs:List Nat}
 {γ:Nat→Option Nat} {S:Nat→Prop} {st:St} {a:Act} {w:World} {o:Oper} {kn:Nat}
 (h:dj w0 own0 hvs G γ S st a w)
include h
theorem ve {t e:TypeId} {len sz:Nat} {parts:Array (Nat×Operand)} {ps:List bN} {rows:List (List PV)} {z:List PV} (ho:o.op=.buildSlice t len parts) (ht:P.underlying t=some (.slice e)) (dZ:bZ P e=some sz)
  (rj:ly G 0 parts.toList=some ps) (hlen:ps.length=len) (rk:0<sz) (l6:len*sz≤2^24) (hz:ic P e=some z) (iI:fA sz st.ev ps=some rows):
  ∃c:Array Value,(execOp a.eval o).run P w=.ok (.value (.slice (some ⟨w.heap.size,0,none⟩) len len)) (w.alloc (.cells c e))∧c.size=len*sz∧aS sz rows∧rows.length=len∧
   ∃vs:List Value,a7 S w rows.flatten vs∧c=vs.toArray:=by
 obtain⟨Rs,_⟩:=mW rj;obtain⟨h1,h2,h3,vs,h4,h5⟩:=vd h (fun _ hb=>hb) (fun b hb=>Or.inl hb) (S0:=S) Rs iI;obtain⟨c,k1,k2,k3,k4⟩:=Ct (w:=w) (a:=a) ho ht dZ rj hlen rk l6 hz h3;exact⟨c,k1,k2,h2,by rw[h1];simpa using k3,vs,h4,by rw[h5];exact k4⟩
theorem vf {n:Nat}:∀{xs:List Operand} {ys:List bN} {rows:List (List AV)},dO G xs=some ys→fB n st.ev ys=some rows→
  rows.length=xs.length∧(∀r∈rows,r.length=n)∧(∀v∈xs.map a.eval,v.cells.size=n)∧∃vs:List Value,aF S w (Ref γ S w st.mem) rows.flatten vs∧vs=(xs.map a.eval).flatMap fun v=>v.cells.toList
 |[],ys,rows,hh,hr=>by
  simp only[dO,Option.some.injEq]at hh;subst hh;simp only[fB,Option.some.injEq]at hr;subst hr;exact⟨rfl,by simp,by simp,[],by simp only[List.flatten_nil,aF],rfl⟩
 |x::xs,ys,rows,hh,hr=>by
  simp only[dO]at hh
  cases hx:a8 G x with
  |none=>simp[hx]at hh
  |some y=>
   cases hq:dO G xs with
   |none=>simp[hx,hq]at hh
   |some zs=>
    simp only[hx,hq,Option.some.injEq]at hh;subst hh;simp only[fB]at hr;split at hr
    ·rename_i kj;split at hr
     ·rename_i hlen;split at hr
      ·rename_i rs hrs;simp only[Option.some.injEq]at hr;subst hr;obtain⟨h1,h2,h3,vs,h4,h5⟩:=vf hq hrs;have gE:=aq.cells (kN γ st.mem) kj (h.aj hx)
       have zn:(st.ev y).cells.length=n:=by simpa using hlen
       refine⟨by simp[h1],?_,?_,?_⟩
       ·intro r hr
        rcases List.mem_cons.1 hr with rfl|hr
        ·exact zn
        ·exact h2 r hr
       ·intro v hv
        rcases List.mem_cons.1 hv with rfl|hv
        ·rw[←zn,←aF.length gE];simp
        ·exact h3 v hv
       ·refine⟨(a.eval x).cells.toList++vs,?_,by simp[h5]⟩;rw[List.flatten_cons];exact aF.append gE h4
      ·cases hr
     ·cases hr
    ·cases hr
theorem sY {t e:TypeId} {len sz:Nat} {parts:Array (Nat×Operand)} {ps:List bN} {rows:List (List AV)} {z:List PV} (ho:o.op=.buildSlice t len parts) (ht:P.underlying t=some (.slice e)) (dZ:bZ P e=some sz)
  (rj:ly G 0 parts.toList=some ps) (hlen:ps.length=len) (rk:0<sz) (l6:len*sz≤2^24) (hz:ic P e=some z) (iI:fB sz st.ev ps=some rows):
  ∃c:Array Value,(execOp a.eval o).run P w=.ok (.value (.slice (some ⟨w.heap.size,0,none⟩) len len)) (w.alloc (.cells c e))∧c.size=len*sz∧(∀r∈rows,r.length=sz)∧rows.length=len∧
   ∃vs:List Value,aF S w (Ref γ S w st.mem) rows.flatten vs∧c=vs.toArray:=by
 obtain⟨Rs,_⟩:=mW rj;obtain⟨h1,h2,h3,vs,h4,h5⟩:=vf h Rs iI;obtain⟨c,k1,k2,k3,k4⟩:=Ct (w:=w) (a:=a) ho ht dZ rj hlen rk l6 hz h3;exact⟨c,k1,k2,h2,by rw[h1];simpa using k3,vs,h4,by rw[h5];exact k4⟩
variable (bm:∀b,S0 b→S b) (bd:∀b,S b→S0 b∨w0.heap.size≤b∨own0 b)
include bm bd
theorem Ug {t e:TypeId} {len sz:Nat} {parts:Array (Nat×Operand)} {ps:List bN} {z:List PV} (ho:o.op=.buildSlice t len parts) (ht:P.underlying t=some (.slice e)) (dZ:bZ P e=some sz)
  (rj:ly G 0 parts.toList=some ps) (hlen:ps.length=len) (rk:0<sz) (l6:len*sz≤2^24) (hz:ic P e=some z):
  cg P w0 own0 hvs G S0 o a w st kn γ S (b6 aG kn (.TK sz ps) st.ev):=by
 simp only[b6]
 cases iI:rX sz st.ev ps with
 |none=>
  simp only
  cases Uh:fB sz st.ev ps with
  |none=>trivial
  |some rows=>
   obtain⟨c,bJ,kh,bP,px,vs,h4,Ui⟩:=sY (a:=a) h ho ht dZ rj hlen rk l6 hz Uh;obtain⟨key,hl,hρ⟩:=dj.grow h (w':=w.alloc (.cells c e)) (S':=fun b=>S b∨b=w.heap.size) (fun b hb=>fK hb) (by simp) rfl rfl rfl (fun b hb=>.inl hb)
    (fun b hb=>hb.imp (fun h=>h) (fun e=>⟨by omega,by simp;omega⟩))
   refine⟨_,_,γ,_,.inl bJ,fun b hb=>.inl (bm b hb),fun b hb=>?_,key,?_⟩
   ·rcases hb with hb|hb
    ·exact bd b hb
    ·exact .inr (.inl (by have:=h.eF;omega))
   ·simp only[aq,px];exact⟨_,rfl,.inr ⟨w.heap.size,0,c,sz,rfl,.inr rfl,ey,bP,bR.of_flat (aF.later hl hρ _ h4) (fun j v hj=>by rw[Ui];simpa using hj)⟩⟩
 |some rows=>
  have iI:fA sz st.ev ps=some rows:=by
   unfold rX at iI;split at iI
   ·cases iI
   ·exact iI
  obtain⟨c,bJ,kh,bP,px,vs,h4,Ui⟩:=ve (a:=a) h ho ht dZ rj hlen rk l6 hz iI;obtain⟨key,hl,hρ⟩:=dj.grow h (w':=w.alloc (.cells c e)) (S':=fun b=>S b∨b=w.heap.size) (fun b hb=>fK hb) (by simp) rfl rfl rfl (fun b hb=>.inl hb)
   (fun b hb=>hb.imp (fun h=>h) (fun e=>⟨by omega,by simp;omega⟩))
  refine⟨_,_,γ,_,.inl bJ,fun b hb=>.inl (bm b hb),fun b hb=>?_,key,?_⟩
  ·rcases hb with hb|hb
   ·exact bd b hb
   ·exact .inr (.inl (by have:=h.eF;omega))
  ·simp only[aq,px];exact⟨_,rfl,.inr ⟨w.heap.size,0,c,sz,rfl,.inr rfl,ey,bP,bI.of_flat h bm bd (a7.later hl _ h4) (fun j v hj=>by rw[Ui];simpa using hj)⟩⟩
theorem JA {t e:TypeId} {len sz:Nat} {parts:Array (Nat×Operand)} {ps:List bN} {z:List PV} (ho:o.op=.buildSlice t len parts) (ht:P.underlying t=some (.slice e)) (dZ:bZ P e=some sz)
  (rj:ly G 0 parts.toList=some ps) (hlen:ps.length=len) (rk:0<sz) (l6:len*sz≤2^24) (hz:ic P e=some z):
  cg P w0 own0 hvs G S0 o a w st kn γ S (b6 aG kn (.dB sz ps) st.ev):=by
 simp only[b6]
 cases iI:fA sz st.ev ps with
 |none=>trivial
 |some rows=>
  intro hm bL;obtain⟨c,bJ,kh,bP,px,vs,h4,Ui⟩:=ve (a:=a) h ho ht dZ rj hlen rk l6 hz iI;have key:=dj.new h hm bL (.rows sz rows 0) c e (fun hρ hl=>.inr ⟨w.heap.size,c,e,by simp[dw],heap_alloc_new,by rw[px,kh];exact Nat.le_refl _,bP,bI.of_flat h bm bd (a7.later hl _ h4) (fun j v hj=>by rw[Ui];simpa using hj)⟩);refine⟨_,_,_,S,.inl bJ,bm,bd,key.1,?_⟩;simp only[aq,Ref,St.aC,aE bL,if_true,px];exact⟨⟨Nat.le_refl _,rfl⟩,fun _=>⟨_,_,rfl,Nat.le_refl _,.inr ⟨w.heap.size,c,by simp[dw],rfl,ey,kh⟩⟩⟩
theorem Uj {t e:TypeId} {len sz:Nat} {parts:Array (Nat×Operand)} {ps:List bN} {z:List PV} (ho:o.op=.buildSlice t len parts) (ht:P.underlying t=some (.slice e)) (dZ:bZ P e=some sz)
  (rj:ly G 0 parts.toList=some ps) (hlen:ps.length=len) (rk:0<sz) (l6:len*sz≤2^24) (hz:ic P e=some z):
  cg P w0 own0 hvs G S0 o a w st kn γ S (b6 aG kn (.TR sz ps) st.ev):=by
 simp only[b6]
 cases iI:fB sz st.ev ps with
 |none=>trivial
 |some rows=>
  intro hm bL;obtain⟨c,bJ,kh,bP,px,vs,h4,Ui⟩:=sY (a:=a) h ho ht dZ rj hlen rk l6 hz iI;have key:=dj.new h hm bL (.cf sz rows 0) c e (fun hρ hl=>.inr ⟨w.heap.size,c,e,by simp[dw],heap_alloc_new,by rw[px,kh];exact Nat.le_refl _,bP,bR.of_flat (aF.later hl hρ _ h4) (fun j v hj=>by rw[Ui];simpa using hj)⟩);refine⟨_,_,_,S,.inl bJ,bm,bd,key.1,?_⟩;simp only[aq,Ref,St.aC,aE bL,if_true,px];exact⟨⟨Nat.le_refl _,rfl⟩,fun _=>⟨_,_,rfl,Nat.le_refl _,.inr ⟨w.heap.size,c,by simp[dw],rfl,ey,kh⟩⟩⟩
theorem MN {f:FuncId} {first fW:Array Operand} {cs:List bN} (ho:o.op=.makeFunc (.func f) first fW) (hf:fW.toList=[]) (hc:dO G first.toList=some cs):
  cg P w0 own0 hvs G S0 o a w st kn γ S (b6 aG kn (.D7 f cs) st.ev):=by
 refine aK h bm bd (u:=.func (.func f) (first.map a.eval) #[]) ?_ ?_
 ·have e:fW=#[]:=by simpa using hf
  simp only[execOp,ho,Instr.makeFunc,Sem.run_bind,Sem.run_pure,Result.andThen_ok,e,Array.map_empty]
 ·simp only[aq];exact⟨(first.map a.eval).toList,by rw[Array.toArray_toList],by rw[Array.toList_map];exact AH h bm bd hc⟩
theorem zp {sz:Nat} {x:Operand} (ho:o.op=.move x∨o.op=.assign x) (hx:x=.const (.slice none 0 0)):
  cg P w0 own0 hvs G S0 o a w st kn γ S (b6 aG kn (.dB sz []) st.ev):=by
 simp only[b6,fA];intro hm bL;refine⟨.slice none 0 0,w,γ,S,.inl ?_,bm,bd,dj.Ek h hm bL sz 0,?_⟩
 ·subst hx;rcases ho with ho|ho<;>simp[execOp,ho,Act.eval]
 ·simp only[aq,Ref,St.aC,aE bL,if_true];exact⟨⟨Nat.le_refl _,rfl⟩,fun _=>⟨none,0,rfl,by simp,.inl rfl⟩⟩
end
end Go.Am
end
section
namespace Go.Am
section
variable {S:Nat→Prop} {w:World}
theorem bI.drop:∀{rs:List (List PV)} {c:Array Value} {o sz:Nat} (k:Nat),aS sz rs→bI S w rs c o→bI S w (rs.drop k) c (o+k*sz)
 |_,_,_,_,0,_,h=>by simpa using h
 |[],_,_,_,k+1,_,_=>by simp only[List.drop_nil,bI]
 |r::rs,c,o,sz,k+1,hl,h=>by
  simp only[bI]at h;have:=bI.drop k (fun x hx=>hl x (List.mem_cons_of_mem _ hx)) h.2;rw[hl r List.mem_cons_self]at this;rw[show o+(k+1)*sz=o+sz+k*sz by rw[Nat.add_mul,Nat.one_mul];omega];simpa using this
theorem bI.take:∀{rs:List (List PV)} {c:Array Value} {o:Nat} (k:Nat),bI S w rs c o→bI S w (rs.take k) c o
 |_,_,_,0,_=>by simp only[List.take_zero,bI]
 |[],_,_,k+1,_=>by simp only[List.take_nil,bI]
 |r::rs,c,o,k+1,h=>by
  simp only[bI]at h;simp only[List.take_succ_cons,bI];exact⟨h.1,bI.take k h.2⟩
theorem bI.append:∀{xs ys:List (List PV)} {c:Array Value} {o sz:Nat},aS sz xs→bI S w xs c o→bI S w ys c (o+xs.length*sz)→bI S w (xs++ys) c o
 |[],_,_,_,_,_,_,h=>by simpa using h
 |x::xs,ys,c,o,sz,hl,h,h'=>by
  simp only[bI]at h;simp only[List.cons_append,bI];refine⟨h.1,bI.append (sz:=sz) (fun y hy=>hl y (List.mem_cons_of_mem _ hy)) h.2 ?_⟩;rw[hl x List.mem_cons_self,show o+sz+xs.length*sz=o+(x::xs).length*sz by simp only[List.length_cons,Nat.add_mul,Nat.one_mul];omega];exact h'
theorem aS.drop {sz:Nat} {rs:List (List PV)} (k:Nat) (h:aS sz rs):aS sz (rs.drop k):=fun r hr=>h r (List.mem_of_mem_drop hr)
theorem aS.take {sz:Nat} {rs:List (List PV)} (k:Nat) (h:aS sz rs):aS sz (rs.take k):=fun r hr=>h r (List.mem_of_mem_take hr)
theorem aS.append {sz:Nat} {xs ys:List (List PV)} (h:aS sz xs) (h':aS sz ys):aS sz (xs++ys):=fun r hr=>(List.mem_append.1 hr).elim (h r) (h' r)
theorem zq {all:List (List PV)} {b off sz cap l h k:Nat} {c:Array Value} (hs:S b) (hc:ag w b=some c) (bP:aS sz all) (hr:bI S w all c off) (hlh:l≤h) (hh:h≤all.length) (dQ:all.length≤cap):
  aJ S w (.sl ((all.drop l).take (h-l)) ((all.drop h).take k)) (.slice (if cap=l then some ⟨b,off,none⟩else some ⟨b,off+l*sz,none⟩) (h-l) (cap-l)):=by
 simp only[aJ]
 have e1:((all.drop l).take (h-l)).length=h-l:=by simp only[List.length_take,List.length_drop];omega
 refine⟨_,cap-l,by rw[e1],by rw[e1];simp only[List.length_take,List.length_drop];omega,?_⟩
 by_cases gE:cap=l
 ·left
  constructor
  ·apply List.eq_nil_of_length_eq_zero;rw[e1];omega
  ·apply List.eq_nil_of_length_eq_zero;simp only[List.length_take,List.length_drop];omega
 ·right
  rw[if_neg gE];refine⟨b,off+l*sz,c,sz,rfl,hs,hc,(bP.drop l).take _,(bP.drop h).take _,(hr.drop l bP).take _,?_⟩;rw[e1,show off+l*sz+(h-l)*sz=off+h*sz by rw[Nat.add_assoc,←Nat.add_mul];congr 2;omega];exact(hr.drop h bP).take _
end
section
variable {P:Program} {w0:World} {own0:Nat→Prop} {hvs:List Value} {G:Nat→Option (List PV)} {S0:Nat→Prop} {accs:List Nat}
 {γ:Nat→Option Nat} {S:Nat→Prop} {st:St} {a:Act} {w:World} {o:Oper} {kn:Nat}
 (h:dj w0 own0 hvs G γ S st a w) (bm:∀b,S0 b→S b) (bd:∀b,S b→S0 b∨w0.heap.size≤b∨own0 b)
include h
theorem dj.freeze {id sz ver:Nat} {rs:List (List PV)} (hid:aA st.mem id=some (.rows sz rs ver)):
  ∃S',(∀b,S b→S' b)∧(∀b,S' b→S b∨(∃i,γ i=some b))∧dj w0 own0 hvs G (dw γ id none) S' (st.aC id (.eL rs ver)) a w∧
   (∀x v,Ref γ S w st.mem x v→Ref (dw γ id none) S' w (st.aC id (.eL rs ver)).mem x v):=by
 have bL:=bQ hid;refine⟨fun b=>S b∨γ id=some b,fun b hb=>.inl hb,fun b hb=>hb.imp (fun h=>h) (fun h=>⟨id,h⟩),?_⟩
 have hl:cA S w (fun b=>S b∨γ id=some b) w:=fun b hb=>⟨.inl hb,rfl,rfl⟩
 have hO:=h.mem id _ hid
 have hρ:∀x v,Ref γ S w st.mem x v→Ref (dw γ id none) (fun b=>S b∨γ id=some b) w (st.aC id (.eL rs ver)).mem x v:=by
  intro x v hx
  by_cases hi:bD x=some id
  ·cases x with
   |dB i2 v2=>
    simp only[bD,Option.some.injEq]at hi;subst hi;simp only[Ref,hid]at hx;simp only[Ref,St.aC,aE bL,if_true];refine⟨hx.1,fun e=>?_⟩;obtain⟨a1,cap,q1,q2,q3⟩:=hx.2 e;simp only[aJ];refine⟨a1,cap,q1,by simpa using q2,?_⟩
    rcases q3 with q3|⟨b,c,r1,r2,r3,r4⟩
    ·left;exact⟨List.eq_nil_of_length_eq_zero (by omega),trivial⟩
    ·right
     obtain⟨c1,e1,t1,t2,t3,t4⟩:=rows_block r1 hO;refine⟨b,0,c1,sz,r2,.inr r1,by simp[ag,t1],t3,by simp[aS],bI.later hl _ t4,by simp only[bI]⟩
   |cW i2 v2 j2 o2=>
    simp only[bD,Option.some.injEq]at hi;subst hi;simp only[Ref,hid]at hx;simp only[Ref,St.aC,aE bL,if_true];refine⟨hx.1,fun e=>?_⟩;obtain⟨b,r1,q1,q2,q3⟩:=hx.2 e;obtain⟨c1,e1,t1,t2,t3,t4⟩:=rows_block r1 hO;have:=bI.rows (j:=j2.toNat) t3 (bI.later hl _ t4) (by omega);rw[Nat.zero_add]at this;exact⟨b,j2.toNat*sz,c1,q1,.inr r1,by simp[ag,t1],this,q2,q3⟩
   |ptr i2 o2=>
    simp only[bD,Option.some.injEq]at hi;subst hi;simp only[Ref,hid]at hx
   |dt i2=>
    simp only[bD,Option.some.injEq]at hi;subst hi;simp only[Ref,hid]at hx
   |eR i2 o2=>
    simp only[bD,Option.some.injEq]at hi;subst hi;simp only[Ref,hid]at hx
   |_=>simp[bD]at hi
  ·refine Ref.um hl x v (fun pH ob hr hg=>?_) hx
   have dW:pH≠id:=fun e=>hi (e▸hr)
   exact⟨by simp only[St.aC,aE bL,if_neg dW,hg],by simp only[dw,if_neg dW],fun _ _=>⟨rfl,rfl⟩⟩
 refine⟨?_,hρ⟩
 exact{
     size:=h.size,slot:=fun i=>aq.later hl hρ _ (h.slot i),held:=aF.later hl hρ _ h.held,defers:=h.defers
     mem:=fun pH ob hg=>by
      by_cases hi:pH=id
      ·subst hi;simp only[St.aC,aE bL,if_true,Option.some.injEq]at hg;subst hg;trivial
      ·simp only[St.aC,aE bL,if_neg hi]at hg;exact fU.later hl hρ (by simp only[dw,if_neg hi]) (fun _ _=>rfl) (h.mem pH ob hg)
     qQ:=fun i b hg=>by
      simp only[St.aC,aE bL]
      by_cases hi:i=id
      ·simp[hi]
      ·simp only[dw,if_neg hi]at hg ⊢;exact h.qQ i b hg
     inj:=fun i j b hi hj=>by
      simp only[dw]at hi hj;split at hi
      ·cases hi
      ·split at hj
       ·cases hj
       ·exact h.inj i j b hi hj
     own:=fun i b hi=>by
      simp only[dw]at hi;split at hi
      ·cases hi
      ·rename_i dW;refine⟨fun hs=>?_,(h.own i b hi).2⟩
       rcases hs with hs|hs
       ·exact(h.own i b hi).1 hs
       ·exact dW (h.inj i id b hi hs)
     bound:=fun b hb=>by
      rcases hb with hb|hb
      ·exact h.bound b hb
      ·exact h.dx id b hb
     dx:=fun i b hi=>by
      simp only[dw]at hi;split at hi
      ·cases hi
      ·exact h.dx i b hi
     nR:=fun g row hg=>by
      obtain⟨h1,c,h2,h3,h4⟩:=h.nR g row hg;exact⟨.inl h1,c,h2,b7.later hl row h3,h4⟩
     kept:=h.kept,os:=h.os,tape:=h.tape,output:=h.output,eF:=h.eF}
include bm bd
omit bm bd in
theorem qS {t e:TypeId} {sz:Nat} {x:Operand} {lo hi:Option Operand} {l hh:Option Int} (ho:o.op=.slice t x lo hi none) (ht:P.underlying t=some (.slice e)) (dZ:bZ P e=some sz)
  (hl:(lo.map a.eval=none∧l=none)∨∃k n,lo.map a.eval=some (.int k n)∧l=some n) (H0:(hi.map a.eval=none∧hh=none)∨∃k n,hi.map a.eval=some (.int k n)∧hh=some n)
  {b:Option Addr} {n cap:Nat} (hx:a.eval x=.slice b n cap) (hn:n≤cap) (h0:0≤l.getD 0) (h1:l.getD 0≤hh.getD n) (h2:hh.getD n≤cap):
  (execOp a.eval o).run P w=.ok (.value (.slice (if cap=(l.getD 0).toNat then b else b.map (·.add ((l.getD 0).toNat*sz))) ((hh.getD n).toNat-(l.getD 0).toNat) (cap-(l.getD 0).toNat))) w:=by
 have hb:=wN (P:=P) (w:=w) (isS:=true) hl H0 hn h0 h1 h2
 have e1:(Instr.slice t (.slice b n cap) (lo.map a.eval) (hi.map a.eval) none).run P w=.ok (.slice (if cap=(l.getD 0).toNat then b else b.map (·.add ((l.getD 0).toNat*sz))) ((hh.getD n).toNat-(l.getD 0).toNat) (cap-(l.getD 0).toNat)) w:=by
  simp only[Instr.slice,Sem.run_bind,run_underlying ht,Result.andThen_ok,hb,run_sizeOf dZ,Sem.run_pure]
 simp only[execOp,ho,hx,Option.map_none,Instr.sliceAt,Sem.run_bind,run_underlying ht,Result.andThen_ok,e1,Sem.run_pure]
theorem wO {t e:TypeId} {sz:Nat} {x:Operand} {lo hi:Option Operand} {l hh:Option Int} (ho:o.op=.slice t x lo hi none) (ht:P.underlying t=some (.slice e)) (dZ:bZ P e=some sz)
  (hl:(lo.map a.eval=none∧l=none)∨∃k n,lo.map a.eval=some (.int k n)∧l=some n) (H0:(hi.map a.eval=none∧hh=none)∨∃k n,hi.map a.eval=some (.int k n)∧hh=some n)
  {y:AV} (hx:aq S w (Ref γ S w st.mem) y (a.eval x)):
  ek P w0 own0 hvs G S0 o a w st kn γ S (ot aG sz y l hh):=by
 have key:∀(all:List (List PV)) (b off n cap mM:Nat) (c:Array Value) (k:Nat),a.eval x=.slice (some ⟨b,off,none⟩) n cap→n≤all.length→all.length≤cap→S b→ag w b=some c→aS mM all→bI S w all c off→
   0≤l.getD 0→l.getD 0≤hh.getD n→hh.getD n≤all.length→(l.getD 0=0∨mM=sz)→
   ∃v,(execOp a.eval o).run P w=.ok (.value v) w∧aJ S w (.sl ((all.drop (l.getD 0).toNat).take ((hh.getD n).toNat-(l.getD 0).toNat)) ((all.drop (hh.getD n).toNat).take k)) v:=by
  intro all b off n cap mM c k he hn dQ hb hc bP hr h0 h1 h2 hz;refine⟨_,qS h ho ht dZ hl H0 he (by omega) h0 h1 (by omega),?_⟩;have:=zq (k:=k) (l:=(l.getD 0).toNat) (h:=(hh.getD n).toNat) (cap:=cap) hb hc bP hr (by omega) (by omega) dQ
  have e2:(Option.map (fun x:Addr=>x.add ((l.getD 0).toNat*sz)) (some ⟨b,off,none⟩))=some ⟨b,off+(l.getD 0).toNat*mM,none⟩:=by
   rw[Option.map_some,ig]
   rcases hz with hz|hz
   ·rw[hz];simp
   ·rw[hz]
  rw[e2];exact this
 cases y with
 |pv p=>
  cases p with
  |sl rows spare=>
   simp only[aq,aJ]at hx;obtain⟨a0,cap,he,dQ,hd⟩:=hx
   have sZ:rows=[]→spare=[]→∀h':Int,0≤l.getD 0→l.getD 0≤h'→h'≤0→hh.getD 0=h'→∀(q1:List (List PV)),q1=[]→pq P w0 own0 hvs G S0 o a w st (.pv (.sl q1 [])):=by
    intro e1 e2 h' b0 b1 b2 b3 q1 hq;subst e1;subst e2;subst hq;refine aK h bm bd (qS h ho ht dZ hl H0 he (by simp) b0 (by simp;omega) (by simp;omega)) ?_;simp only[aq,aJ];simp only[List.length_nil]at*
    have e5:(hh.getD ((0:Nat):Int)).toNat-(l.getD 0).toNat=0:=by
     have:hh.getD ((0:Nat):Int)=h':=b3;omega
    rw[e5];exact⟨_,_,rfl,by simp,.inl ⟨trivial,trivial⟩⟩
   simp only[ot]
   cases hh with
   |none=>
    rintro⟨b0,b1,b2,b3⟩;simp only[aG]at b0 b1 b2 b3
    rcases hd with⟨e1,e2⟩|⟨b,off,c,mM,ha,hs,hc,h1,h2,h3,h4⟩
    ·have:=sZ e1 e2 0 b0 (by simpa[e1]using b1) (by omega) rfl [] rfl;simp only[aG,e1,e2];simpa using this
    ·subst ha
     obtain⟨v,q1,q2⟩:=key (rows++spare) b off rows.length cap mM c spare.length he (by simp) (by simpa using dQ) hs hc (h1.append h2) (bI.append h1 h3 h4) b0 b1 (by simp;omega) (by
      rcases b3 with b3|b3
      ·exact .inl b3
      ·by_cases hr:rows=[]
       ·left;subst hr;simp at b1;omega
       ·right;obtain⟨r,ri⟩:=List.exists_mem_of_ne_nil _ hr;rw[←h1 r ri,b3 r ri])
     refine aK h bm bd q1 ?_;simp only[aq,aG];simp only[Option.getD_none]at q2
     have e1:(List.drop ((rows.length:Int)).toNat (rows++spare)).take spare.length=spare:=by simp
     have e2:((rows++spare).drop (l.getD 0).toNat).take (((rows.length:Int)).toNat-(l.getD 0).toNat)=(rows.drop (l.getD 0).toNat).take (((rows.length:Int)).toNat-(l.getD 0).toNat):=by
      rw[List.drop_append_of_le_length (by omega),List.take_append_of_le_length (by simp)]
     rw[e1,e2]at q2;exact q2
   |some hv=>
    simp only
    cases spare with
    |nil=>
     rintro⟨b0,b1,b2,b3⟩
     rcases hd with⟨e1,e2⟩|⟨b,off,c,mM,ha,hs,hc,h1,h2,h3,h4⟩
     ·have:=sZ e1 rfl hv b0 b1 (by simpa[e1]using b2) rfl [] rfl;simp only[aG,e1];simpa using this
     ·subst ha
      obtain⟨v,q1,q2⟩:=key rows b off rows.length cap mM c 0 he (Nat.le_refl _) (by simpa using dQ) hs hc h1 h3 b0 b1 b2 (by
       rcases b3 with b3|b3
       ·exact .inl b3
       ·by_cases hr:rows=[]
        ·left;subst hr;simp at b2;omega
        ·right;obtain⟨r,ri⟩:=List.exists_mem_of_ne_nil _ hr;rw[←h1 r ri,b3 r ri])
      refine aK h bm bd q1 ?_;simp only[aq,aG];simpa using q2
    |cons s0 sp=>
     rintro⟨b0,b1,b2,b3⟩
     rcases hd with⟨_,e2⟩|⟨b,off,c,mM,ha,hs,hc,h1,h2,h3,h4⟩
     ·cases e2
     ·subst ha
      obtain⟨v,q1,q2⟩:=key (rows++s0::sp) b off rows.length cap mM c 0 he (by simp) (by simpa using dQ) hs hc (h1.append h2) (bI.append h1 h3 h4) b0 b1 (by simp at b2 ⊢;omega) (by
        rcases b3 with b3|b3
        ·exact .inl b3
        ·right;rw[←h2 s0 List.mem_cons_self,b3 s0 (by simp)])
      refine aK h bm bd q1 ?_;simp only[aq,aG];simpa using q2
  |_=>trivial
 |full rows=>
  simp only[aq]at hx;obtain⟨a0,he,hd⟩:=hx;simp only[ot]
  have sZ:rows=[]→∀h':Int,0≤l.getD 0→l.getD 0≤h'→h'≤0→hh.getD 0=h'→∃b,(execOp a.eval o).run P w=.ok (.value (.slice b 0 0)) w:=by
   intro e1 h' b0 b1 b2 b3;subst e1;simp only[List.length_nil]at*
   have e5:(hh.getD ((0:Nat):Int)).toNat-(l.getD 0).toNat=0:=by
    have:hh.getD ((0:Nat):Int)=h':=b3;omega
   have:=qS h ho ht dZ hl H0 he (by simp) b0 (by simp only[Int.ofNat_zero]at*;omega) (by simp only[Int.ofNat_zero]at*;omega);rw[e5,show 0-(l.getD 0).toNat=0 by omega]at this;exact⟨_,this⟩
  cases hh with
  |none=>
   rintro⟨b0,b1,b2,b3⟩;simp only[aG]at b0 b1 b2 b3
   rcases hd with e1|⟨b,off,c,mM,ha,hs,hc,h1,h3⟩
   ·obtain⟨b,hb⟩:=sZ e1 0 b0 (by simpa[e1]using b1) (by omega) rfl;refine aK h bm bd hb ?_;simp only[aq,aG,e1];exact⟨b,by simp,by simp⟩
   ·subst ha
    have hz:l.getD 0=0∨mM=sz:=by
     rcases b3 with b3|b3
     ·exact .inl b3
     ·by_cases hr:rows=[]
      ·left;subst hr;simp at b1;omega
      ·right;obtain⟨r,ri⟩:=List.exists_mem_of_ne_nil _ hr;rw[←h1 r ri,b3 r ri]
    refine aK h bm bd (qS h ho ht dZ hl H0 he (Nat.le_refl _) b0 (by simpa using b1) (by simp)) ?_;simp only[aq,aG]
    have e1:((rows.drop (l.getD 0).toNat).take (((rows.length:Int)).toNat-(l.getD 0).toNat))=rows.drop (l.getD 0).toNat:=by
     apply List.take_of_length_le;simp
    have e2:((none:Option Int).getD (rows.length:Int)).toNat-(l.getD 0).toNat=(rows.drop (l.getD 0).toNat).length:=by simp
    rw[e1,e2];refine⟨_,by rw[List.length_drop],?_⟩
    by_cases gE:rows.length=(l.getD 0).toNat
    ·left;simp[gE]
    ·right
     rw[if_neg gE];refine⟨b,off+(l.getD 0).toNat*mM,c,mM,?_,hs,hc,h1.drop _,h3.drop _ h1⟩;rw[Option.map_some,ig]
     rcases hz with hz|hz
     ·rw[hz];simp
     ·rw[hz]
  |some hv=>
   rintro⟨b0,b1,b2,b3⟩
   rcases hd with e1|⟨b,off,c,mM,ha,hs,hc,h1,h3⟩
   ·obtain⟨b,hb⟩:=sZ e1 hv b0 b1 (by simpa[e1]using b2) rfl;refine aK h bm bd hb ?_;simp only[aq,aJ,aG,e1];exact⟨b,0,by simp,by simp,.inl ⟨by simp,trivial⟩⟩
   ·subst ha
    obtain⟨v,q1,q2⟩:=key rows b off rows.length rows.length mM c 0 he (Nat.le_refl _) (Nat.le_refl _) hs hc h1 h3 b0 b1 b2 (by
     rcases b3 with b3|b3
     ·exact .inl b3
     ·by_cases hr:rows=[]
      ·left;subst hr;simp at b2;omega
      ·right;obtain⟨r,ri⟩:=List.exists_mem_of_ne_nil _ hr;rw[←h1 r ri,b3 r ri])
    refine aK h bm bd q1 ?_;simp only[aq,aG];simpa using q2
 |_=>trivial
theorem Uk {t e:TypeId} {sz:Nat} {x:Operand} {x':bN} {lo hi:Option Operand} {Ep hY:Option bN} (ho:o.op=.slice t x lo hi none) (ht:P.underlying t=some (.slice e)) (dZ:bZ P e=some sz) (hx:a8 G x=some x')
  (Rr:kp G lo=some Ep) (X7:kp G hi=some hY):
  cg P w0 own0 hvs G S0 o a w st kn γ S (b6 aG kn (.Mr sz x' Ep hY) st.ev):=by
 simp only[b6]
 cases hl:da st.ev Ep with
 |none=>trivial
 |some l=>
  cases hh:da st.ev hY with
  |none=>trivial
  |some hv=>
   have hL:=jo h bm bd Rr hl;have hH:=jo h bm bd X7 hh;simp only[nK];have h1:=h.aj hx;split
   ·rename_i id ver b4;rw[b4]at h1;have B3:=h1;simp only[aq,Ref]at h1;intro ob bH;simp only[bH]at h1
    cases ob with
    |cells cs=>trivial
    |cf=>trivial
    |map=>trivial
    |iK=>trivial
    |fz=>trivial
    |cH=>trivial
    |er=>trivial
    |eL rs bo=>
     by_cases aY:ver=bo
     ·subst aY;simp only[beq_self_eq_true];exact wO h bm bd ho ht dZ hL hH (by simp only[aq];exact h1.2 rfl)
     ·simp only[beq_eq_false_iff_ne.2 aY];trivial
    |rows mM rs bo=>
     by_cases aY:ver=bo
     ·subst aY;simp only[beq_self_eq_true];rintro⟨b0,b1,b2,b3⟩;simp only[aG]at b0 b1 b2 b3;obtain⟨S',k1,k2,k3,k4⟩:=dj.freeze h bH;obtain⟨a1,cap,q1,q2,q3⟩:=h1.2 rfl;have bJ:=qS h ho ht dZ hL hH q1 q2 b0 b1 (by omega);refine⟨_,w,_,S',.inl bJ,fun b hb=>k1 b (bm b hb),fun b hb=>?_,k3,?_⟩
      ·rcases k2 b hb with hb|⟨i,hb⟩
       ·exact bd b hb
       ·exact .inr (h.own i b hb).2
      ·simp only[aq,aG];have hf:=k4 (.dB id ver) _ (by simpa only[aq]using B3);simp only[Ref,St.aC,aE (bQ bH),if_true]at hf;have Ul:=hf.2 trivial;simp only[aJ]at Ul;obtain⟨a2,cap2,r1,r2,r3⟩:=Ul
       rw[q1]at r1;injection r1 with r1a r1b r1c
       subst r1a;subst r1c
       rcases r3 with⟨r3,_⟩|⟨b,off,c,sz2,t1,t2,t3,t4,_,t5,_⟩
       ·subst r3;simp only[List.length_nil]at*
        have e5:(hv.getD ((0:Nat):Int)).toNat-(l.getD 0).toNat=0:=by omega
        rw[e5];simp only[List.drop_nil,List.take_nil,aJ];exact⟨_,_,rfl,by simp,.inl ⟨trivial,trivial⟩⟩
       ·subst t1
        have hz:l.getD 0=0∨sz2=sz:=by
         rcases b3 with b3|b3
         ·exact .inl b3
         ·by_cases hr:rs=[]
          ·left;subst hr;simp only[List.length_nil]at b1 b2;omega
          ·right;obtain⟨r,ri⟩:=List.exists_mem_of_ne_nil _ hr;rw[←t4 r ri,b3 r ri]
        have:=zq (k:=rs.length-(hv.getD rs.length).toNat) (l:=(l.getD 0).toNat) (h:=(hv.getD rs.length).toNat) (cap:=cap) t2 t3 t4 t5 (by omega) (by omega) q2
        have e2:(Option.map (fun x:Addr=>x.add ((l.getD 0).toNat*sz)) (some ⟨b,off,none⟩))=some ⟨b,off+(l.getD 0).toNat*sz2,none⟩:=by
         rw[Option.map_some,ig]
         rcases hz with hz|hz
         ·rw[hz];simp
         ·rw[hz]
        rw[e2];simpa using this
     ·simp only[beq_eq_false_iff_ne.2 aY];trivial
   ·exact wO h bm bd ho ht dZ hL hH h1
end
end Go.Am
end
