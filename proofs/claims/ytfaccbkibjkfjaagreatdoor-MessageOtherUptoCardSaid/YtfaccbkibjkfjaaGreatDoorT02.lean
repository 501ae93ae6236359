import Derived.Great.FillDense
import Derived.Laws.BytesString
import Derived.Test.YtfaccbkibjkfjaaGreatDoorT01
set_option linter.all false
set_option maxRecDepth 100000
set_option maxHeartbeats 1000000
section
namespace Go.Am
section
variable {S:Nat→Prop} {w:World} {ρ:AV→Value→Prop}
theorem bB.eD:∀{xs:List AV} {vs:List Value} {c:Array Value} {o:Nat},au S w ρ xs vs→(∀j v,vs[j]? =some v→c[o+j]? =some v)→bB S w ρ xs c o
 |[],_,_,_,_,_=>by simp only[bB]
 |x::xs,vs,c,o,h,hc=>by
  simp only[au]at h;obtain⟨v,r,rfl,h1,h2⟩:=h;simp only[bB];refine⟨⟨v,by simpa using hc 0 v rfl,h1⟩,bB.eD h2 fun j u hj=>?_⟩;rw[show o+1+j=o+(j+1) by omega];exact hc (j+1) u (by simpa using hj)
theorem bB.append:∀{xs ys:List AV} {c:Array Value} {o:Nat},bB S w ρ xs c o→bB S w ρ ys c (o+xs.length)→bB S w ρ (xs++ys) c o
 |[],_,_,_,_,h=>by simpa using h
 |x::xs,ys,c,o,h,h'=>by
  simp only[bB]at h;simp only[qaN,bB];refine⟨h.1,bB.append h.2 ?_⟩;rw[show o+1+xs.length=o+(x::xs).length by simp;omega];exact h'
theorem bB.move:∀{xs:List AV} {c c':Array Value} {o o':Nat},bB S w ρ xs c o→(∀j,j<xs.length→c'[o'+j]? =c[o+j]?)→bB S w ρ xs c' o'
 |[],_,_,_,_,_,_=>by simp only[bB]
 |x::xs,c,c',o,o',h,he=>by
  simp only[bB]at h ⊢;obtain⟨⟨v,hv,h1⟩,h2⟩:=h;refine⟨⟨v,?_,h1⟩,bB.move h2 fun j hj=>?_⟩
  ·have:=he 0 (by simp);simpa[hv]using this
  ·have:=he (j+1) (by simp;omega);rw[show o'+1+j=o'+(j+1) by omega,show o+1+j=o+(j+1) by omega];exact this
theorem dm.move:∀{xs:List PV} {c c':Array Value} {o o':Nat},dm S w xs c o→(∀j,j<xs.length→c'[o'+j]? =c[o+j]?)→dm S w xs c' o'
 |[],_,_,_,_,_,_=>by simp only[dm]
 |x::xs,c,c',o,o',h,he=>by
  simp only[dm]at h ⊢;obtain⟨⟨v,hv,h1⟩,h2⟩:=h;refine⟨⟨v,?_,h1⟩,dm.move h2 fun j hj=>?_⟩
  ·have:=he 0 (by simp);simpa[hv]using this
  ·have:=he (j+1) (by simp;omega);rw[show o'+1+j=o'+(j+1) by omega,show o+1+j=o+(j+1) by omega];exact this
theorem dm.eD:∀{xs:List PV} {vs:List Value} {c:Array Value} {o:Nat},aM S w xs vs→(∀j v,vs[j]? =some v→c[o+j]? =some v)→dm S w xs c o
 |[],_,_,_,_,_=>by simp only[dm]
 |x::xs,vs,c,o,h,hc=>by
  simp only[aM]at h;obtain⟨v,r,rfl,h1,h2⟩:=h;simp only[dm];refine⟨⟨v,by simpa using hc 0 v rfl,h1⟩,dm.eD h2 fun j u hj=>?_⟩;rw[show o+1+j=o+(j+1) by omega];exact hc (j+1) u (by simpa using hj)
end
section
variable {S:Nat→Prop} {w:World}
theorem dm.append:∀{xs ys:List PV} {c:Array Value} {o:Nat},dm S w xs c o→dm S w ys c (o+xs.length)→dm S w (xs++ys) c o
 |[],_,_,_,_,h=>by simpa using h
 |x::xs,ys,c,o,h,h'=>by
  simp only[dm]at h;simp only[qaN,dm];refine⟨h.1,dm.append h.2 ?_⟩;rw[show o+1+xs.length=o+(x::xs).length by simp;omega];exact h'
theorem bM.lV:∀{rs:List (List PV)} {c:Array Value} {o sz:Nat},aK sz rs→(∀i,i<rs.length→dm S w (rs.getD i []) c (o+i*sz))→bM S w rs c o
 |[],_,_,_,_,_=>by simp only[bM]
 |r::rs,c,o,sz,hl,h=>by
  simp only[bM];refine⟨by simpa using h 0 (by simp),?_⟩;rw[hl r qaz]
  refine bM.lV (fun x hx=>hl x (qaE _ hx)) fun i hi=>?_
  have:=h (i+1) (by simpa using hi);rw[show o+sz+i*sz=o+(i+1)*sz by rw[qaS,qbt];omega];simpa using this
theorem bM.rows:∀{rs:List (List PV)} {c:Array Value} {o sz j:Nat},aK sz rs→bM S w rs c o→j<rs.length→dm S w (rs.getD j []) c (o+j*sz)
 |[],_,_,_,_,_,_,hj=>by simp at hj
 |r::rs,c,o,sz,0,_,hr,_=>by simp only[bM]at hr;simpa using hr.1
 |r::rs,c,o,sz,j+1,hl,hr,hj=>by
  simp only[bM]at hr;have:=bM.rows (j:=j) (fun x hx=>hl x (qaE _ hx)) hr.2 (by simpa using hj);have hs:r.length=sz:=hl r qaz;rw[hs]at this;rw[show o+(j+1)*sz=o+sz+j*sz by rw[qaS,qbt];omega];simpa using this
theorem sP {i j sz k:Nat} (h:i<j) (hk:k<sz):i*sz+k<j*sz:=by
 have:(i+1)*sz≤j*sz:=qaL _ h;rw[qaS,qbt]at this;omega
theorem bM.set {rs:List (List PV)} {c c':Array Value} {sz j off:Nat} {ys:List PV} {vs:List Value} (hl:aK sz rs) (hr:bM S w rs c 0) (hj:j<rs.length) (hle:off+ys.length≤sz)
  (hy:aM S w ys vs) (hc:∀k,c'[k]? =if j*sz+off≤k∧k<j*sz+off+ys.length then vs[k-(j*sz+off)]? else c[k]?):
  aK sz (rs.set j (jL off ys (rs.getD j [])))∧bM S w (rs.set j (jL off ys (rs.getD j []))) c' 0:=by
 have bK:(rs.getD j []).length=sz:=by
  rw[qab,qag hj];exact hl _ (qaf _)
 have ae6:(jL off ys (rs.getD j [])).length=sz:=by simp only[jL,qal,qaT,qbH,bK];omega
 have bS:aK sz (rs.set j (jL off ys (rs.getD j []))):=by
  intro r ni
  rcases List.mem_or_eq_of_mem_set ni with h|h
  ·exact hl r h
  ·rw[h];exact ae6
 have rB:=aM.length hy;refine⟨bS,bM.lV bS fun i hi=>?_⟩;rw[qaA]
 have gQ:i<rs.length:=by simpa using hi
 by_cases ot:i=j
 ·subst ot
  have e:(rs.set i (jL off ys (rs.getD i []))).getD i []=jL off ys (rs.getD i []):=by simp[qab,gQ]
  rw[e];have h0:=bM.rows hl hr gQ;rw[qaA]at h0
  have ht:(List.take off (rs.getD i [])).length=off:=by simp only[qaT,bK];omega
  unfold jL;refine dm.append (dm.append ?_ ?_) ?_
  ·refine dm.move (h0.take off) fun k hk=>?_
   rw[ht]at hk;rw[hc,qai (by omega)]
  ·refine dm.eD hy fun k v hk=>?_
   have eR:k<ys.length:=by have:=(qat.1 hk).1;omega
   rw[ht,hc,qao (by omega),show i*sz+off+k-(i*sz+off)=k by omega];exact hk
  ·refine dm.move (h0.drop (off+ys.length)) fun k hk=>?_
   have e2:(List.take off (rs.getD i [])++ys).length=off+ys.length:=by simp only[qal,ht]
   rw[e2,hc,qai (by omega)]
 ·have e:(rs.set j (jL off ys (rs.getD j []))).getD i []=rs.getD i []:=by
   simp[qab,qbF (qbN ot)]
  rw[e];have h0:=bM.rows hl hr gQ;rw[qaA]at h0
  have V9:(rs.getD i []).length=sz:=by
   rw[qab,qag gQ];exact hl _ (qaf _)
  refine dm.move h0 fun k hk=>?_
  rw[V9]at hk;rw[hc,qai ?_]
  rcases Nat.lt_or_gt_of_ne ot with h1|h1
  ·have:=sP h1 hk;omega
  ·have h3:(j+1)*sz≤i*sz:=qaL _ h1;rw[qaS,qbt]at h3;omega
end
section
variable {S:Nat→Prop} {w:World} {ρ:AV→Value→Prop}
theorem bU.lV:∀{rs:List (List AV)} {c:Array Value} {o sz:Nat},(∀r∈rs,r.length=sz)→(∀i,i<rs.length→bB S w ρ (rs.getD i []) c (o+i*sz))→bU S w ρ rs c o
 |[],_,_,_,_,_=>by simp only[bU]
 |r::rs,c,o,sz,hl,h=>by
  simp only[bU];refine⟨by simpa using h 0 (by simp),?_⟩;rw[hl r qaz]
  refine bU.lV (fun x hx=>hl x (qaE _ hx)) fun i hi=>?_
  have:=h (i+1) (by simpa using hi);rw[show o+sz+i*sz=o+(i+1)*sz by rw[qaS,qbt];omega];simpa using this
theorem bU.set {rs:List (List AV)} {c c':Array Value} {sz j off:Nat} {ys:List AV} {vs:List Value} (hl:∀r∈rs,r.length=sz) (hr:bU S w ρ rs c 0) (hj:j<rs.length) (hle:off+ys.length≤sz)
  (hy:au S w ρ ys vs) (hc:∀k,c'[k]? =if j*sz+off≤k∧k<j*sz+off+ys.length then vs[k-(j*sz+off)]? else c[k]?):
  (∀r∈rs.set j (place off ys (rs.getD j [])),r.length=sz)∧bU S w ρ (rs.set j (place off ys (rs.getD j []))) c' 0:=by
 have bK:(rs.getD j []).length=sz:=by
  rw[qab,qag hj];exact hl _ (qaf _)
 have ae6:(place off ys (rs.getD j [])).length=sz:=by simp only[place,qal,qaT,qbH,bK];omega
 have bS:∀r∈rs.set j (place off ys (rs.getD j [])),r.length=sz:=by
  intro r ni
  rcases List.mem_or_eq_of_mem_set ni with h|h
  ·exact hl r h
  ·rw[h];exact ae6
 have rB:=au.length hy;refine⟨bS,bU.lV bS fun i hi=>?_⟩;rw[qaA]
 have gQ:i<rs.length:=by simpa using hi
 by_cases ot:i=j
 ·subst ot
  have e:(rs.set i (place off ys (rs.getD i []))).getD i []=place off ys (rs.getD i []):=by simp[qab,gQ]
  rw[e];have h0:=bU.row hl hr gQ;rw[qaA]at h0
  have ht:(List.take off (rs.getD i [])).length=off:=by simp only[qaT,bK];omega
  unfold place;refine bB.append (bB.append ?_ ?_) ?_
  ·refine bB.move (h0.take off) fun k hk=>?_
   rw[ht]at hk;rw[hc,qai (by omega)]
  ·refine bB.eD hy fun k v hk=>?_
   have eR:k<ys.length:=by have:=(qat.1 hk).1;omega
   rw[ht,hc,qao (by omega),show i*sz+off+k-(i*sz+off)=k by omega];exact hk
  ·refine bB.move (h0.drop (off+ys.length)) fun k hk=>?_
   have e2:(List.take off (rs.getD i [])++ys).length=off+ys.length:=by simp only[qal,ht]
   rw[e2,hc,qai (by omega)]
 ·have e:(rs.set j (place off ys (rs.getD j []))).getD i []=rs.getD i []:=by
   simp[qab,qbF (qbN ot)]
  rw[e];have h0:=bU.row hl hr gQ;rw[qaA]at h0
  have V9:(rs.getD i []).length=sz:=by
   rw[qab,qag gQ];exact hl _ (qaf _)
  refine bB.move h0 fun k hk=>?_
  rw[V9]at hk;rw[hc,qai ?_]
  rcases Nat.lt_or_gt_of_ne ot with h1|h1
  ·have:=sP h1 hk;omega
  ·have h3:(j+1)*sz≤i*sz:=qaL _ h1;rw[qaS,qbt]at h3;omega
end
section
variable {P:Program} {w0:World} {own0:Nat→Prop} {hvs:List Value×List Deferred} {G:Nat→Option (List PV)} {S0:Nat→Prop} {accs:List Nat}
 {γ:Nat→Option Nat} {S:Nat→Prop} {st:St} {a:Act} {w:World} {o:Oper} {kn:Nat}
 (h:dW w0 own0 hvs G γ S st a w) (bg:∀b,S0 b→S b) (Cy:∀b,S b→S0 b∨w0.heap.size≤b∨own0 b)
include h bg Cy
theorem xQ:∀{cs:List AV} {ps:List PV} {vs:List Value},AV.lQ cs=some ps→au S w (Ref γ S w st.mem) cs vs→aM S w ps vs:=by
 intro cs ps vs h1 h2
 have hr:lF S w (Ref γ S w st.mem) (.agg cs) (.agg vs.toArray):=by simp only[lF];exact⟨vs,rfl,h2⟩
 have:=fE (γ:=γ) (st:=st) (.agg cs) (p:=.agg ps) (by simp only[AV.flat,h1]) hr;simp only[aD]at this;obtain⟨us,he,hl⟩:=this
 have:vs=us:=by simpa using he
 rw[this];exact hl
omit h bg Cy in
theorem nv {t:TypeId} {x y:Operand} {n:Nat} {b off:Nat} {c:Array Value} {e:TypeId} (ho:o.op=.store t x y) (hn:dK P t=some n)
  (hx:a.eval x=.pointer (some ⟨b,off,none⟩)) (hb:w.heap[b]? =some (.cells c e (0,0))) {vs:List Value} (hv:(a.eval y).cells.toList=vs) (hlen:vs.length=n) (hle:off+n≤c.size)
  (oq:∀v∈vs,v.oneCell'=true):
  ∃(w':World) (c':Array Value),(execOp a.eval o).run P w=.ok .skip w'∧w'.heap[b]? =some (.cells c' e (0,0))∧c'.size=c.size∧
   (∀j,c'[j]? =if off≤j∧j<off+n then vs[j-off]? else c[j]?)∧
   (∀k,k≠b→w'.heap[k]? =w.heap[k]?)∧w'.heap.size=w.heap.size∧w'.os=w.os∧w'.tape=w.tape∧w'.output=w.output:=by
 obtain⟨w',c',h1,h2,h3,h4,h5⟩:=oK (P:=P) (e:=e) vs 0 off c w hb (by simpa[hlen]using hle) oq;refine⟨w',c',?_,h2,h3,fun j=>by simpa[hlen]using h4 j,h5⟩
 have dH:(a.eval y).cells.size=n:=by rw[←hlen,←hv];simp
 simp only[execOp,ho,hx,Instr.storeAt,Instr.sureAddr,Sem.run_bind,Sem.run_pure,Result.andThen_ok,storeVar,run_sizeOf hn,dH,ne_eq,qa5,qaW,hv];rw[h1];rfl
omit h bg Cy in
theorem oL {ρ:AV→Value→Prop} (hρ:va ρ):∀{xs:List AV} {vs:List Value},kE xs=true→au S w ρ xs vs→∀v∈vs,v.oneCell'=true
 |[],_,_,h=>by simp only[au]at h;subst h;simp
 |x::xs,vs,h1,h=>by
  simp only[au]at h;obtain⟨v,r,rfl,h2,h3⟩:=h;simp only[kE]at h1;split at h1
  ·rename_i hx;intro u hu;simp only[qam]at hu
   rcases hu with rfl|hu
   ·exact lF.one hρ hx h2
   ·exact oL hρ h1 h3 u hu
  ·cases h1
omit h bg Cy in
theorem Db {off:Nat} {ys cs r:List AV} {t:TypeId} (ho:kE ys=true) (h:place off ys cs=.iU t::r):∃r',cs=.iU t::r':=by
 have hy:∀y q,ys=y::q→y≠.iU t:=by
  intro y q e hyt;subst e;subst hyt;simp[kE,AV.one]at ho
 unfold place at h
 cases off with
 |zero=>
  cases ys with
  |nil=>exact⟨r,by simpa using h⟩
  |cons y q=>simp at h;exact absurd h.1 (hy y q rfl)
 |succ k=>
  cases cs with
  |nil=>
   cases ys with
   |nil=>simp at h
   |cons y q=>simp at h;exact absurd h.1 (hy y q rfl)
  |cons c q=>simp at h;exact⟨q,by rw[h.1]⟩
theorem Xm {t:TypeId} {x y:Operand} {x' y':bR} {n:Nat} (ho:o.op=.store t x y) (hn:dK P t=some n) (hx:aZ G x=some x') (hy:aZ G y=some y'):
  cj P w0 own0 hvs G S0 o a w st kn γ S (KA aF kn (.st x' y' n) st.ev):=by
 simp only[KA,rq];have h1:=h.fR hx;have h2:=h.fR hy;split
 ·rename_i id off bZ;rw[bZ]at h1;simp only[lF,Ref]at h1;intro ob bL;simp only[bL]at h1
  cases ob with
  |rows sz rs bq=>trivial
  |eO rs bq=>trivial
  |cg=>trivial
  |map=>trivial
  |iw=>trivial
  |fz=>trivial
  |cL=>trivial
  |eu=>trivial
  |cells cs=>
   simp only;split
   ·rename_i jH;split
    ·rename_i jI;obtain⟨hlen,hle⟩:=jI;obtain⟨b,hb,he⟩:=h1;obtain⟨b',c,e,fP,hc,dH,hr,xR⟩:=h.mem id _ bL;rw[hb]at fP;cases fP;have fK:=lF.cells (jX γ st.mem) jH h2;have K3:=au.length fK;obtain⟨w',c',bN,oA,wR,pH,hk,eY,Gx,Gy,om⟩:=nv (P:=P) ho hn he hc rfl (K3.trans hlen) (by omega) (oL (jX γ st.mem) jH fK);have key:=dW.lg h bL hb hk eY Gx Gy om (ob':=.cells (place off (st.ev y').cells cs))
      (fun z v hz hv=>by
       cases z<;>simp only[bI,qaa,reduceCtorEq]at hz<;>subst hz<;>simp only[Ref,bL]at hv
       ·simp only[Ref,St.aq,uQ (bT bL),qax];exact hv)
      (fun hρ hl=>by
       refine⟨b,c',e,hb,oA,?_,?_,fun t r he=>by obtain⟨r',ni⟩:=Db jH he;exact xR t r' ni⟩
       ·simp[place,wR,dH,hlen];omega
       ·have bO:(List.take off cs).length=off:=by simp;omega
        refine bB.append (bB.append ?_ ?_) ?_
        ·refine bB.move ((bB.later hl hρ hr).take off) fun j hj=>?_
         rw[pH,qai (by omega)]
        ·refine bB.eD (au.later hl hρ _ fK) fun j v hj=>?_
         have A2:j<n:=by
          have:=(qat.1 hj).1;rw[K3,hlen]at this;exact this
         rw[bO,pH,qao (by omega),show 0+off+j-off=j by omega];exact hj
        ·have:=(bB.later hl hρ hr).drop (off+n);rw[hlen]
         refine bB.move this fun j hj=>?_
         rw[pH,qai (by simp[hlen];omega)];simp[hlen]
         congr 1;omega)
     exact⟨undef,w',γ,S,.inr ⟨bN,rfl⟩,bg,Cy,key.1,by simp only[lF]⟩
    ·trivial
   ·trivial
 ·rename_i id bq j off bZ
  cases jH:kE (st.ev y').cells with
  |false=>trivial
  |true=>
   simp only;rw[bZ]at h1;simp only[lF,Ref]at h1;intro ob bL;simp only[bL]at h1
   cases ob with
   |cells cs=>trivial
   |eO rs bq=>trivial
   |map=>trivial
   |iw=>trivial
   |fz=>trivial
   |cL=>trivial
   |eu=>trivial
   |cg sz rs bm=>
    simp only
    by_cases hv:bq=bm
    ·subst hv;simp only[qau];split
     ·rename_i jI;obtain⟨hlen,hle⟩:=jI;obtain⟨b,hb,he,tC,hj⟩:=h1.2 rfl;obtain⟨c,e,hc,dH,bS,hr⟩:=kf hb (h.mem id _ bL)
      have A2:j.toNat<rs.length:=by omega
      have fK:=lF.cells (jX γ st.mem) jH h2;have K3:=au.length fK
      have LA:j.toNat*sz+off+n≤c.size:=by
       have:(j.toNat+1)*sz≤rs.length*sz:=qaL _ A2;rw[qaS,qbt]at this;omega
      obtain⟨w',c',bN,oA,wR,pH,hk,eY,Gx,Gy,om⟩:=nv (P:=P) ho hn he hc rfl (K3.trans hlen) LA (oL (jX γ st.mem) jH fK);have key:=dW.lg h bL hb hk eY Gx Gy om (ob':=.cg sz (aF.Lq rs j off (st.ev y').cells) bq)
       (fun z v hz hv=>by
        cases z with
        |c8 i2 v2=>
         simp only[bI,qaa]at hz;subst hz;simp only[Ref,bL]at hv;simp only[Ref,St.aq,uQ (bT bL),qax,aF,qb6];refine⟨hv.1,fun e2=>?_⟩;obtain⟨a1,cap,q1,q2,q3⟩:=hv.2 e2;refine⟨a1,cap,q1,q2,q3.imp (fun h=>h) ?_⟩;rintro⟨b1,c1,r1,r2,r3,r4⟩;rw[hb]at r1;cases r1;simp only[At,hc,qaa]at r3;subst r3;exact⟨b,c',hb,r2,by simp[At,oA],wR.trans r4⟩
        |cR i2 v2 j2 o2=>
         simp only[bI,qaa]at hz;subst hz;simp only[Ref,bL]at hv;simp only[Ref,St.aq,uQ (bT bL),qax,aF,qb6];exact hv
        |ptr i2 o2=>
         simp only[bI,qaa]at hz;subst hz;simp only[Ref,bL]at hv
        |dt i2=>
         simp only[bI,qaa]at hz;subst hz;simp only[Ref,bL]at hv
        |eT i2 o2=>
         simp only[bI,qaa]at hz;subst hz;simp only[Ref,bL]at hv
        |_=>simp[bI]at hz)
       (fun hρ hl=>by
        obtain⟨g1,g2⟩:=bU.set (off:=off) bS (bU.later hl hρ hr) A2 (by omega) (au.later hl hρ _ fK) (fun k=>by rw[hlen];exact pH k)
        exact .inr ⟨b,c',e,hb,oA,by simp only[aF,qb6,wR];exact dH,by simpa only[aF]using g1,by simpa only[aF]using g2⟩)
      exact⟨undef,w',γ,S,.inr ⟨bN,rfl⟩,bg,Cy,key.1,by simp only[lF]⟩
     ·trivial
    ·simp only[qar.2 hv];trivial
   |rows sz rs bm=>
    simp only
    cases xS:AV.lQ (st.ev y').cells with
    |none=>trivial
    |some ys=>
    simp only
    by_cases hv:bq=bm
    ·subst hv;simp only[qau];split
     ·rename_i jI;obtain⟨hlen,hle⟩:=jI;obtain⟨b,hb,he,tC,hj⟩:=h1.2 rfl;obtain⟨c,e,hc,dH,bS,hr⟩:=rows_block hb (h.mem id _ bL)
      have A2:j.toNat<rs.length:=by omega
      have fK:=lF.cells (jX γ st.mem) jH h2;have K3:=au.length fK;have hL:=xQ h bg Cy xS fK
      have Xn:(st.ev y').cells.length=n:=by rw[←K3,aM.length hL,hlen]
      have LA:j.toNat*sz+off+n≤c.size:=by
       have:(j.toNat+1)*sz≤rs.length*sz:=qaL _ A2;rw[qaS,qbt]at this;omega
      obtain⟨w',c',bN,oA,wR,pH,hk,eY,Gx,Gy,om⟩:=nv (P:=P) ho hn he hc rfl (K3.trans Xn) LA (oL (jX γ st.mem) jH fK);have key:=dW.lg h bL hb hk eY Gx Gy om (ob':=.rows sz (aF.Gt rs j off ys) bq)
       (fun z v hz hv=>by
        cases z with
        |c8 i2 v2=>
         simp only[bI,qaa]at hz;subst hz;simp only[Ref,bL]at hv;simp only[Ref,St.aq,uQ (bT bL),qax,aF,qb6];refine⟨hv.1,fun e2=>?_⟩;obtain⟨a1,cap,q1,q2,q3⟩:=hv.2 e2;refine⟨a1,cap,q1,q2,q3.imp (fun h=>h) ?_⟩;rintro⟨b1,c1,r1,r2,r3,r4⟩;rw[hb]at r1;cases r1;simp only[At,hc,qaa]at r3;subst r3;exact⟨b,c',hb,r2,by simp[At,oA],wR.trans r4⟩
        |cR i2 v2 j2 o2=>
         simp only[bI,qaa]at hz;subst hz;simp only[Ref,bL]at hv;simp only[Ref,St.aq,uQ (bT bL),qax,aF,qb6];exact hv
        |ptr i2 o2=>
         simp only[bI,qaa]at hz;subst hz;simp only[Ref,bL]at hv
        |dt i2=>
         simp only[bI,qaa]at hz;subst hz;simp only[Ref,bL]at hv
        |eT i2 o2=>
         simp only[bI,qaa]at hz;subst hz;simp only[Ref,bL]at hv
        |_=>simp[bI]at hz)
       (fun hρ hl=>by
        obtain⟨g1,g2⟩:=bM.set (off:=off) bS (bM.later hl rs hr) A2 (by omega) (aM.later hl ys hL) (fun k=>by rw[hlen];exact pH k)
        exact .inr ⟨b,c',e,hb,oA,by simp only[aF,qb6,wR];exact dH,by simpa only[aF]using g1,by simpa only[aF]using g2⟩)
      exact⟨undef,w',γ,S,.inr ⟨bN,rfl⟩,bg,Cy,key.1,by simp only[lF]⟩
     ·trivial
    ·simp only[qar.2 hv];trivial
 ·trivial
end
end Go.Am
end
section
namespace Go.Am
section
variable {P:Program} {S:Nat→Prop} {w:World}
theorem tE {ρ:AV→Value→Prop} {v:Value} {p:PV} (h:k9 v=some p):lF S w ρ p.laid v:=by
 have hr:aD S w p v:=qO h;unfold PV.laid;split
 ·unfold k9 at h
  split at h<;>first|(simp at h;done)|skip
  ·simp only[lF];exact⟨none,rfl,.inl trivial⟩
  ·split at h<;>simp at h
 ·simpa only[lF]using hr
theorem rC {ρ:AV→Value→Prop}:∀{vs:List Value} {ps:List PV},jx vs=some ps→au S w ρ (ps.map PV.laid) vs
 |[],ps,h=>by simp only[jx,qaa]at h;subst h;simp only[qaF,au]
 |v::r,ps,h=>by
  simp only[jx]at h
  cases h1:k9 v with
  |none=>simp[h1]at h
  |some p=>
   cases h2:jx r with
   |none=>simp[h1,h2]at h
   |some q=>
    simp only[h1,h2,qaa]at h;subst h;simp only[qaj,au];exact⟨v,r,rfl,tE h1,rC h2⟩
theorem nw {ρ:AV→Value→Prop} {t:TypeId} {z:List PV} (h:gT P t=some z) {i:TypeInfo} {zv:Value} (hi:P.info? t=some i) (hz:i.zero=some zv):au S w ρ (z.map PV.laid) zv.cells.toList:=by
 unfold gT at h;simp only[hi,qbx,hz]at h
 cases hp:uh zv with
 |none=>simp[hp]at h
 |some p=>
  simp only[hp,qaM,qaa]at h;subst h;unfold uh at hp;split at hp
  ·rename_i cs;split at hp
   ·rename_i ps mE;simp only[qaa]at hp;subst hp;simpa only[PV.cells,Value.cells]using rC mE
   ·simp at hp
  ·have hl:=tE (S:=S) (w:=w) (ρ:=ρ) hp
   have oq:zv.oneCell'=true∧p.cells=[p]:=by
    unfold k9 at hp
    split at hp<;>first|(cases hp;exact⟨rfl,rfl⟩)|(split at hp<;>first|(cases hp;exact⟨rfl,rfl⟩)|(simp at hp;done))|(simp at hp;done)
   rw[pG oq.1,oq.2];simp only[qaj,qaF,au];exact⟨zv,[],rfl,hl,rfl⟩
theorem gV {t:TypeId} {z:List PV} (h:gT P t=some z):∃i zv,P.info? t=some i∧i.zero=some zv∧aM S w z zv.cells.toList∧(zeroValue t).run P w=.ok zv w:=by
 unfold gT at h
 cases hi:P.info? t with
 |none=>simp[hi]at h
 |some i=>
  cases hz:i.zero with
  |none=>simp[hi,hz]at h
  |some zv=>
   simp only[hi,qbx,hz]at h
   cases hp:uh zv with
   |none=>simp[hp]at h
   |some p=>
    simp only[hp,qaM,qaa]at h;subst h;refine⟨i,zv,rfl,hz,?_,?_⟩
    ·have hr:aD S w p zv:=u9 hp
     cases p with
     |agg ps=>simp only[aD]at hr;obtain⟨vs,rfl,hr⟩:=hr;simpa only[PV.cells,Value.cells]using hr
     |_=>
      have h1:zv.oneCell'=true:=by
       unfold uh at hp;split at hp
       ·split at hp<;>simp at hp
       ·unfold k9 at hp
        split at hp<;>first|rfl|(simp at hp;done)
      rw[pG h1];simp only[PV.cells,aM];exact⟨zv,[],rfl,hr,rfl⟩
    ·simp only[zeroValue,typeInfo,Sem.run_bind,run_program,Result.andThen_ok,hi,hz,Sem.run_pure]
theorem qg {α β:Type} (f:α→Sem β) (g:α→β):∀(l:List α),(∀x∈l,(f x).run P w=.ok (g x) w)→(l.mapM f).run P w=.ok (l.map g) w
 |[],_=>by simp only[List.mapM_nil,Sem.run_pure,qaF]
 |x::l,h=>by
  simp only[List.mapM_cons,Sem.run_bind,h x qaz,Result.andThen_ok,qg f g l (fun y hy=>h y (qaE _ hy)),Sem.run_pure,qaj]
theorem vb {α β:Type} (f:α→Sem β) (g:α→β) (xs:Array α) (h:∀x∈xs.toList,(f x).run P w=.ok (g x) w):(xs.mapM f).run P w=.ok (xs.map g) w:=by
 rw[Array.mapM_eq_mapM_toList];simp only[Sem.run_map,qg f g xs.toList h,Result.andThen_ok]
 congr 1
 apply Array.ext';simp
theorem A3 {ρ:AV→Value→Prop} {cs:List AV} {c:Array Value} {off:Nat} {xs:List AV} {vs:List Value} (hc:bB S w ρ cs c 0) (dH:c.size=cs.length) (hx:au S w ρ xs vs) (hle:off+xs.length≤cs.length):
  bB S w ρ (place off xs cs) ((vs.zipIdx).foldl (fun cs (x:Value×Nat)=>cs.setIfInBounds (off+x.2) x.1) c) 0∧
   ((vs.zipIdx).foldl (fun cs (x:Value×Nat)=>cs.setIfInBounds (off+x.2) x.1) c).size=(place off xs cs).length:=by
 obtain⟨h1,h2⟩:=Great.foldl_set off vs 0 c;have hl:=au.length hx;constructor
 ·have ht:(List.take off cs).length=off:=by simp only[qaT];omega
  refine bB.append (bB.append ?_ ?_) ?_
  ·refine bB.move (hc.take off) fun j hj=>?_
   rw[ht]at hj;rw[h2,qai (by omega)]
  ·refine bB.eD hx fun j v hj=>?_
   have A2:j<vs.length:=(qat.1 hj).1;rw[ht,h2,qao (by omega),show 0+off+j-(off+0)=j by omega];exact hj
  ·refine bB.move (hc.drop (off+xs.length)) fun j hj=>?_
   have e2:(List.take off cs++xs).length=off+xs.length:=by simp only[qal,ht]
   rw[e2,h2,qai (by omega)]
 ·rw[h1,dH];simp only[place,qal,qaT,qbH];omega
end
section
variable {P:Program} {w0:World} {own0:Nat→Prop} {hvs:List Value×List Deferred} {G:Nat→Option (List PV)} {S0:Nat→Prop} {accs:List Nat}
 {γ:Nat→Option Nat} {S:Nat→Prop} {st:St} {a:Act} {w:World} {o:Oper} {kn:Nat}
 (h:dW w0 own0 hvs G γ S st a w) (bg:∀b,S0 b→S b) (Cy:∀b,S b→S0 b∨w0.heap.size≤b∨own0 b)
include h bg Cy
theorem qP (Dc:Nat→Option (Nat×Nat)):∀(parts:List (Nat×Operand)) (ps:List (Nat×Nat×bR)) (cs:List AV) (c:Array Value) {Xo:List AV},
  parts.length=ps.length→(∀(k i:Nat) (x:Operand) (off n:Nat) (y:bR),parts[k]? =some (i,x)→ps[k]? =some (off,n,y)→Dc i=some (off,n)∧aZ G x=some y)→
  jt st.ev ps cs=some Xo→bB S w (Ref γ S w st.mem) cs c 0→c.size=cs.length→
  ∃c',Instr.fill Dc c (parts.map fun(i,x)=>(i,a.eval x))=some c'∧bB S w (Ref γ S w st.mem) Xo c' 0∧c'.size=Xo.length
 |[],[],cs,c,Xo,_,_,hm,hr,dH=>by
  simp only[jt,qaa]at hm;subst hm;exact⟨c,rfl,hr,dH⟩
 |(i,x)::parts,(off,n,y)::ps,cs,c,Xo,hl,hp,hm,hr,dH=>by
  obtain⟨xT,hy⟩:=hp 0 i x off n y rfl rfl;simp only[jt]at hm;split at hm
  ·rename_i oq;split at hm
   ·rename_i hle
    cases jH:kE (st.ev y).cells with
    |false=>rw[jH]at oq;cases oq
    |true=>
    rw[jH]at oq
    have hn:(st.ev y).cells.length=n:=by simpa using oq
    have Xp:off+n≤cs.length:=by simpa using hle
    have fK:=lF.cells (jX γ st.mem) jH (h.fR hy);have uy:=au.length fK
    have hvs:(a.eval x).cells.size=n:=by rw[←hn,←uy];simp
    obtain⟨k1,k2⟩:=A3 hr dH fK (off:=off) (by rw[hn];exact Xp);obtain⟨c',g1,g2,g3⟩:=qP Dc parts ps _ _ (by simpa using hl) (fun k i' x' o' n' y' h1 h2=>hp (k+1) i' x' o' n' y' (by simpa using h1) (by simpa using h2)) hm k1 k2;refine⟨c',?_,g2,g3⟩;simp only[qaj,Instr.fill,xT,hvs];rw[qai (by simp;omega)];rw[←g1]
    congr 1
    rw[←Array.foldl_toList,Array.toList_zipIdx]
   ·cases hm
  ·cases hm
 |[],_::_,_,_,_,hl,_,_,_,_=>by simp at hl
 |_::_,[],_,_,_,hl,_,_,_,_=>by simp at hl
theorem GB {t:TypeId} {r0:List PV} (ho:o.op=.alloc t) (hz:gT P t=some (.mh::r0)):
  cj P w0 own0 hvs G S0 o a w st kn γ S (KA aF kn (.sJ t (.mh::r0)) st.ev):=by
 intro hm bO;obtain⟨i,zv,hi,EO,hr,bN⟩:=gV (S:=S) (w:=w) hz
 have key:=dW.new h hm bO (.cells (.iU t::r0.map PV.laid)) zv.cells t (fun hρ hl=>by
  refine⟨w.heap.size,zv.cells,t,by simp[dp],heap_alloc_new,by have:=aM.length hr;simp at this;simp;omega,?_,fun t' r' he=>by injection he with h1 h2;injection h1⟩;refine bB.eD (vs:=zv.cells.toList) ?_ (fun j v hj=>by simpa using hj);have hl:=nw (S:=S) (w:=w.alloc (.cells zv.cells t)) (ρ:=Ref (dp γ kn (some w.heap.size)) S (w.alloc (.cells zv.cells t)) (st.aq kn (.cells (.iU t::r0.map PV.laid))).mem) hz hi EO
  simp only[qaj,au]at hl ⊢;obtain⟨v,r,he,h1,h2⟩:=hl
  exact⟨v,r,he,by simpa only[PV.laid,lF,aD]using h1,h2⟩)
 refine⟨.pointer (some ⟨w.heap.size,0,none⟩),w.alloc (.cells zv.cells t),_,S,.inl ?_,bg,Cy,key.1,?_⟩
 ·simp only[execOp,ho,Instr.alloc,Sem.run_bind,bN,Result.andThen_ok,newVar,newRow,run_newObj,Sem.run_pure,World.alloc_eq]
 ·simp only[lF,Ref,St.aq,uQ bO,qax];exact⟨w.heap.size,by simp[dp],rfl⟩
theorem H3 {t:TypeId} {z:List PV} (ho:o.op=.alloc t) (hz:gT P t=some z):
  cj P w0 own0 hvs G S0 o a w st kn γ S (KA aF kn (.alloc z) st.ev):=by
 intro hm bO;obtain⟨i,zv,hi,EO,hr,bN⟩:=gV (S:=S) (w:=w) hz
 have key:=dW.new h hm bO (.cells (z.map PV.laid)) zv.cells t (fun hρ hl=>by
  refine⟨w.heap.size,zv.cells,t,by simp[dp],heap_alloc_new,by simp[←aM.length hr],?_,fun t' r' he=>by
   cases z with
   |nil=>simp at he
   |cons p q=>simp only[qaj]at he;injection he with h1;unfold PV.laid at h1;split at h1<;>cases h1⟩
  exact bB.eD (nw hz hi EO) (fun j v hj=>by simpa using hj))
 refine⟨.pointer (some ⟨w.heap.size,0,none⟩),w.alloc (.cells zv.cells t),_,S,.inl ?_,bg,Cy,key.1,?_⟩
 ·simp only[execOp,ho,Instr.alloc,Sem.run_bind,bN,Result.andThen_ok,newVar,newRow,run_newObj,Sem.run_pure,World.alloc_eq]
 ·simp only[lF,Ref,St.aq,uQ bO,qax];exact⟨w.heap.size,by simp[dp],rfl⟩
theorem Ta {t:TypeId} {n:Nat} {x:Operand} {x':bR} (ho:o.op=.box t x) (hx:aZ G x=some x'):
  cj P w0 own0 hvs G S0 o a w st kn γ S (KA aF kn (.box x' n) st.ev):=by
 simp only[KA];split
 ·rename_i jH;split
  ·intro hm bO;have fK:=lF.cells (jX γ st.mem) jH (h.fR hx)
   have key:=dW.new h hm bO (.cells (st.ev x').cells) (a.eval x).cells t (fun hρ hl=>by
    refine⟨w.heap.size,(a.eval x).cells,t,by simp[dp],heap_alloc_new,by simp[←au.length fK],?_,fun t' r' he=>by rw[he]at jH;simp[kE,AV.one]at jH⟩
    exact bB.eD (au.later hl hρ _ fK) (fun j v hj=>by simpa using hj))
   refine⟨.pointer (some ⟨w.heap.size,0,none⟩),w.alloc (.cells (a.eval x).cells t),_,S,.inl ?_,bg,Cy,key.1,?_⟩
   ·simp only[execOp,ho,Instr.box,Sem.run_bind,Result.andThen_ok,newVar,newRow,run_newObj,Sem.run_pure,World.alloc_eq]
   ·simp only[lF,Ref,St.aq,uQ bO,qax];exact⟨w.heap.size,by simp[dp],rfl⟩
  ·trivial
 ·trivial
end
end Go.Am
end
section
namespace Go.Am
section
variable {P:Program} {w0:World} {own0:Nat→Prop} {hvs:List Value×List Deferred} {G:Nat→Option (List PV)} {S0:Nat→Prop} {accs:List Nat}
 {γ:Nat→Option Nat} {S:Nat→Prop} {st:St} {a:Act} {w:World} {o:Oper} {kn:Nat}
theorem tF {t:TypeId} {fs:Array Field} (ht:P.underlying t=some (.struct fs)):∀{parts:List (Nat×Operand)} {ps:List (Nat×Nat×bR)},qL P G t parts=some ps→
  parts.length=ps.length∧∀(k i:Nat) (x:Operand) (off n:Nat) (y:bR),parts[k]? =some (i,x)→ps[k]? =some (off,n,y)→
   (∃f,fs[i]? =some f∧f.offset=off∧dK P f.type=some n)∧aZ G x=some y
 |[],ps,h=>by simp only[qL,qaa]at h;subst h;simp
 |(i,x)::r,ps,h=>by
  simp only[qL]at h
  cases hf:qK P t i with
  |none=>simp[hf]at h
  |some f=>
   cases hn:dK P f.type with
   |none=>simp[hf,hn]at h
   |some n=>
    cases hx:aZ G x with
    |none=>simp[hf,hn,hx]at h
    |some y=>
     cases hr:qL P G t r with
     |none=>simp[hf,hn,hx,hr]at h
     |some qs=>
      simp only[hf,hn,hx,hr,qbx,qaM,qaa]at h;subst h;obtain⟨h1,h2⟩:=tF ht hr;refine⟨by simp[h1],fun k i' x' off n' y' hk eR=>?_⟩
      cases k with
      |zero=>
       simp only[qay,qaa,qas]at hk eR;obtain⟨rfl,rfl⟩:=hk;obtain⟨rfl,rfl,rfl⟩:=eR;refine⟨⟨f,?_,rfl,hn⟩,hx⟩;unfold qK at hf;rw[ht]at hf;exact hf
      |succ k=>exact h2 k i' x' off n' y' (by simpa using hk) (by simpa using eR)
theorem tG {n:Nat}:∀{parts:List (Nat×Operand)} {ps:List (Nat×Nat×bR)},qM G n parts=some ps→
  parts.length=ps.length∧∀(k i:Nat) (x:Operand) (off m:Nat) (y:bR),parts[k]? =some (i,x)→ps[k]? =some (off,m,y)→(i*n=off∧m=n)∧aZ G x=some y
 |[],ps,h=>by simp only[qM,qaa]at h;subst h;simp
 |(i,x)::r,ps,h=>by
  simp only[qM]at h
  cases hx:aZ G x with
  |none=>simp[hx]at h
  |some y=>
   cases hr:qM G n r with
   |none=>simp[hx,hr]at h
   |some qs=>
    simp only[hx,hr,qbx,qaM,qaa]at h;subst h;obtain⟨h1,h2⟩:=tG hr;refine⟨by simp[h1],fun k i' x' off n' y' hk eR=>?_⟩
    cases k with
    |zero=>
     simp only[qay,qaa,qas]at hk eR;obtain⟨rfl,rfl⟩:=hk;obtain⟨rfl,rfl,rfl⟩:=eR;exact⟨⟨rfl,rfl⟩,hx⟩
    |succ k=>exact h2 k i' x' off n' y' (by simpa using hk) (by simpa using eR)
variable (h:dW w0 own0 hvs G γ S st a w) (bg:∀b,S0 b→S b) (Cy:∀b,S b→S0 b∨w0.heap.size≤b∨own0 b)
include h bg Cy
theorem Tb {t:TypeId} {z:List PV} {fs:Array Field} {parts:Array (Nat×Operand)} {ps:List (Nat×Nat×bR)} (ho:o.op=.build t parts) (hz:gT P t=some z)
  (ht:P.underlying t=some (.struct fs)) (bS:(fs.toList.all fun f=>(P.info? f.type).isSome)=true) (mE:qL P G t parts.toList=some ps):
  cj P w0 own0 hvs G S0 o a w st kn γ S (KA aF kn (.mk z ps) st.ev):=by
 simp only[KA]
 cases hm:jt st.ev ps (z.map PV.laid)with
 |none=>trivial
 |some cs=>
  obtain⟨i,zv,hi,EO,hr,bN⟩:=gV (S:=S) (w:=w) hz;obtain⟨h1,h2⟩:=tF (G:=G) ht mE
  have xT:∀f∈fs.toList,(do pure (f.offset,←sizeOf f.type):Sem (Nat×Nat)).run P w=.ok (f.offset,(dK P f.type).getD 0) w:=by
   intro f hf;have:=qa1.1 bS f hf;obtain⟨inf,hinf⟩:=Option.isSome_iff_exists.1 this
   have dH:dK P f.type=some inf.size:=by simp[dK,hinf]
   simp only[Sem.run_bind,run_sizeOf dH,Result.andThen_ok,Sem.run_pure,dH,qbg]
  have LB:=vb (P:=P) (w:=w) (fun f:Field=>(do pure (f.offset,←sizeOf f.type):Sem (Nat×Nat))) (fun f=>(f.offset,(dK P f.type).getD 0)) fs xT;obtain⟨c',g1,g2,g3⟩:=qP h bg Cy (fun i=>(fs.map fun f=>(f.offset,(dK P f.type).getD 0))[i]?) parts.toList ps (z.map PV.laid) zv.cells h1
   (fun k i x off n y hk eR=>by
    obtain⟨⟨f,hf,Dd,hn⟩,hx⟩:=h2 k i x off n y hk eR;refine⟨?_,hx⟩
    simp[hf,Dd,hn]) hm (bB.eD (nw hz hi EO) (fun j v hj=>by simpa using hj)) (by simp[←aM.length hr])
  obtain⟨vs,q1,q2,q3⟩:=bB.list g2
  have hvs:vs=c'.toList:=by
   apply qdp
   intro j
   by_cases hj:j<vs.length
   ·have:=q3 j _ (qag hj);rw[qaA]at this;rw[qag hj,qbc,this]
   ·rw[qa0 (by omega),qa0 (by simp[g3];omega)]
  refine aG h bg Cy (u:=.agg c') ?_ (by simp only[lF];exact⟨c'.toList,by simp,hvs▸q1⟩);simp only[execOp,ho,Instr.build,Sem.run_bind,bN,Result.andThen_ok,run_underlying ht,LB,qcr];rw[g1];rfl
theorem Tc {t e:TypeId} {z:List PV} {m n:Nat} {parts:Array (Nat×Operand)} {ps:List (Nat×Nat×bR)} (ho:o.op=.build t parts) (hz:gT P t=some z)
  (ht:P.underlying t=some (.array m e)) (hn:dK P e=some n) (mE:qM G n parts.toList=some ps):
  cj P w0 own0 hvs G S0 o a w st kn γ S (KA aF kn (.mk z ps) st.ev):=by
 simp only[KA]
 cases hm:jt st.ev ps (z.map PV.laid)with
 |none=>trivial
 |some cs=>
  obtain⟨i,zv,hi,EO,hr,bN⟩:=gV (S:=S) (w:=w) hz;obtain⟨h1,h2⟩:=tG (G:=G) mE;obtain⟨c',g1,g2,g3⟩:=qP h bg Cy (fun i=>some (i*n,n)) parts.toList ps (z.map PV.laid) zv.cells h1
   (fun k i x off n' y hk eR=>by
    obtain⟨⟨Dd,hn⟩,hx⟩:=h2 k i x off n' y hk eR;subst Dd;subst hn
    exact⟨rfl,hx⟩) hm (bB.eD (nw hz hi EO) (fun j v hj=>by simpa using hj)) (by simp[←aM.length hr])
  obtain⟨vs,q1,q2,q3⟩:=bB.list g2
  have hvs:vs=c'.toList:=by
   apply qdp
   intro j
   by_cases hj:j<vs.length
   ·have:=q3 j _ (qag hj);rw[qaA]at this;rw[qag hj,qbc,this]
   ·rw[qa0 (by omega),qa0 (by simp[g3];omega)]
  refine aG h bg Cy (u:=.agg c') ?_ (by simp only[lF];exact⟨c'.toList,by simp,hvs▸q1⟩);simp only[execOp,ho,Instr.build,Sem.run_bind,bN,Result.andThen_ok,run_underlying ht,run_sizeOf hn,qcr];rw[g1];rfl
theorem Td {t:TypeId} {e:TypeId} {x:Operand} {x':bR} {c:Call} (ho:o.op=.call c) (hc:c.callee=.builtin .len) (ha:c.args=#[x]) (pY:c.argTypes=#[t])
  (ht:P.underlying t=some (.slice e)) (hx:aZ G x=some x'):
  cj P w0 own0 hvs G S0 o a w st kn γ S (KA aF kn (.len x') st.ev):=by
 have h1:=h.fR hx
 have bN:∀b n k,a.eval x=.slice b n k→(execOp a.eval o).run P w=.ok (.value (.int .i64 n)) w:=by
  intro b n k he;simp only[execOp,ho,resolve,hc,ha,pY,Sem.run_bind,Sem.run_pure,Result.andThen_ok,invoke,builtin];simp[he,Builtin.len_,run_underlying ht,goInt]
 simp only[KA,yX];split
 ·rename_i rows spare bZ;rw[bZ]at h1;simp only[lF,aD]at h1;obtain⟨b,k,he,_⟩:=h1;exact aG h bg Cy (bN b _ k he) (by simp only[lF,aD,aF])
 ·rename_i rows bZ;rw[bZ]at h1;simp only[lF]at h1;obtain⟨b,he,_⟩:=h1;exact aG h bg Cy (bN b _ _ he) (by simp only[lF,aD,aF])
 ·rename_i id bq bZ;rw[bZ]at h1;simp only[lF,Ref]at h1;intro ob bL;simp only[bL]at h1
  cases ob with
  |cells cs=>trivial
  |map=>trivial
  |iw=>trivial
  |fz=>trivial
  |cL t rs bm=>
   by_cases hv:bq=bm
   ·subst hv;simp only[qau];obtain⟨b,k,he,_⟩:=h1.2 rfl;exact aG h bg Cy (bN b _ k he) (by simp only[lF,aD,aF])
   ·simp only[qar.2 hv];trivial
  |eu=>trivial
  |rows sz rs bm=>
   by_cases hv:bq=bm
   ·subst hv;simp only[qau];obtain⟨b,k,he,_⟩:=h1.2 rfl;exact aG h bg Cy (bN b _ k he) (by simp only[lF,aD,aF])
   ·simp only[qar.2 hv];trivial
  |cg sz rs bm=>
   by_cases hv:bq=bm
   ·subst hv;simp only[qau];obtain⟨b,k,he,_⟩:=h1.2 rfl;exact aG h bg Cy (bN b _ k he) (by simp only[lF,aD,aF])
   ·simp only[qar.2 hv];trivial
  |eO rs bm=>
   by_cases hv:bq=bm
   ·subst hv;simp only[qau];have h2:=h1.2 rfl;simp only[aD]at h2;obtain⟨b,k,he,_⟩:=h2;exact aG h bg Cy (bN b _ k he) (by simp only[lF,aD,aF])
   ·simp only[qar.2 hv];trivial
 ·rename_i rows bZ;rw[bZ]at h1;simp only[lF]at h1;obtain⟨b,he,_⟩:=h1;exact aG h bg Cy (bN b _ _ he) (by simp only[lF,aD,aF])
 ·trivial
theorem LC {t:TypeId} {x:Operand} {x':bR} {c:Call} (ho:o.op=.call c) (hc:c.callee=.builtin .len) (ha:c.args=#[x]) (pY:c.argTypes=#[t])
  (ht:P.underlying t=some .string) (hx:aZ G x=some x'):
  cj P w0 own0 hvs G S0 o a w st kn γ S (KA aF kn (.lens x') st.ev):=by
 have h1:=h.fR hx;simp only[KA];split
 ·rename_i s bZ;rw[bZ]at h1;simp only[lF,aD]at h1;refine aG h bg Cy (u:=.int .i64 s.length) ?_ (by simp only[lF,aD,aF]);simp only[execOp,ho,resolve,hc,ha,pY,Sem.run_bind,Sem.run_pure,Result.andThen_ok,invoke,builtin]
  have hl:(Builtin.len_ #[t] o.type #[.string ⟨s.toArray⟩]).run P w=.ok (.int .i64 s.length) w:=by
   have e:∀v:Value,(Builtin.len_ #[t] o.type #[v]).run P w=((underlying t).run P w).andThen fun d w'=>(match d,v with
    |.string,.string s=>pure (goInt s.size)
    |_,_=>Builtin.len_ #[t] o.type #[v]).run P w':=by
    intro v;simp only[run_underlying ht,Result.andThen_ok]
    cases v<;>first|rfl|simp[Builtin.len_,run_underlying ht]
   rw[e,run_underlying ht];simp only[Result.andThen_ok,Sem.run_pure,goInt];rfl
  simp only[qb1,qaj,qaF,h1,hl,Result.andThen_ok]
 ·trivial
theorem Te {t e:TypeId} {x i:Operand} {x' i':bR} {sz:Nat} (ho:o.op=.indexAddr t x i) (ht:P.underlying t=some (.slice e)) (dH:dK P e=some sz) (hx:aZ G x=some x') (hi:aZ G i=some i'):
  cj P w0 own0 hvs G S0 o a w st kn γ S (KA aF kn (.idx x' i' sz) st.ev):=by
 have h1:=h.fR hx;have h2:=h.fR hi
 have bN:∀b off n k kk (j:Int),a.eval x=.slice (some ⟨b,off,none⟩) n k→a.eval i=.int kk j→0≤j→j<n→
   (execOp a.eval o).run P w=.ok (.value (.pointer (some ⟨b,off+j.toNat*sz,none⟩))) w:=by
  intro b off n k kk j he hj h0 h1;simp only[execOp,ho,he,hj,Instr.indexAt,asIntOf,Sem.run_bind,Sem.run_pure,Result.andThen_ok,run_underlying ht,h0,h1,and_self,qax,run_sizeOf dH,gU]
 simp only[KA];split
 ·rename_i k j kG;rw[kG]at h2;simp only[lF,aD]at h2;simp only[yW];split
  ·rename_i rows spare bZ;rw[bZ]at h1;simp only[lF,aD]at h1;rintro⟨tC,kD,mn⟩;obtain⟨a0,cap,he,fF,hd⟩:=h1
   rcases hd with⟨hd,_⟩|⟨b,off,c,lM,ha,hs,hc,bS,_,hr,_⟩
   ·subst hd;simp at kD;omega
   ·subst ha
    have ui:j.toNat<rows.length:=by omega
    have bK:=bM.rows bS hr ui
    have kQ:lM=sz:=by
     rw[←mn,qab,qag ui];exact(bS _ (qaf _)).symm
    subst kQ;refine aG h bg Cy (bN b off _ _ _ j he h2 tC kD) ?_;simp only[lF,aF];exact⟨b,off+j.toNat*lM,c,rfl,hs,hc,bK⟩
  ·rename_i rows bZ;rw[bZ]at h1;simp only[lF]at h1;rintro⟨tC,kD,mn⟩;obtain⟨a0,he,hd⟩:=h1
   rcases hd with hd|⟨b,off,c,lM,ha,hs,hc,bS,hr⟩
   ·subst hd;simp at kD;omega
   ·subst ha
    have ui:j.toNat<rows.length:=by omega
    have bK:=bM.rows bS hr ui
    have kQ:lM=sz:=by
     rw[←mn,qab,qag ui];exact(bS _ (qaf _)).symm
    subst kQ;refine aG h bg Cy (bN b off _ _ _ j he h2 tC kD) ?_;simp only[lF,aF];exact⟨b,off+j.toNat*lM,c,rfl,hs,hc,bK⟩
  ·rename_i id bq bZ;rw[bZ]at h1;simp only[lF,Ref]at h1;intro ob bL;simp only[bL]at h1
   cases ob with
   |cells cs=>trivial
   |map=>trivial
   |iw=>trivial
   |fz=>trivial
   |cL=>trivial
   |eu=>trivial
   |cg lM rs bm=>
    by_cases hv:bq=bm
    ·subst hv;simp only[qau];rintro⟨tC,kD,mn⟩
     have ui:j.toNat<rs.length:=by omega
     obtain⟨a0,cap,he,fF,hd⟩:=h1.2 rfl
     rcases hd with hd|⟨b,c,hb,ha,hc,hcs⟩
     ·omega
     ·subst ha;obtain⟨c1,e1,GD,Tf,bS,hr⟩:=kf hb (h.mem id _ bL)
      have kQ:lM=sz:=by
       rw[←mn,qab,qag ui];exact(bS _ (qaf _)).symm
      subst kQ;refine aG h bg Cy (bN b 0 _ _ _ j he h2 tC kD) ?_;simp only[lF,Ref,bL];exact⟨⟨qak _,rfl⟩,fun _=>⟨b,hb,by simp,tC,kD⟩⟩
    ·simp only[qar.2 hv];trivial
   |rows lM rs bm=>
    by_cases hv:bq=bm
    ·subst hv;simp only[qau];rintro⟨tC,kD,mn⟩
     have ui:j.toNat<rs.length:=by omega
     obtain⟨a0,cap,he,fF,hd⟩:=h1.2 rfl
     rcases hd with hd|⟨b,c,hb,ha,hc,hcs⟩
     ·omega
     ·subst ha;obtain⟨c1,e1,GD,Tf,bS,hr⟩:=rows_block hb (h.mem id _ bL)
      have kQ:lM=sz:=by
       rw[←mn,qab,qag ui];exact(bS _ (qaf _)).symm
      subst kQ;refine aG h bg Cy (bN b 0 _ _ _ j he h2 tC kD) ?_;simp only[lF,Ref,bL];exact⟨⟨qak _,rfl⟩,fun _=>⟨b,hb,by simp,tC,kD⟩⟩
    ·simp only[qar.2 hv];trivial
   |eO rs bm=>
    by_cases hv:bq=bm
    ·subst hv;simp only[qau];rintro⟨tC,kD,mn⟩
     have ui:j.toNat<rs.length:=by omega
     have h3:=h1.2 rfl;simp only[aD]at h3;obtain⟨a0,cap,he,fF,hd⟩:=h3
     rcases hd with⟨hd,_⟩|⟨b,off,c,lM,ha,hs,hc,bS,_,hr,_⟩
     ·subst hd;simp at kD;omega
     ·subst ha;have bK:=bM.rows bS hr ui
      have kQ:lM=sz:=by
       rw[←mn,qab,qag ui];exact(bS _ (qaf _)).symm
      subst kQ;refine aG h bg Cy (bN b off _ _ _ j he h2 tC kD) ?_;simp only[lF,Ref,bL];exact⟨⟨qak _,rfl⟩,fun _=>⟨b,off+j.toNat*lM,c,rfl,hs,hc,bK,tC,kD⟩⟩
    ·simp only[qar.2 hv];trivial
  ·trivial
 ·trivial
theorem Tg {x:Operand} {x':bR} (ho:o.op=.nilCheck x) (hx:aZ G x=some x'):
  cj P w0 own0 hvs G S0 o a w st kn γ S (KA aF kn (.Ws x') st.ev):=by
 have h1:=h.fR hx
 have hp:∀b,a.eval x=.pointer (some b)→(execOp a.eval o).run P w=.ok (.value (a.eval x)) w:=by
  intro b he;simp only[execOp,ho,he,Sem.run_pure]
 have hf:∀f v0 v,a.eval x=.func (.func f) v0 v→(execOp a.eval o).run P w=.ok (.value (a.eval x)) w:=by
  intro f v0 v he;simp only[execOp,ho,he,Sem.run_pure]
 simp only[KA];split
 ·rename_i id off bZ;have AA:=h1;rw[bZ]at h1;simp only[lF,Ref]at h1;split at h1
  ·obtain⟨b,hb,he⟩:=h1;exact aG h bg Cy (hp _ he) (bZ▸AA)
  ·obtain⟨b,hb,he⟩:=h1;exact aG h bg Cy (hp _ he) (bZ▸AA)
  ·obtain⟨b,hb,he⟩:=h1;exact aG h bg Cy (hp _ he) (bZ▸AA)
  ·exact h1.elim
 ·rename_i r off bZ;have AA:=h1;rw[bZ]at h1;simp only[lF]at h1;obtain⟨b,o',c,he,_⟩:=h1;exact aG h bg Cy (hp _ he) (bZ▸AA)
 ·rename_i f c bZ;have AA:=h1;rw[bZ]at h1;simp only[lF]at h1;obtain⟨vs,he,_⟩:=h1;exact aG h bg Cy (hf _ _ _ he) (bZ▸AA)
 ·rename_i f c bZ;have AA:=h1;rw[bZ]at h1;simp only[lF,aD]at h1;obtain⟨vs,he,_⟩:=h1;exact aG h bg Cy (hf _ _ _ he) (bZ▸AA)
 ·rename_i c bZ;have AA:=h1;rw[bZ]at h1;simp only[lF,aD]at h1;obtain⟨b,off,c',he,_⟩:=h1;exact aG h bg Cy (hp _ he) (bZ▸AA)
 ·rename_i f c bZ;have AA:=h1;rw[bZ]at h1;simp only[lF]at h1;obtain⟨vs,he,_⟩:=h1;exact aG h bg Cy (hf _ _ _ he) (bZ▸AA)
 ·rename_i id bq j off bZ;have AA:=h1;rw[bZ]at h1;simp only[lF,Ref]at h1;intro ob bL;simp only[bL]at h1
  cases ob with
  |rows sz rs bm=>
   by_cases hv:bq=bm
   ·subst hv;simp only[qau];obtain⟨b,hb,he,_⟩:=h1.2 rfl;exact aG h bg Cy (hp _ he) (bZ▸AA)
   ·simp only[qar.2 hv];trivial
  |cg sz rs bm=>
   by_cases hv:bq=bm
   ·subst hv;simp only[qau];obtain⟨b,hb,he,_⟩:=h1.2 rfl;exact aG h bg Cy (hp _ he) (bZ▸AA)
   ·simp only[qar.2 hv];trivial
  |_=>trivial
 ·trivial
end
end Go.Am
end
section
namespace Go.Am
section
variable {P:Program} {w:World}
theorem xU {x:Value} {k:IntKind} {i:Int} {y:Nat} {code:BoundsCode} (hx:x=.int k i) (h0:0≤i) (h1:i≤y):(Instr.sliceBound x y code).run P w=.ok i.toNat w:=by
 subst hx;exact run_sliceBound w k i y code h0 h1
theorem vd {isS:Bool} {len cap:Nat} {lo hi:Option Value} {l h:Option Int}
  (hl:(lo=none∧l=none)∨∃k n,lo=some (.int k n)∧l=some n) (hh:(hi=none∧h=none)∨∃k n,hi=some (.int k n)∧h=some n)
  (_hle:len≤cap) (h0:0≤l.getD 0) (h1:l.getD 0≤h.getD len) (h2:h.getD len≤cap):
  (Instr.sliceBounds isS len cap lo hi none).run P w=.ok ((l.getD 0).toNat,(h.getD len).toNat,cap) w:=by
 have hH:∀(c:BoundsCode),(match hi with|some v=>Instr.sliceBound v cap c|none=>pure len:Sem Nat).run P w=.ok (h.getD len).toNat w:=by
  intro c
  rcases hh with⟨rfl,rfl⟩|⟨k,n,rfl,rfl⟩
  ·simp
  ·exact xU rfl (by simp at*;omega) (by simpa using h2)
 have hL:∀(c:BoundsCode),(match lo with|some v=>Instr.sliceBound v (h.getD len).toNat c|none=>pure 0:Sem Nat).run P w=.ok (l.getD 0).toNat w:=by
  intro c
  rcases hl with⟨rfl,rfl⟩|⟨k,n,rfl,rfl⟩
  ·simp
  ·exact xU rfl (by simpa using h0) (by simp at*;omega)
 have e1:=hH (if isS then .sliceAcap else .sliceAlen);have e2:=hL .sliceB;unfold Instr.sliceBounds
 rcases hh with⟨rfl,rfl⟩|⟨k,n,rfl,rfl⟩
 ·simp only[Sem.run_bind,Sem.run_pure,Result.andThen_ok]at e1 e2 ⊢
  cases lo with
  |none=>simp only[Sem.run_pure]at e2 ⊢;injection e2 with e3;simp only[Result.andThen_ok,Option.getD_none];rw[←e3];rfl
  |some v=>simp at e2 ⊢;rw[e2];rfl
 ·simp only[Sem.run_bind,Sem.run_pure,Result.andThen_ok]at e1 e2 ⊢;rw[e1];simp only[Result.andThen_ok]
  cases lo with
  |none=>simp only[Sem.run_pure]at e2 ⊢;injection e2 with e3;rw[←e3];rfl
  |some v=>simp at e2 ⊢;rw[e2];rfl
end
section
variable {P:Program} {w0:World} {own0:Nat→Prop} {hvs:List Value×List Deferred} {G:Nat→Option (List PV)} {S0:Nat→Prop} {accs:List Nat}
 {γ:Nat→Option Nat} {S:Nat→Prop} {st:St} {a:Act} {w:World} {o:Oper} {kn:Nat}
theorem aD.cells {S:Nat→Prop} {w:World} {p:PV} {v:Value} (h:aD S w p v):aM S w p.cells v.cells.toList:=by
 cases p with
 |agg ps=>simp only[aD]at h;obtain⟨vs,rfl,h⟩:=h;simpa only[PV.cells,Value.cells]using h
 |_=>
  have e:v.cells=#[v]:=by
   simp only[aD]at h
   first
    |(subst h;rfl)
    |(obtain⟨_,rfl,_⟩:=h;rfl)
    |(obtain⟨_,_,rfl,_⟩:=h;rfl)
    |(obtain⟨_,_,_,rfl,_⟩:=h;rfl)
  rw[e];simp only[PV.cells,aM];exact⟨v,[],rfl,h,rfl⟩
theorem aM.append {S:Nat→Prop} {w:World}:∀{xs ys:List PV} {us vs:List Value},aM S w xs us→aM S w ys vs→aM S w (xs++ys) (us++vs)
 |[],_,_,_,h,h'=>by simp only[aM]at h;subst h;simpa using h'
 |x::xs,ys,us,vs,h,h'=>by
  simp only[aM]at h;obtain⟨v,r,rfl,h1,h2⟩:=h;simp only[qaN,aM];exact⟨v,r++vs,rfl,h1,aM.append h2 h'⟩
theorem au.append {S:Nat→Prop} {w:World} {ρ:AV→Value→Prop}:∀{xs ys:List AV} {us vs:List Value},au S w ρ xs us→au S w ρ ys vs→au S w ρ (xs++ys) (us++vs)
 |[],ys,us,vs,h,h'=>by simp only[au]at h;subst h;simpa using h'
 |x::xs,ys,us,vs,h,h'=>by
  simp only[au]at h;obtain⟨v,r,rfl,h1,h2⟩:=h;simp only[qaN,au];exact⟨v,r++vs,rfl,h1,au.append h2 h'⟩
theorem au.split {S:Nat→Prop} {w:World} {ρ:AV→Value→Prop}:∀{xs ys:List AV} {vs:List Value},au S w ρ (xs++ys) vs→∃u v,vs=u++v∧au S w ρ xs u∧au S w ρ ys v
 |[],ys,vs,h=>⟨[],vs,rfl,by simp only[au],h⟩
 |x::xs,ys,vs,h=>by
  simp only[qaN,au]at h;obtain⟨v,r,rfl,h1,h2⟩:=h;obtain⟨u,v',rfl,h3,h4⟩:=au.split h2;exact⟨v::u,v',rfl,by simp only[au];exact⟨v,u,rfl,h1,h3⟩,h4⟩
theorem bU.of_flat {S:Nat→Prop} {w:World} {ρ:AV→Value→Prop}:∀{rs:List (List AV)} {vs:List Value} {c:Array Value} {o:Nat},au S w ρ rs.flatten vs→(∀j v,vs[j]? =some v→c[o+j]? =some v)→bU S w ρ rs c o
 |[],_,_,_,_,_=>by simp only[bU]
 |r::rs,vs,c,o,hr,hc=>by
  rw[qa3]at hr;obtain⟨u,v,rfl,h1,h2⟩:=au.split hr;have hl:=au.length h1;simp only[bU];refine⟨bB.eD h1 fun j x hj=>hc j x (by rw[qaQ (qat.1 hj).1];exact hj),bU.of_flat h2 fun j x hj=>?_⟩;have:=hc (r.length+j) x (by rw[←hl,qaV (by omega)];simpa using hj);rw[show o+r.length+j=o+(r.length+j) by omega];exact this
theorem ez {w:World} {c:Array Value} {e:TypeId} {f:Nat×Nat}:At (w.alloc (.cells c e f)) w.heap.size=some c:=by unfold At;rw[heap_alloc_new]
theorem qh (s:List UInt8) (l h:Nat):(ByteArray.mk s.toArray).extract l h=⟨((s.drop l).take (h-l)).toArray⟩:=by
 apply qdl;rw[ByteArray.data_extract];simp[qcV]
variable (h:dW w0 own0 hvs G γ S st a w) (bg:∀b,S0 b→S b) (Cy:∀b,S b→S0 b∨w0.heap.size≤b∨own0 b)
include h bg Cy
theorem iV {lo:Option Operand} {De:Option bR} {l:Option Int} (h1:jO G lo=some De) (h2:cX st.ev De=some l):
  (lo.map a.eval=none∧l=none)∨∃k n,lo.map a.eval=some (.int k n)∧l=some n:=by
 cases lo with
 |none=>
  simp only[jO,qaa]at h1;subst h1;simp only[cX,qaa]at h2;subst h2;exact .inl ⟨rfl,rfl⟩
 |some x=>
  simp only[jO]at h1
  cases hx:aZ G x with
  |none=>simp[hx]at h1
  |some x'=>
   simp only[hx,qaM,qaa]at h1;subst h1;simp only[cX]at h2;have hr:=h.fR hx;split at h2
   ·rename_i k n bZ;simp only[qaa]at h2;subst h2;rw[bZ]at hr;simp only[lF,aD]at hr;exact .inr ⟨k,n,by simp[hr],rfl⟩
   ·cases h2
theorem Ti {t:TypeId} {x:Operand} {x':bR} {lo hi:Option Operand} {De gQ:Option bR} (ho:o.op=.slice t x lo hi none) (ht:P.underlying t=some .string) (hx:aZ G x=some x')
  (CL:jO G lo=some De) (GF:jO G hi=some gQ):
  cj P w0 own0 hvs G S0 o a w st kn γ S (KA aF kn (.sH x' De gQ) st.ev):=by
 simp only[KA]
 cases hl:cX st.ev De with
 |none=>trivial
 |some l=>
  cases hh:cX st.ev gQ with
  |none=>trivial
  |some GH=>
   simp only[oB];have h1:=h.fR hx;split
   ·rename_i s bZ;rw[bZ]at h1;simp only[lF,aD]at h1;rintro⟨b0,b1,b2⟩;simp only[aF]at b0 b1 b2;have hb:=vd (P:=P) (w:=w) (isS:=false) (len:=s.length) (cap:=s.length) (iV h bg Cy CL hl) (iV h bg Cy GF hh) (qak _) b0 b1 b2;refine aG h bg Cy (u:=.string ((ByteArray.mk s.toArray).extract (l.getD 0).toNat (GH.getD s.length).toNat)) ?_ ?_
    ·have e1:(Instr.slice t (.string ⟨s.toArray⟩) (lo.map a.eval) (hi.map a.eval) none).run P w=.ok (.string ((ByteArray.mk s.toArray).extract (l.getD 0).toNat (GH.getD s.length).toNat)) w:=by
      simp only[Instr.slice,Sem.run_bind,run_underlying ht,Result.andThen_ok,Option.isSome_none,qaP,qaW,Sem.run_pure];have dH:(ByteArray.mk s.toArray).size=s.length:=rfl;rw[dH,hb];rfl
     simp only[execOp,ho,h1,qb5,Instr.sliceAt,Sem.run_bind,run_underlying ht,Result.andThen_ok,e1,Sem.run_pure]
    ·simp only[lF,aD,aF,qh]
   ·trivial
theorem ae7:∀{xs:List Operand} {ys:List bR},dP G xs=some ys→au S w (Ref γ S w st.mem) (ys.map st.ev) (xs.map a.eval)
 |[],ys,hh=>by simp only[dP,qaa]at hh;subst hh;simp only[qaF,au]
 |x::xs,ys,hh=>by
  simp only[dP]at hh
  cases hx:aZ G x with
  |none=>simp[hx]at hh
  |some y=>
   cases hr:dP G xs with
   |none=>simp[hx,hr]at hh
   |some zs=>
    simp only[hx,hr,qaa]at hh;subst hh;simp only[qaj,au];exact⟨_,_,rfl,h.fR hx,ae7 hr⟩
theorem Tj {f:FuncId} {first caps:Array Operand} {cs:List bR} (ho:o.op=.makeFunc (.func f) first caps) (hf:first.toList=[]) (hc:dP G caps.toList=some cs):
  cj P w0 own0 hvs G S0 o a w st kn γ S (KA aF kn (.SJ f cs) st.ev):=by
 refine aG h bg Cy (u:=.func (.func f) #[] (caps.map a.eval)) ?_ ?_
 ·have e:first=#[]:=by simpa using hf
  simp only[execOp,ho,Instr.makeFunc,Sem.run_bind,Sem.run_pure,Result.andThen_ok,e,qdy]
 ·simp only[lF];exact⟨(caps.map a.eval).toList,by rw[qcW],by rw[qcr];exact ae7 h bg Cy hc⟩
theorem tH {n:Nat}:∀{xs:List Operand} {ys:List bR} {rows:List (List PV)},dP G xs=some ys→fA n st.ev ys=some rows→
  rows.length=xs.length∧aK n rows∧(∀v∈xs.map a.eval,v.cells.size=n)∧∃vs:List Value,aM S w rows.flatten vs∧vs=(xs.map a.eval).flatMap fun v=>v.cells.toList
 |[],ys,rows,hh,hr=>by
  simp only[dP,qaa]at hh;subst hh;simp only[fA,qaa]at hr;subst hr;exact⟨rfl,by simp[aK],by simp,[],by simp only[qa6,aM],rfl⟩
 |x::xs,ys,rows,hh,hr=>by
  simp only[dP]at hh
  cases hx:aZ G x with
  |none=>simp[hx]at hh
  |some y=>
   cases hq:dP G xs with
   |none=>simp[hx,hq]at hh
   |some zs=>
    simp only[hx,hq,qaa]at hh;subst hh;simp only[fA]at hr;split at hr
    ·rename_i p hp;split at hr
     ·rename_i hlen;split at hr
      ·rename_i rs PU;simp only[qaa]at hr;subst hr;obtain⟨h1,h2,h3,vs,h4,h5⟩:=tH hq PU;have Tk:=fE (γ:=γ) (st:=st) _ hp (h.fR hx)
       have xT:p.cells.length=n:=by simpa using hlen
       have uy:aM S w p.cells (a.eval x).cells.toList:=aD.cells Tk;refine⟨by simp[h1],?_,?_,?_⟩
       ·intro r hr
        rcases qam.1 hr with rfl|hr
        ·exact xT
        ·exact h2 r hr
       ·intro v hv
        rcases qam.1 hv with rfl|hv
        ·rw[←xT,←aM.length uy];simp
        ·exact h3 v hv
       ·refine⟨(a.eval x).cells.toList++vs,?_,by simp[h5]⟩;rw[qa3];exact aM.append uy h4
      ·cases hr
     ·cases hr
    ·cases hr
theorem bM.of_flat {S:Nat→Prop} {w:World}:∀{rs:List (List PV)} {vs:List Value} {c:Array Value} {o:Nat},aM S w rs.flatten vs→(∀j v,vs[j]? =some v→c[o+j]? =some v)→bM S w rs c o
 |[],_,_,_,_,_=>by simp only[bM]
 |r::rs,vs,c,o,hr,hc=>by
  rw[qa3]at hr
  have key:∀(xs ys:List PV) (vs:List Value),aM S w (xs++ys) vs→∃u v,vs=u++v∧aM S w xs u∧aM S w ys v:=by
   intro xs
   induction xs with
   |nil=>intro ys vs h;exact⟨[],vs,rfl,by simp only[aM],h⟩
   |cons x xs ih=>
    intro ys vs h;simp only[qaN,aM]at h;obtain⟨v,r,rfl,h1,h2⟩:=h;obtain⟨u,q,rfl,h3,h4⟩:=ih ys r h2;exact⟨v::u,q,rfl,by simp only[aM];exact⟨v,u,rfl,h1,h3⟩,h4⟩
  obtain⟨u,v,rfl,h1,h2⟩:=key r rs.flatten vs hr;have hl:=aM.length h1;simp only[bM];refine⟨dm.eD h1 fun j x hj=>hc j x ?_,bM.of_flat h2 fun j x hj=>?_⟩
  ·rw[qaQ (qat.1 hj).1];exact hj
  ·rw[show o+r.length+j=o+(u.length+j) by omega];refine hc _ x ?_;rw[qaV (by omega),show u.length+j-u.length=j by omega];exact hj
omit h bg Cy in
theorem lW:∀{k:Nat} {parts:List (Nat×Operand)} {ps:List bR},kF G k parts=some ps→
  dP G (parts.map (·.2))=some ps∧∀(f:Operand→Value),(parts.map fun(x:Nat×Operand)=>(x.1,f x.2))=((parts.map fun x=>f x.2).zipIdx k).map fun x=>(x.2,x.1)
 |_,[],ps,hh=>by simp only[kF,qaa]at hh;subst hh;exact⟨rfl,fun _=>rfl⟩
 |k,(i,x)::r,ps,hh=>by
  simp only[kF]at hh;split at hh
  ·rename_i hi;subst hi
   cases hx:aZ G x with
   |none=>simp[hx]at hh
   |some y=>
    cases hr:kF G (i+1) r with
    |none=>simp[hx,hr]at hh
    |some ys=>
     simp only[hx,hr,qbx,qaM,qaa]at hh;subst hh;obtain⟨h1,h2⟩:=lW hr;exact⟨by simp only[qaj,dP,hx,h1],fun f=>by simp only[qaj,List.zipIdx_cons,h2 f]⟩
  ·cases hh
end
theorem H4 {G:Nat→Option (List PV)} {xs:List Operand}:∀{ys:List bR},dP G xs=some ys→ys.length=xs.length:=by
 induction xs with
 |nil=>intro ys hh;simp only[dP,qaa]at hh;subst hh;rfl
 |cons x xs ih=>
  intro ys hh;simp only[dP]at hh;split at hh
  ·split at hh
   ·rename_i q hq;simp only[qaa]at hh;subst hh;simp[ih hq]
   ·cases hh
  ·cases hh
theorem A4 {sz:Nat}:∀{l:List Value},(∀v∈l,v.cells.size=sz)→(l.flatMap fun v=>v.cells.toList).length=l.length*sz
 |[],_=>by simp
 |v::l,h=>by
  simp only[qdo,qal,A4 (fun v hv=>h v (qaE _ hv)),qaq,qcx,h v qaz,qaS,qbt,qcS]
theorem A5 {P:Program} {G:Nat→Option (List PV)} {a:Act} {w:World} {o:Oper} {t e:TypeId} {len sz:Nat} {parts:Array (Nat×Operand)} {ps:List bR} {z:List PV} (ho:o.op=.buildSlice t len parts) (ht:P.underlying t=some (.slice e)) (dH:dK P e=some sz)
  (mE:kF G 0 parts.toList=some ps) (hlen:ps.length=len) (p9:0<sz) (lh:len*sz≤2^24) (hz:gT P e=some z) (h3:∀v∈(parts.toList.map (·.2)).map a.eval,v.cells.size=sz):
  ∃c:Array Value,(execOp a.eval o).run P w=.ok (.value (.slice (some ⟨w.heap.size,0,none⟩) len len)) (w.alloc (.cells c e))∧c.size=len*sz∧parts.toList.length=len∧
   c=(((parts.toList.map (·.2)).map a.eval).flatMap fun v=>v.cells.toList).toArray:=by
 obtain⟨K4,hzip⟩:=lW mE
 have EP:parts.toList.length=len:=by
  rw[←hlen];have:=H4 K4;simpa using this.symm
 obtain⟨i,zv,hi,EO,ER,rD⟩:=gV (S:=fun _=>True) (w:=w) hz
 have e1:(parts.toList.map (fun x:Nat×Operand=>a.eval x.2))=((parts.toList.map (·.2)).map a.eval):=by simp
 have hfl:((parts.toList.map (fun x:Nat×Operand=>a.eval x.2)).flatMap fun v=>v.cells.toList).length=len*sz:=by
  rw[e1,A4 h3];simp only[qap,EP]
 refine⟨((parts.toList.map (fun x:Nat×Operand=>a.eval x.2)).flatMap fun v=>v.cells.toList).toArray,?_,by simpa using hfl,EP,by rw[e1]⟩
 have Qu:∀base:Array Value,base.size=len*sz→Instr.fill (fun i=>some (i*sz,sz)) base (parts.map fun x=>(x.1,a.eval x.2)).toList=some ((parts.toList.map (fun x:Nat×Operand=>a.eval x.2)).flatMap fun v=>v.cells.toList).toArray:=by
  intro base hb;rw[qcr];have e1:=hzip a.eval;rw[e1];exact Great.fill_whole p9 _ base (fun v hv=>h3 v (by simpa using hv)) (by simp[EP,hb])
 simp only[execOp,ho,Instr.buildSlice,Sem.run_bind,run_underlying ht,Result.andThen_ok,run_sizeOf dH];rw[qai (by omega)]
 by_cases hz0:len*sz=0
 ·rw[qao hz0];simp only[Sem.run_bind,Sem.run_pure,Result.andThen_ok];rw[Qu _ (by simp)];simp only[Sem.run_bind,newRow,run_newObj,Result.andThen_ok,Sem.run_pure,World.alloc_eq]
 ·rw[qai hz0];simp only[Sem.run_bind,rD,Result.andThen_ok,Sem.run_pure];rw[Qu _ (by simp)];simp only[Sem.run_bind,newRow,run_newObj,Result.andThen_ok,Sem.run_pure,World.alloc_eq]
section
variable {P:Program} {w0:World} {own0:Nat→Prop} {hvs:List Value×List Deferred} {G:Nat→Option (List PV)} {S0:Nat→Prop} {accs:List Nat}
 {γ:Nat→Option Nat} {S:Nat→Prop} {st:St} {a:Act} {w:World} {o:Oper} {kn:Nat}
 (h:dW w0 own0 hvs G γ S st a w)
include h
theorem tI {t e:TypeId} {len sz:Nat} {parts:Array (Nat×Operand)} {ps:List bR} {rows:List (List PV)} {z:List PV} (ho:o.op=.buildSlice t len parts) (ht:P.underlying t=some (.slice e)) (dH:dK P e=some sz)
  (mE:kF G 0 parts.toList=some ps) (hlen:ps.length=len) (p9:0<sz) (lh:len*sz≤2^24) (hz:gT P e=some z) (iv:fA sz st.ev ps=some rows):
  ∃c:Array Value,(execOp a.eval o).run P w=.ok (.value (.slice (some ⟨w.heap.size,0,none⟩) len len)) (w.alloc (.cells c e))∧c.size=len*sz∧aK sz rows∧rows.length=len∧
   ∃vs:List Value,aM S w rows.flatten vs∧c=vs.toArray:=by
 obtain⟨K4,_⟩:=lW mE;obtain⟨h1,h2,h3,vs,h4,h5⟩:=tH h (fun _ hb=>hb) (fun b hb=>Or.inl hb) (S0:=S) K4 iv;obtain⟨c,k1,k2,k3,k4⟩:=A5 (w:=w) (a:=a) ho ht dH mE hlen p9 lh hz h3;exact⟨c,k1,k2,h2,by rw[h1];simpa using k3,vs,h4,by rw[h5];exact k4⟩
theorem tJ {n:Nat}:∀{xs:List Operand} {ys:List bR} {rows:List (List AV)},dP G xs=some ys→fB n st.ev ys=some rows→
  rows.length=xs.length∧(∀r∈rows,r.length=n)∧(∀v∈xs.map a.eval,v.cells.size=n)∧∃vs:List Value,au S w (Ref γ S w st.mem) rows.flatten vs∧vs=(xs.map a.eval).flatMap fun v=>v.cells.toList
 |[],ys,rows,hh,hr=>by
  simp only[dP,qaa]at hh;subst hh;simp only[fB,qaa]at hr;subst hr;exact⟨rfl,by simp,by simp,[],by simp only[qa6,au],rfl⟩
 |x::xs,ys,rows,hh,hr=>by
  simp only[dP]at hh
  cases hx:aZ G x with
  |none=>simp[hx]at hh
  |some y=>
   cases hq:dP G xs with
   |none=>simp[hx,hq]at hh
   |some zs=>
    simp only[hx,hq,qaa]at hh;subst hh;simp only[fB]at hr;split at hr
    ·rename_i jH;split at hr
     ·rename_i hlen;split at hr
      ·rename_i rs PU;simp only[qaa]at hr;subst hr;obtain⟨h1,h2,h3,vs,h4,h5⟩:=tJ hq PU;have uy:=lF.cells (jX γ st.mem) jH (h.fR hx)
       have xT:(st.ev y).cells.length=n:=by simpa using hlen
       refine⟨by simp[h1],?_,?_,?_⟩
       ·intro r hr
        rcases qam.1 hr with rfl|hr
        ·exact xT
        ·exact h2 r hr
       ·intro v hv
        rcases qam.1 hv with rfl|hv
        ·rw[←xT,←au.length uy];simp
        ·exact h3 v hv
       ·refine⟨(a.eval x).cells.toList++vs,?_,by simp[h5]⟩;rw[qa3];exact au.append uy h4
      ·cases hr
     ·cases hr
    ·cases hr
theorem rE {t e:TypeId} {len sz:Nat} {parts:Array (Nat×Operand)} {ps:List bR} {rows:List (List AV)} {z:List PV} (ho:o.op=.buildSlice t len parts) (ht:P.underlying t=some (.slice e)) (dH:dK P e=some sz)
  (mE:kF G 0 parts.toList=some ps) (hlen:ps.length=len) (p9:0<sz) (lh:len*sz≤2^24) (hz:gT P e=some z) (iv:fB sz st.ev ps=some rows):
  ∃c:Array Value,(execOp a.eval o).run P w=.ok (.value (.slice (some ⟨w.heap.size,0,none⟩) len len)) (w.alloc (.cells c e))∧c.size=len*sz∧(∀r∈rows,r.length=sz)∧rows.length=len∧
   ∃vs:List Value,au S w (Ref γ S w st.mem) rows.flatten vs∧c=vs.toArray:=by
 obtain⟨K4,_⟩:=lW mE;obtain⟨h1,h2,h3,vs,h4,h5⟩:=tJ h K4 iv;obtain⟨c,k1,k2,k3,k4⟩:=A5 (w:=w) (a:=a) ho ht dH mE hlen p9 lh hz h3;exact⟨c,k1,k2,h2,by rw[h1];simpa using k3,vs,h4,by rw[h5];exact k4⟩
variable (bg:∀b,S0 b→S b) (Cy:∀b,S b→S0 b∨w0.heap.size≤b∨own0 b)
include bg Cy
theorem Tl {t e:TypeId} {len sz:Nat} {parts:Array (Nat×Operand)} {ps:List bR} {z:List PV} (ho:o.op=.buildSlice t len parts) (ht:P.underlying t=some (.slice e)) (dH:dK P e=some sz)
  (mE:kF G 0 parts.toList=some ps) (hlen:ps.length=len) (p9:0<sz) (lh:len*sz≤2^24) (hz:gT P e=some z):
  cj P w0 own0 hvs G S0 o a w st kn γ S (KA aF kn (.SI sz ps) st.ev):=by
 simp only[KA]
 cases iv:qF sz st.ev ps with
 |none=>
  simp only
  cases Tm:fB sz st.ev ps with
  |none=>trivial
  |some rows=>
   obtain⟨c,bN,hcs,bS,mn,vs,h4,Tp⟩:=rE (a:=a) h ho ht dH mE hlen p9 lh hz Tm;obtain⟨key,hl,hρ⟩:=dW.grow h (w':=w.alloc (.cells c e)) (S':=fun b=>S b∨b=w.heap.size) (fun b hb=>et hb) (by simp) rfl rfl rfl (fun b hb=>.inl hb)
    (fun b hb=>hb.imp (fun h=>h) (fun e=>⟨by omega,by simp;omega⟩))
   refine⟨_,_,γ,_,.inl bN,fun b hb=>.inl (bg b hb),fun b hb=>?_,key,?_⟩
   ·rcases hb with hb|hb
    ·exact Cy b hb
    ·exact .inr (.inl (by have:=h.eY;omega))
   ·simp only[lF,mn];exact⟨_,rfl,.inr ⟨w.heap.size,0,c,sz,rfl,.inr rfl,ez,bS,bU.of_flat (au.later hl hρ _ h4) (fun j v hj=>by rw[Tp];simpa using hj)⟩⟩
 |some rows=>
  have iv:fA sz st.ev ps=some rows:=by
   unfold qF at iv;split at iv
   ·cases iv
   ·exact iv
  obtain⟨c,bN,hcs,bS,mn,vs,h4,Tp⟩:=tI (a:=a) h ho ht dH mE hlen p9 lh hz iv;obtain⟨key,hl,hρ⟩:=dW.grow h (w':=w.alloc (.cells c e)) (S':=fun b=>S b∨b=w.heap.size) (fun b hb=>et hb) (by simp) rfl rfl rfl (fun b hb=>.inl hb)
   (fun b hb=>hb.imp (fun h=>h) (fun e=>⟨by omega,by simp;omega⟩))
  refine⟨_,_,γ,_,.inl bN,fun b hb=>.inl (bg b hb),fun b hb=>?_,key,?_⟩
  ·rcases hb with hb|hb
   ·exact Cy b hb
   ·exact .inr (.inl (by have:=h.eY;omega))
  ·simp only[lF,mn];exact⟨_,rfl,.inr ⟨w.heap.size,0,c,sz,rfl,.inr rfl,ez,bS,bM.of_flat h bg Cy (aM.later hl _ h4) (fun j v hj=>by rw[Tp];simpa using hj)⟩⟩
theorem H5 {t e:TypeId} {len sz:Nat} {parts:Array (Nat×Operand)} {ps:List bR} {z:List PV} (ho:o.op=.buildSlice t len parts) (ht:P.underlying t=some (.slice e)) (dH:dK P e=some sz)
  (mE:kF G 0 parts.toList=some ps) (hlen:ps.length=len) (p9:0<sz) (lh:len*sz≤2^24) (hz:gT P e=some z):
  cj P w0 own0 hvs G S0 o a w st kn γ S (KA aF kn (.c8 sz ps) st.ev):=by
 simp only[KA]
 cases iv:fA sz st.ev ps with
 |none=>trivial
 |some rows=>
  intro hm bO;obtain⟨c,bN,hcs,bS,mn,vs,h4,Tp⟩:=tI (a:=a) h ho ht dH mE hlen p9 lh hz iv;have key:=dW.new h hm bO (.rows sz rows 0) c e (fun hρ hl=>.inr ⟨w.heap.size,c,e,by simp[dp],heap_alloc_new,by rw[mn,hcs];exact qak _,bS,bM.of_flat h bg Cy (aM.later hl _ h4) (fun j v hj=>by rw[Tp];simpa using hj)⟩);refine⟨_,_,_,S,.inl bN,bg,Cy,key.1,?_⟩;simp only[lF,Ref,St.aq,uQ bO,qax,mn];exact⟨⟨qak _,rfl⟩,fun _=>⟨_,_,rfl,qak _,.inr ⟨w.heap.size,c,by simp[dp],rfl,ez,hcs⟩⟩⟩
theorem Tq {t e:TypeId} {len sz:Nat} {parts:Array (Nat×Operand)} {ps:List bR} {z:List PV} (ho:o.op=.buildSlice t len parts) (ht:P.underlying t=some (.slice e)) (dH:dK P e=some sz)
  (mE:kF G 0 parts.toList=some ps) (hlen:ps.length=len) (p9:0<sz) (lh:len*sz≤2^24) (hz:gT P e=some z):
  cj P w0 own0 hvs G S0 o a w st kn γ S (KA aF kn (.SP sz ps) st.ev):=by
 simp only[KA]
 cases iv:fB sz st.ev ps with
 |none=>trivial
 |some rows=>
  intro hm bO;obtain⟨c,bN,hcs,bS,mn,vs,h4,Tp⟩:=rE (a:=a) h ho ht dH mE hlen p9 lh hz iv;have key:=dW.new h hm bO (.cg sz rows 0) c e (fun hρ hl=>.inr ⟨w.heap.size,c,e,by simp[dp],heap_alloc_new,by rw[mn,hcs];exact qak _,bS,bU.of_flat (au.later hl hρ _ h4) (fun j v hj=>by rw[Tp];simpa using hj)⟩);refine⟨_,_,_,S,.inl bN,bg,Cy,key.1,?_⟩;simp only[lF,Ref,St.aq,uQ bO,qax,mn];exact⟨⟨qak _,rfl⟩,fun _=>⟨_,_,rfl,qak _,.inr ⟨w.heap.size,c,by simp[dp],rfl,ez,hcs⟩⟩⟩
theorem LD {f:FuncId} {first caps:Array Operand} {cs:List bR} (ho:o.op=.makeFunc (.func f) first caps) (hf:caps.toList=[]) (hc:dP G first.toList=some cs):
  cj P w0 own0 hvs G S0 o a w st kn γ S (KA aF kn (.CW f cs) st.ev):=by
 refine aG h bg Cy (u:=.func (.func f) (first.map a.eval) #[]) ?_ ?_
 ·have e:caps=#[]:=by simpa using hf
  simp only[execOp,ho,Instr.makeFunc,Sem.run_bind,Sem.run_pure,Result.andThen_ok,e,qdy]
 ·simp only[lF];exact⟨(first.map a.eval).toList,by rw[qcW],by rw[qcr];exact ae7 h bg Cy hc⟩
theorem xV {sz:Nat} {x:Operand} (ho:o.op=.move x∨o.op=.assign x) (hx:x=.const (.slice none 0 0)):
  cj P w0 own0 hvs G S0 o a w st kn γ S (KA aF kn (.c8 sz []) st.ev):=by
 simp only[KA,fA];intro hm bO;refine⟨.slice none 0 0,w,γ,S,.inl ?_,bg,Cy,dW.C9 h hm bO sz 0,?_⟩
 ·subst hx;rcases ho with ho|ho<;>simp[execOp,ho,Act.eval]
 ·simp only[lF,Ref,St.aq,uQ bO,qax];exact⟨⟨qak _,rfl⟩,fun _=>⟨none,0,rfl,by simp,.inl rfl⟩⟩
end
end Go.Am
end
section
namespace Go.Am
section
variable {S:Nat→Prop} {w:World}
theorem bM.drop:∀{rs:List (List PV)} {c:Array Value} {o sz:Nat} (k:Nat),aK sz rs→bM S w rs c o→bM S w (rs.drop k) c (o+k*sz)
 |_,_,_,_,0,_,h=>by simpa using h
 |[],_,_,_,k+1,_,_=>by simp only[qdk,bM]
 |r::rs,c,o,sz,k+1,hl,h=>by
  simp only[bM]at h;have:=bM.drop k (fun x hx=>hl x (qaE _ hx)) h.2;rw[hl r qaz]at this;rw[show o+(k+1)*sz=o+sz+k*sz by rw[qaS,qbt];omega];simpa using this
theorem bM.take:∀{rs:List (List PV)} {c:Array Value} {o:Nat} (k:Nat),bM S w rs c o→bM S w (rs.take k) c o
 |_,_,_,0,_=>by simp only[qbo,bM]
 |[],_,_,k+1,_=>by simp only[qdi,bM]
 |r::rs,c,o,k+1,h=>by
  simp only[bM]at h;simp only[qbl,bM];exact⟨h.1,bM.take k h.2⟩
theorem bM.append:∀{xs ys:List (List PV)} {c:Array Value} {o sz:Nat},aK sz xs→bM S w xs c o→bM S w ys c (o+xs.length*sz)→bM S w (xs++ys) c o
 |[],_,_,_,_,_,_,h=>by simpa using h
 |x::xs,ys,c,o,sz,hl,h,h'=>by
  simp only[bM]at h;simp only[qaN,bM];refine⟨h.1,bM.append (sz:=sz) (fun y hy=>hl y (qaE _ hy)) h.2 ?_⟩;rw[hl x qaz,show o+sz+xs.length*sz=o+(x::xs).length*sz by simp only[qaq,qaS,qbt];omega];exact h'
theorem aK.drop {sz:Nat} {rs:List (List PV)} (k:Nat) (h:aK sz rs):aK sz (rs.drop k):=fun r hr=>h r (List.mem_of_mem_drop hr)
theorem aK.take {sz:Nat} {rs:List (List PV)} (k:Nat) (h:aK sz rs):aK sz (rs.take k):=fun r hr=>h r (qbf hr)
theorem aK.append {sz:Nat} {xs ys:List (List PV)} (h:aK sz xs) (h':aK sz ys):aK sz (xs++ys):=fun r hr=>(qav.1 hr).elim (h r) (h' r)
theorem xW {all:List (List PV)} {b off sz cap l h k:Nat} {c:Array Value} (hs:S b) (hc:At w b=some c) (bS:aK sz all) (hr:bM S w all c off) (hlh:l≤h) (hh:h≤all.length) (fF:all.length≤cap):
  aD S w (.sl ((all.drop l).take (h-l)) ((all.drop h).take k)) (.slice (if cap=l then some ⟨b,off,none⟩else some ⟨b,off+l*sz,none⟩) (h-l) (cap-l)):=by
 simp only[aD]
 have e1:((all.drop l).take (h-l)).length=h-l:=by simp only[qaT,qbH];omega
 refine⟨_,cap-l,by rw[e1],by rw[e1];simp only[qaT,qbH];omega,?_⟩
 by_cases uy:cap=l
 ·left
  constructor
  ·apply qa2;rw[e1];omega
  ·apply qa2;simp only[qaT,qbH];omega
 ·right
  rw[qai uy];refine⟨b,off+l*sz,c,sz,rfl,hs,hc,(bS.drop l).take _,(bS.drop h).take _,(hr.drop l bS).take _,?_⟩;rw[e1,show off+l*sz+(h-l)*sz=off+h*sz by rw[qcg,←qaS];congr 2;omega];exact(hr.drop h bS).take _
end
section
variable {P:Program} {w0:World} {own0:Nat→Prop} {hvs:List Value×List Deferred} {G:Nat→Option (List PV)} {S0:Nat→Prop} {accs:List Nat}
 {γ:Nat→Option Nat} {S:Nat→Prop} {st:St} {a:Act} {w:World} {o:Oper} {kn:Nat}
 (h:dW w0 own0 hvs G γ S st a w) (bg:∀b,S0 b→S b) (Cy:∀b,S b→S0 b∨w0.heap.size≤b∨own0 b)
include h
theorem dW.freeze {id sz bq:Nat} {rs:List (List PV)} (hid:aj st.mem id=some (.rows sz rs bq)):
  ∃S',(∀b,S b→S' b)∧(∀b,S' b→S b∨(∃i,γ i=some b))∧dW w0 own0 hvs G (dp γ id none) S' (st.aq id (.eO rs bq)) a w∧
   (∀x v,Ref γ S w st.mem x v→Ref (dp γ id none) S' w (st.aq id (.eO rs bq)).mem x v):=by
 have bO:=bT hid;refine⟨fun b=>S b∨γ id=some b,fun b hb=>.inl hb,fun b hb=>hb.imp (fun h=>h) (fun h=>⟨id,h⟩),?_⟩
 have hl:bf S w (fun b=>S b∨γ id=some b) w:=fun b hb=>⟨.inl hb,rfl,rfl⟩
 have hO:=h.mem id _ hid
 have hρ:∀x v,Ref γ S w st.mem x v→Ref (dp γ id none) (fun b=>S b∨γ id=some b) w (st.aq id (.eO rs bq)).mem x v:=by
  intro x v hx
  by_cases hi:bI x=some id
  ·cases x with
   |c8 i2 v2=>
    simp only[bI,qaa]at hi;subst hi;simp only[Ref,hid]at hx;simp only[Ref,St.aq,uQ bO,qax];refine⟨hx.1,fun e=>?_⟩;obtain⟨a1,cap,q1,q2,q3⟩:=hx.2 e;simp only[aD];refine⟨a1,cap,q1,by simpa using q2,?_⟩
    rcases q3 with q3|⟨b,c,r1,r2,r3,r4⟩
    ·left;exact⟨qa2 (by omega),trivial⟩
    ·right
     obtain⟨c1,e1,t1,t2,t3,t4⟩:=rows_block r1 hO;refine⟨b,0,c1,sz,r2,.inr r1,by simp[At,t1],t3,by simp[aK],bM.later hl _ t4,by simp only[bM]⟩
   |cR i2 v2 j2 o2=>
    simp only[bI,qaa]at hi;subst hi;simp only[Ref,hid]at hx;simp only[Ref,St.aq,uQ bO,qax];refine⟨hx.1,fun e=>?_⟩;obtain⟨b,r1,q1,q2,q3⟩:=hx.2 e;obtain⟨c1,e1,t1,t2,t3,t4⟩:=rows_block r1 hO;have:=bM.rows (j:=j2.toNat) t3 (bM.later hl _ t4) (by omega);rw[qaA]at this;exact⟨b,j2.toNat*sz,c1,q1,.inr r1,by simp[At,t1],this,q2,q3⟩
   |ptr i2 o2=>
    simp only[bI,qaa]at hi;subst hi;simp only[Ref,hid]at hx
   |dt i2=>
    simp only[bI,qaa]at hi;subst hi;simp only[Ref,hid]at hx
   |eT i2 o2=>
    simp only[bI,qaa]at hi;subst hi;simp only[Ref,hid]at hx
   |_=>simp[bI]at hi
  ·refine Ref.sO hl x v (fun mD ob hr hg=>?_) hx
   have MB:mD≠id:=fun e=>hi (e▸hr)
   exact⟨by simp only[St.aq,uQ bO,qai MB,hg],by simp only[dp,qai MB],fun _ _=>⟨rfl,rfl⟩⟩
 refine⟨?_,hρ⟩
 exact{
     size:=h.size,slot:=fun i=>lF.later hl hρ _ (h.slot i),held:=au.later hl hρ _ h.held,defers:=h.defers
     mem:=fun mD ob hg=>by
      by_cases hi:mD=id
      ·subst hi;simp only[St.aq,uQ bO,qax,qaa]at hg;subst hg;trivial
      ·simp only[St.aq,uQ bO,qai hi]at hg;exact eK.later hl hρ (by simp only[dp,qai hi]) (fun _ _=>rfl) (h.mem mD ob hg)
     lU:=fun i b hg=>by
      simp only[St.aq,uQ bO]
      by_cases hi:i=id
      ·simp[hi]
      ·simp only[dp,qai hi]at hg ⊢;exact h.lU i b hg
     inj:=fun i j b hi hj=>by
      simp only[dp]at hi hj;split at hi
      ·cases hi
      ·split at hj
       ·cases hj
       ·exact h.inj i j b hi hj
     own:=fun i b hi=>by
      simp only[dp]at hi;split at hi
      ·cases hi
      ·rename_i MB;refine⟨fun hs=>?_,(h.own i b hi).2⟩
       rcases hs with hs|hs
       ·exact(h.own i b hi).1 hs
       ·exact MB (h.inj i id b hi hs)
     bound:=fun b hb=>by
      rcases hb with hb|hb
      ·exact h.bound b hb
      ·exact h.eJ id b hb
     eJ:=fun i b hi=>by
      simp only[dp]at hi;split at hi
      ·cases hi
      ·exact h.eJ i b hi
     jn:=fun g row hg=>by
      obtain⟨h1,c,h2,h3,h4⟩:=h.jn g row hg;exact⟨.inl h1,c,h2,dm.later hl row h3,h4⟩
     kept:=h.kept,os:=h.os,tape:=h.tape,output:=h.output,eY:=h.eY}
include bg Cy
omit bg Cy in
theorem pI {t e:TypeId} {sz:Nat} {x:Operand} {lo hi:Option Operand} {l hh:Option Int} (ho:o.op=.slice t x lo hi none) (ht:P.underlying t=some (.slice e)) (dH:dK P e=some sz)
  (hl:(lo.map a.eval=none∧l=none)∨∃k n,lo.map a.eval=some (.int k n)∧l=some n) (GH:(hi.map a.eval=none∧hh=none)∨∃k n,hi.map a.eval=some (.int k n)∧hh=some n)
  {b:Option Addr} {n cap:Nat} (hx:a.eval x=.slice b n cap) (hn:n≤cap) (h0:0≤l.getD 0) (h1:l.getD 0≤hh.getD n) (h2:hh.getD n≤cap):
  (execOp a.eval o).run P w=.ok (.value (.slice (if cap=(l.getD 0).toNat then b else b.map (·.add ((l.getD 0).toNat*sz))) ((hh.getD n).toNat-(l.getD 0).toNat) (cap-(l.getD 0).toNat))) w:=by
 have hb:=vd (P:=P) (w:=w) (isS:=true) hl GH hn h0 h1 h2
 have e1:(Instr.slice t (.slice b n cap) (lo.map a.eval) (hi.map a.eval) none).run P w=.ok (.slice (if cap=(l.getD 0).toNat then b else b.map (·.add ((l.getD 0).toNat*sz))) ((hh.getD n).toNat-(l.getD 0).toNat) (cap-(l.getD 0).toNat)) w:=by
  simp only[Instr.slice,Sem.run_bind,run_underlying ht,Result.andThen_ok,hb,run_sizeOf dH,Sem.run_pure]
 simp only[execOp,ho,hx,qb5,Instr.sliceAt,Sem.run_bind,run_underlying ht,Result.andThen_ok,e1,Sem.run_pure]
theorem ve {t e:TypeId} {sz:Nat} {x:Operand} {lo hi:Option Operand} {l hh:Option Int} (ho:o.op=.slice t x lo hi none) (ht:P.underlying t=some (.slice e)) (dH:dK P e=some sz)
  (hl:(lo.map a.eval=none∧l=none)∨∃k n,lo.map a.eval=some (.int k n)∧l=some n) (GH:(hi.map a.eval=none∧hh=none)∨∃k n,hi.map a.eval=some (.int k n)∧hh=some n)
  {y:AV} (hx:lF S w (Ref γ S w st.mem) y (a.eval x)):
  ep P w0 own0 hvs G S0 o a w st kn γ S (nj aF sz y l hh):=by
 have key:∀(all:List (List PV)) (b off n cap lM:Nat) (c:Array Value) (k:Nat),a.eval x=.slice (some ⟨b,off,none⟩) n cap→n≤all.length→all.length≤cap→S b→At w b=some c→aK lM all→bM S w all c off→
   0≤l.getD 0→l.getD 0≤hh.getD n→hh.getD n≤all.length→(l.getD 0=0∨lM=sz)→
   ∃v,(execOp a.eval o).run P w=.ok (.value v) w∧aD S w (.sl ((all.drop (l.getD 0).toNat).take ((hh.getD n).toNat-(l.getD 0).toNat)) ((all.drop (hh.getD n).toNat).take k)) v:=by
  intro all b off n cap lM c k he hn fF hb hc bS hr h0 h1 h2 hz;refine⟨_,pI h ho ht dH hl GH he (by omega) h0 h1 (by omega),?_⟩;have:=xW (k:=k) (l:=(l.getD 0).toNat) (h:=(hh.getD n).toNat) (cap:=cap) hb hc bS hr (by omega) (by omega) fF
  have e2:(Option.map (fun x:Addr=>x.add ((l.getD 0).toNat*sz)) (some ⟨b,off,none⟩))=some ⟨b,off+(l.getD 0).toNat*lM,none⟩:=by
   rw[qaM,gU]
   rcases hz with hz|hz
   ·rw[hz];simp
   ·rw[hz]
  rw[e2];exact this
 cases y with
 |pv p=>
  cases p with
  |sl rows spare=>
   simp only[lF,aD]at hx;obtain⟨a0,cap,he,fF,hd⟩:=hx
   have rF:rows=[]→spare=[]→∀h':Int,0≤l.getD 0→l.getD 0≤h'→h'≤0→hh.getD 0=h'→∀(q1:List (List PV)),q1=[]→oo P w0 own0 hvs G S0 o a w st (.pv (.sl q1 [])):=by
    intro e1 e2 h' b0 b1 b2 b3 q1 hq;subst e1;subst e2;subst hq;refine aG h bg Cy (pI h ho ht dH hl GH he (by simp) b0 (by simp;omega) (by simp;omega)) ?_;simp only[lF,aD];simp only[qaD]at*
    have e5:(hh.getD ((0:Nat):Int)).toNat-(l.getD 0).toNat=0:=by
     have:hh.getD ((0:Nat):Int)=h':=b3;omega
    rw[e5];exact⟨_,_,rfl,by simp,.inl ⟨trivial,trivial⟩⟩
   simp only[nj]
   cases hh with
   |none=>
    rintro⟨b0,b1,b2,b3⟩;simp only[aF]at b0 b1 b2 b3
    rcases hd with⟨e1,e2⟩|⟨b,off,c,lM,ha,hs,hc,h1,h2,h3,h4⟩
    ·have:=rF e1 e2 0 b0 (by simpa[e1]using b1) (by omega) rfl [] rfl;simp only[aF,e1,e2];simpa using this
    ·subst ha
     obtain⟨v,q1,q2⟩:=key (rows++spare) b off rows.length cap lM c spare.length he (by simp) (by simpa using fF) hs hc (h1.append h2) (bM.append h1 h3 h4) b0 b1 (by simp;omega) (by
      rcases b3 with b3|b3
      ·exact .inl b3
      ·by_cases hr:rows=[]
       ·left;subst hr;simp at b1;omega
       ·right;obtain⟨r,ni⟩:=qbK _ hr;rw[←h1 r ni,b3 r ni])
     refine aG h bg Cy q1 ?_;simp only[lF,aF];simp only[Option.getD_none]at q2
     have e1:(List.drop ((rows.length:Int)).toNat (rows++spare)).take spare.length=spare:=by simp
     have e2:((rows++spare).drop (l.getD 0).toNat).take (((rows.length:Int)).toNat-(l.getD 0).toNat)=(rows.drop (l.getD 0).toNat).take (((rows.length:Int)).toNat-(l.getD 0).toNat):=by
      rw[List.drop_append_of_le_length (by omega),List.take_append_of_le_length (by simp)]
     rw[e1,e2]at q2;exact q2
   |some hv=>
    simp only
    cases spare with
    |nil=>
     rintro⟨b0,b1,b2,b3⟩
     rcases hd with⟨e1,e2⟩|⟨b,off,c,lM,ha,hs,hc,h1,h2,h3,h4⟩
     ·have:=rF e1 rfl hv b0 b1 (by simpa[e1]using b2) rfl [] rfl;simp only[aF,e1];simpa using this
     ·subst ha
      obtain⟨v,q1,q2⟩:=key rows b off rows.length cap lM c 0 he (qak _) (by simpa using fF) hs hc h1 h3 b0 b1 b2 (by
       rcases b3 with b3|b3
       ·exact .inl b3
       ·by_cases hr:rows=[]
        ·left;subst hr;simp at b2;omega
        ·right;obtain⟨r,ni⟩:=qbK _ hr;rw[←h1 r ni,b3 r ni])
      refine aG h bg Cy q1 ?_;simp only[lF,aF];simpa using q2
    |cons s0 sp=>
     rintro⟨b0,b1,b2,b3⟩
     rcases hd with⟨_,e2⟩|⟨b,off,c,lM,ha,hs,hc,h1,h2,h3,h4⟩
     ·cases e2
     ·subst ha
      obtain⟨v,q1,q2⟩:=key (rows++s0::sp) b off rows.length cap lM c 0 he (by simp) (by simpa using fF) hs hc (h1.append h2) (bM.append h1 h3 h4) b0 b1 (by simp at b2 ⊢;omega) (by
        rcases b3 with b3|b3
        ·exact .inl b3
        ·right;rw[←h2 s0 qaz,b3 s0 (by simp)])
      refine aG h bg Cy q1 ?_;simp only[lF,aF];simpa using q2
  |_=>trivial
 |full rows=>
  simp only[lF]at hx;obtain⟨a0,he,hd⟩:=hx;simp only[nj]
  have rF:rows=[]→∀h':Int,0≤l.getD 0→l.getD 0≤h'→h'≤0→hh.getD 0=h'→∃b,(execOp a.eval o).run P w=.ok (.value (.slice b 0 0)) w:=by
   intro e1 h' b0 b1 b2 b3;subst e1;simp only[qaD]at*
   have e5:(hh.getD ((0:Nat):Int)).toNat-(l.getD 0).toNat=0:=by
    have:hh.getD ((0:Nat):Int)=h':=b3;omega
   have:=pI h ho ht dH hl GH he (by simp) b0 (by simp only[Int.ofNat_zero]at*;omega) (by simp only[Int.ofNat_zero]at*;omega);rw[e5,show 0-(l.getD 0).toNat=0 by omega]at this;exact⟨_,this⟩
  cases hh with
  |none=>
   rintro⟨b0,b1,b2,b3⟩;simp only[aF]at b0 b1 b2 b3
   rcases hd with e1|⟨b,off,c,lM,ha,hs,hc,h1,h3⟩
   ·obtain⟨b,hb⟩:=rF e1 0 b0 (by simpa[e1]using b1) (by omega) rfl;refine aG h bg Cy hb ?_;simp only[lF,aF,e1];exact⟨b,by simp,by simp⟩
   ·subst ha
    have hz:l.getD 0=0∨lM=sz:=by
     rcases b3 with b3|b3
     ·exact .inl b3
     ·by_cases hr:rows=[]
      ·left;subst hr;simp at b1;omega
      ·right;obtain⟨r,ni⟩:=qbK _ hr;rw[←h1 r ni,b3 r ni]
    refine aG h bg Cy (pI h ho ht dH hl GH he (qak _) b0 (by simpa using b1) (by simp)) ?_;simp only[lF,aF]
    have e1:((rows.drop (l.getD 0).toNat).take (((rows.length:Int)).toNat-(l.getD 0).toNat))=rows.drop (l.getD 0).toNat:=by
     apply qbI;simp
    have e2:((none:Option Int).getD (rows.length:Int)).toNat-(l.getD 0).toNat=(rows.drop (l.getD 0).toNat).length:=by simp
    rw[e1,e2];refine⟨_,by rw[qbH],?_⟩
    by_cases uy:rows.length=(l.getD 0).toNat
    ·left;simp[uy]
    ·right
     rw[qai uy];refine⟨b,off+(l.getD 0).toNat*lM,c,lM,?_,hs,hc,h1.drop _,h3.drop _ h1⟩;rw[qaM,gU]
     rcases hz with hz|hz
     ·rw[hz];simp
     ·rw[hz]
  |some hv=>
   rintro⟨b0,b1,b2,b3⟩
   rcases hd with e1|⟨b,off,c,lM,ha,hs,hc,h1,h3⟩
   ·obtain⟨b,hb⟩:=rF e1 hv b0 b1 (by simpa[e1]using b2) rfl;refine aG h bg Cy hb ?_;simp only[lF,aD,aF,e1];exact⟨b,0,by simp,by simp,.inl ⟨by simp,trivial⟩⟩
   ·subst ha
    obtain⟨v,q1,q2⟩:=key rows b off rows.length rows.length lM c 0 he (qak _) (qak _) hs hc h1 h3 b0 b1 b2 (by
     rcases b3 with b3|b3
     ·exact .inl b3
     ·by_cases hr:rows=[]
      ·left;subst hr;simp at b2;omega
      ·right;obtain⟨r,ni⟩:=qbK _ hr;rw[←h1 r ni,b3 r ni])
    refine aG h bg Cy q1 ?_;simp only[lF,aF];simpa using q2
 |_=>trivial
theorem Tr {t e:TypeId} {sz:Nat} {x:Operand} {x':bR} {lo hi:Option Operand} {De gQ:Option bR} (ho:o.op=.slice t x lo hi none) (ht:P.underlying t=some (.slice e)) (dH:dK P e=some sz) (hx:aZ G x=some x')
  (CL:jO G lo=some De) (GF:jO G hi=some gQ):
  cj P w0 own0 hvs G S0 o a w st kn γ S (KA aF kn (.Li sz x' De gQ) st.ev):=by
 simp only[KA]
 cases hl:cX st.ev De with
 |none=>trivial
 |some l=>
  cases hh:cX st.ev gQ with
  |none=>trivial
  |some hv=>
   have hL:=iV h bg Cy CL hl;have hH:=iV h bg Cy GF hh;simp only[mI];have h1:=h.fR hx;split
   ·rename_i id bq bZ;rw[bZ]at h1;have AA:=h1;simp only[lF,Ref]at h1;intro ob bL;simp only[bL]at h1
    cases ob with
    |cells cs=>trivial
    |cg=>trivial
    |map=>trivial
    |iw=>trivial
    |fz=>trivial
    |cL=>trivial
    |eu=>trivial
    |eO rs bm=>
     by_cases aT:bq=bm
     ·subst aT;simp only[qau];exact ve h bg Cy ho ht dH hL hH (by simp only[lF];exact h1.2 rfl)
     ·simp only[qar.2 aT];trivial
    |rows lM rs bm=>
     by_cases aT:bq=bm
     ·subst aT;simp only[qau];rintro⟨b0,b1,b2,b3⟩;simp only[aF]at b0 b1 b2 b3;obtain⟨S',k1,k2,k3,k4⟩:=dW.freeze h bL;obtain⟨a1,cap,q1,q2,q3⟩:=h1.2 rfl;have bN:=pI h ho ht dH hL hH q1 q2 b0 b1 (by omega);refine⟨_,w,_,S',.inl bN,fun b hb=>k1 b (bg b hb),fun b hb=>?_,k3,?_⟩
      ·rcases k2 b hb with hb|⟨i,hb⟩
       ·exact Cy b hb
       ·exact .inr (h.own i b hb).2
      ·simp only[lF,aF];have hf:=k4 (.c8 id bq) _ (by simpa only[lF]using AA);simp only[Ref,St.aq,uQ (bT bL),qax]at hf;have K5:=hf.2 trivial;simp only[aD]at K5;obtain⟨a2,Zi,r1,r2,r3⟩:=K5
       rw[q1]at r1;injection r1 with r1a r1b r1c
       subst r1a;subst r1c
       rcases r3 with⟨r3,_⟩|⟨b,off,c,sz2,t1,t2,t3,t4,_,t5,_⟩
       ·subst r3;simp only[qaD]at*
        have e5:(hv.getD ((0:Nat):Int)).toNat-(l.getD 0).toNat=0:=by omega
        rw[e5];simp only[qdk,qdi,aD];exact⟨_,_,rfl,by simp,.inl ⟨trivial,trivial⟩⟩
       ·subst t1
        have hz:l.getD 0=0∨sz2=sz:=by
         rcases b3 with b3|b3
         ·exact .inl b3
         ·by_cases hr:rs=[]
          ·left;subst hr;simp only[qaD]at b1 b2;omega
          ·right;obtain⟨r,ni⟩:=qbK _ hr;rw[←t4 r ni,b3 r ni]
        have:=xW (k:=rs.length-(hv.getD rs.length).toNat) (l:=(l.getD 0).toNat) (h:=(hv.getD rs.length).toNat) (cap:=cap) t2 t3 t4 t5 (by omega) (by omega) q2
        have e2:(Option.map (fun x:Addr=>x.add ((l.getD 0).toNat*sz)) (some ⟨b,off,none⟩))=some ⟨b,off+(l.getD 0).toNat*sz2,none⟩:=by
         rw[qaM,gU]
         rcases hz with hz|hz
         ·rw[hz];simp
         ·rw[hz]
        rw[e2];simpa using this
     ·simp only[qar.2 aT];trivial
   ·exact ve h bg Cy ho ht dH hL hH h1
end
end Go.Am
end
