import Derived.MapKept
import Derived.Laws.NewFold
import Derived.Laws.IdiomRangeMap
import Derived.Test.YtfaccbkibjkfjaaGreatDoorT03
set_option linter.all false
set_option maxRecDepth 100000
set_option maxHeartbeats 1000000
section
namespace Go.Am
section
variable {P:Program} {S:Nat→Prop} {w:World}
theorem cG.XD {t:TypeId} {p:PV} {v:Value} {kg:Bool} (hg:ey P t=some kg) (hk:p.isAgg=kg) (hr:aD S w p v):cG P S w t p.cells v:=by
 unfold cG;rw[hg]
 cases kg with
 |true=>
  cases p with
  |agg ps=>simp only[aD]at hr;simpa only[PV.cells]using hr
  |_=>simp[PV.isAgg]at hk
 |false=>
  refine⟨p,?_,hr⟩
  cases p with
  |agg ps=>simp[PV.isAgg]at hk
  |_=>rfl
theorem cG.entry {t:TypeId} {r:List PV} {kv vv:List Value} {kg:Bool} {kn:Nat} (hg:ey P t=some kg) (hr:aM S w r (kv++vv)) (hk:kv.length=kn) (hs:shapeOf kg kn):cG P S w t (r.take kn) (valOf kg kv):=by
 have h1:=(aM.take_drop kn hr).1;rw[←hk,qcd,hk]at h1;unfold cG;rw[hg]
 cases kg with
 |true=>exact⟨kv,rfl,h1⟩
 |false=>
  simp only[shapeOf]at hs;subst hs;obtain⟨x,rfl⟩:=qbJ.1 hk;have hl:=aM.length h1;obtain⟨p,hp⟩:=qbJ.1 hl.symm;rw[hp]at h1 ⊢;simp only[aM]at h1;obtain⟨v,rr,he,h2,rfl⟩:=h1;simp only[qbn,qck]at he;exact⟨p,rfl,by subst he;exact h2⟩
theorem cH {b:Nat} {o:Go.Obj} (hb:w.heap[b]? =some o) (hc:∀c e f,o≠.cells c e f):(getObj b).run P w=.ok o w:=by
 cases o with
 |cells c e f=>exact absurd rfl (hc c e f)
 |_=>simp[getObj,Sem.run,hb]
theorem ga {b:Nat} {o o':Go.Obj} (hb:w.heap[b]? =some o) (hc:∀c e f,o≠.cells c e f):(setObj b o').run P w=.ok () {w with heap:=w.heap.setIfInBounds b o'}:=by
 cases o with
 |cells c e f=>exact absurd rfl (hc c e f)
 |_=>simp[setObj,Sem.run,hb]
theorem nX {d:Nat} {em:Bool} {go:TypeId→Option (List Nat)} (ih:∀(t:TypeId) (k:List Nat) (ps:List PV) (u:Value),go t=some k→cG P S w t ps u→ps.length=k.length→(Instr.checkKey em d t u).run P w=.ok () w)
  (Ic:∀t k,go t=some k→∃g,ey P t=some g∧(g=false→k.length=1)) {ps:List PV} {us:List Value} (hu:aM S w ps us):
  ∀(fs:List Field) (WJ sh:List Nat),cS P go WJ fs=some sh→ps.length=sh.length→
   (forIn fs PUnit.unit fun(f:Field) (_:PUnit)=>(if f.name≠ "_" then do Instr.checkKey em d f.type (←part f.type us.toArray f.offset);pure (ForInStep.yield PUnit.unit)else pure (ForInStep.yield PUnit.unit):Sem (ForInStep PUnit))).run P w=.ok PUnit.unit w
 |[],WJ,sh,hs,hp=>by simp
 |f::fs,WJ,sh,hs,hp=>by
  simp only[cS]at hs;split at hs
  ·cases hs
  ·rename_i hf
   have hf1:f.name≠ "_" :=fun e=>hf (.inl e)
   have K5:f.offset=WJ.length:=by
    by_cases e:f.offset=WJ.length
    ·exact e
    ·exact absurd (.inr e) hf
   split at hs
   ·rename_i k hk;split at hs
    ·rename_i dH;obtain⟨g,hg,oq⟩:=Ic _ _ hk
     have hlen:∀(fs:List Field) (a b:List Nat),cS P go a fs=some b→a.length≤b.length:=by
      intro fs
      induction fs with
      |nil=>intro a b h;simp only[cS,qaa]at h;subst h;exact qak _
      |cons f fs Xz=>
       intro a b h;simp only[cS]at h;split at h
       ·cases h
       ·split at h
        ·split at h
         ·have:=Xz _ _ h;simp at this;omega
         ·cases h
        ·cases h
     have hle:=hlen _ _ _ hs;simp only[qal]at hle;obtain⟨v,hv,K2⟩:=lq (P:=P) (off:=f.offset) hg dH oq hu (by omega);have h3:=ih _ _ _ _ hk K2 (by simp;omega);have h4:=nX ih Ic hu fs (WJ++k) sh hs hp;simp only[List.forIn_cons,Sem.run_bind];rw[qao hf1];simp only[Sem.run_bind,hv,Result.andThen_ok,h3,Sem.run_pure];exact h4
    ·cases hs
   ·cases hs
theorem vq {d k:Nat} {em:Bool} {e:TypeId} (ha:ey P e=some false) (hn:dK P e=some 1) {ps:List PV} {us:List Value} (hu:aM S w ps us)
  (ih:∀(p:PV) (u:Value),aD S w p u→(Instr.checkKey em d e u).run P w=.ok () w):
  ∀(m i:Nat),ps.length=i+m→
   (forIn (List.range' i m) PUnit.unit fun(j:Nat) (_:PUnit)=>(do Instr.checkKey em d e (←part e us.toArray (j*(←sizeOf e)));pure (ForInStep.yield PUnit.unit):Sem (ForInStep PUnit))).run P w=.ok PUnit.unit w:=by
 intro m
 induction m with
 |zero=>intro i hp;simp
 |succ m ihm=>
  intro i hp;obtain⟨x,hx,LJ⟩:=lq (P:=P) (off:=i) ha hn (fun _=>rfl) hu (by omega);simp only[cG,ha]at LJ;obtain⟨p,WI,LJ⟩:=LJ;rw[List.range'_succ];simp only[List.forIn_cons,Sem.run_bind,run_sizeOf hn,qcL,hx,ih _ _ LJ,Result.andThen_ok,Sem.run_pure];have:=ihm (i+1) (by omega);simpa only[Sem.run_bind,run_sizeOf hn,qcL]using this
theorem nA:∀(n d:Nat),n≤d→∀(em:Bool) (t:TypeId) (k:List Nat) (ps:List PV) (u:Value),cQ P n t=some k→cG P S w t ps u→ps.length=k.length→
   (Instr.checkKey em d t u).run P w=.ok () w
 |0,d,_,em,t,k,ps,u,hs,_,_=>by simp[cQ]at hs
 |n+1,0,hd,em,t,k,ps,u,hs,_,_=>by omega
 |n+1,d+1,hd,em,t,k,ps,u,hs,hu,hp=>by
  simp only[cQ]at hs;split at hs
  ·rename_i ht;simp only[Instr.checkKey,Sem.run_bind,run_underlying ht,Result.andThen_ok,Sem.run_pure]
  ·rename_i kk ht;simp only[Instr.checkKey,Sem.run_bind,run_underlying ht,Result.andThen_ok,Sem.run_pure]
  ·rename_i ht;simp only[Instr.checkKey,Sem.run_bind,run_underlying ht,Result.andThen_ok,Sem.run_pure]
  ·rename_i fs ht
   have ha:ey P t=some true:=by unfold ey;rw[ht]
   simp only[cG,ha]at hu;obtain⟨us,rfl,hu⟩:=hu;split at hs
   ·cases hs
   ·have:=nX (em:=em) (d:=d) (fun t k ps u h1 h2 h3=>nA n d (by omega) em t k ps u h1 h2 h3) (fun t k h=>tK h) hu fs.toList [] k hs hp;simp only[Instr.checkKey,Sem.run_bind,run_underlying ht,Result.andThen_ok];rw[←Array.forIn_toList,this];rfl
  ·rename_i m e ht
   have ha:ey P t=some true:=by unfold ey;rw[ht]
   simp only[cG,ha]at hu;obtain⟨us,rfl,hu⟩:=hu;split at hs
   ·rename_i kk hk;split at hs
    ·rename_i hae;obtain⟨Ic,dH⟩:=hae;simp only[qaa]at hs;subst hs;simp only[qcn]at hp;have:=vq (k:=kk) (em:=em) (d:=d) Ic dH hu (fun p u h1=>nA n d (by omega) em e [kk] [p] u hk (by simp only[cG,Ic];exact⟨p,rfl,h1⟩) rfl) m 0 (by omega);simp only[Instr.checkKey,Sem.run_bind,run_underlying ht,Result.andThen_ok];simp only[Std.Legacy.Range.forIn_eq_forIn_range',Std.Legacy.Range.size,qdu,Nat.add_one_sub_one,Nat.div_one]
     rw[this];rfl
    ·cases hs
   ·cases hs
  ·cases hs
def nY (kn:Nat) (kc:List PV):List (List PV)→List MapEntry→Nat→Option (Nat×Value)
 |r::rs,e::es,i=>match JK kc (r.take kn)with
  |true=>some (i,e.val)
  |false=>nY kn kc rs es (i+1)
 |_,_,_=>none
theorem oM {kt:TypeId} {sh:List Nat} {kg vg:Bool} {kn:Nat} (hs:cQ P 6 kt=some sh) (hg:ey P kt=some kg) {kc:List PV} {key:Value} (hk:cG P S w kt kc key) (AB:kc.length=sh.length):
  ∀(rows:List (List PV)) (es:List MapEntry) (i:Nat),bV S w kg vg kn rows es→(∀r∈rows,aR sh kc (r.take kn))→(Instr.findAsking kt key es i).run P w=.ok (nY kn kc rows es i) w
 |[],es,i,hr,_=>by simp only[bV]at hr;subst hr;simp[Instr.findAsking,nY]
 |r::rs,es,i,hr,hc=>by
  simp only[bV]at hr;obtain⟨e,t,kv,vv,rfl,h1,h2,h3,h4,h5,h6,h7⟩:=hr;have Ie:=hc r qaz;have hl:=gu Ie
  have he:cG P S w kt (r.take kn) e.key:=by rw[h5];exact cG.entry hg h1 h2 h3
  have bN:(Op.equal kt key e.key).run P w=.ok (JK kc (r.take kn)) w:=lX 6 10000 (by omega) kt sh _ _ _ _ hs hk he AB hl.2 Ie;simp only[Instr.findAsking,Sem.run_bind,bN,Result.andThen_ok,nY]
  cases JK kc (r.take kn)with
  |true=>simp
  |false=>
   simp only[qaP,qaW];exact oM hs hg hk AB rs t (i+1) h7 (fun r' ni=>hc r' (qaE _ ni))
theorem vr {kt:TypeId} {d:TypeDesc} (hd:P.underlying kt=some d) {x y:Value} {b:Bool} (h:Instr.sameNow d x y=some b):(Op.equal kt x y).run P w=.ok b w:=by
 unfold Instr.sameNow at h;split at h
 ·split at h
  ·rename_i hk;simp only[qaa]at h;subst h;subst hk;exact run_equalIn_int w 9999 kt _ _ _ _ hd
  ·cases h
 ·simp only[qaa]at h;subst h;refine(run_equalIn_string w 9999 kt _ _ hd).trans ?_
  congr 1
  rename_i a b
  have e1:(a==b)=(a.data==b.data):=by cases a;cases b;rfl
  rw[e1,qbX];simp only[qbA,ByteArray.toList_eq];constructor
  ·intro e;exact by simpa using congrArg List.toArray e
  ·intro e;rw[e]
 ·simp only[qaa]at h;subst h;exact run_equalIn_bool' w 9999 kt _ _ hd
 ·cases h
theorem vt {kt:TypeId} {d:TypeDesc} (hd:P.underlying kt=some d) {key:Value}:∀(es:List MapEntry) (i:Nat) {r:Option (Nat×Value)},Instr.findNow d key es i=some r→(Instr.findAsking kt key es i).run P w=.ok r w
 |[],i,r,h=>by simp only[Instr.findNow,qaa]at h;subst h;simp[Instr.findAsking]
 |e::es,i,r,h=>by
  simp only[Instr.findNow]at h;split at h
  ·rename_i hn;simp only[qaa]at h;subst h;simp only[Instr.findAsking,Sem.run_bind,vr hd hn,Result.andThen_ok,qax,Sem.run_pure]
  ·rename_i hn;simp only[Instr.findAsking,Sem.run_bind,vr hd hn,Result.andThen_ok,qaP,qaW];exact vt hd es (i+1) h
  ·cases h
theorem Bb {kt:TypeId} {d:TypeDesc} (hd:P.underlying kt=some d) {key:Value} {es:List MapEntry} {r:Option (Nat×Value)} (h:(Instr.findAsking kt key es 0).run P w=.ok r w):(Instr.findKey kt key es).run P w=.ok r w:=by
 simp only[Instr.findKey,Sem.run_bind,run_underlying hd,Result.andThen_ok]
 cases hn:Instr.findNow d key es 0 with
 |none=>exact h
 |some q=>
  have:=vt (w:=w) hd es 0 hn;rw[this]at h;simp only[Result.ok.injEq,qck]at h;subst h;rfl
theorem bV.len {kg vg:Bool} {kn:Nat}:∀{rows:List (List PV)} {es:List MapEntry},bV S w kg vg kn rows es→es.length=rows.length
 |[],_,h=>by simp only[bV]at h;subst h;rfl
 |r::rs,_,h=>by
  simp only[bV]at h;obtain⟨e,t,kv,vv,rfl,_,_,_,_,_,_,h7⟩:=h;simp[bV.len h7]
def sQ (S:Nat→Prop) (w:World) (kg vg:Bool) (kn:Nat) (r:List PV) (e:MapEntry):Prop:=
 ∃kv vv,aM S w r (kv++vv)∧kv.length=kn∧shapeOf kg kn∧shapeOf vg vv.length∧e.key=valOf kg kv∧e.val=valOf vg vv
theorem bV.get {kg vg:Bool} {kn:Nat}:∀{rows:List (List PV)} {es:List MapEntry} {j:Nat} {r:List PV},bV S w kg vg kn rows es→rows[j]? =some r→∃e,es[j]? =some e∧sQ S w kg vg kn r e
 |[],_,_,_,_,hj=>by simp at hj
 |r::rs,_,j,r',h,hj=>by
  simp only[bV]at h;obtain⟨e,t,kv,vv,rfl,h1,h2,h3,h4,h5,h6,h7⟩:=h
  cases j with
  |zero=>simp only[qay,qaa]at hj;subst hj;exact⟨e,rfl,kv,vv,h1,h2,h3,h4,h5,h6⟩
  |succ j=>simpa using bV.get (j:=j) h7 (by simpa using hj)
theorem bV.cons {kg vg:Bool} {kn:Nat} {r:List PV} {rs:List (List PV)} {e:MapEntry} {t:List MapEntry} (h:sQ S w kg vg kn r e) (ht:bV S w kg vg kn rs t):bV S w kg vg kn (r::rs) (e::t):=by
 obtain⟨kv,vv,h1,h2,h3,h4,h5,h6⟩:=h;simp only[bV];exact⟨e,t,kv,vv,rfl,h1,h2,h3,h4,h5,h6,ht⟩
theorem bV.y7 {kg vg:Bool} {kn:Nat} {r:List PV} {rs:List (List PV)} {es:List MapEntry} (h:bV S w kg vg kn (r::rs) es):∃e t,es=e::t∧sQ S w kg vg kn r e∧bV S w kg vg kn rs t:=by
 simp only[bV]at h;obtain⟨e,t,kv,vv,rfl,h1,h2,h3,h4,h5,h6,h7⟩:=h;exact⟨e,t,rfl,⟨kv,vv,h1,h2,h3,h4,h5,h6⟩,h7⟩
theorem bV.push {kg vg:Bool} {kn:Nat} {r:List PV} {e:MapEntry} (he:sQ S w kg vg kn r e):∀{rows:List (List PV)} {es:List MapEntry},bV S w kg vg kn rows es→bV S w kg vg kn (rows++[r]) (es++[e])
 |[],_,h=>by simp only[bV]at h;subst h;exact bV.cons he (by simp only[bV])
 |r'::rs,_,h=>by
  obtain⟨e',t,rfl,h1,h2⟩:=h.y7;exact bV.cons h1 (bV.push he h2)
theorem bV.modify {kg vg:Bool} {kn:Nat} {g:List PV→List PV} {f:MapEntry→MapEntry}:∀{rows:List (List PV)} {es:List MapEntry} {j:Nat},(∀r e,rows[j]? =some r→es[j]? =some e→sQ S w kg vg kn r e→sQ S w kg vg kn (g r) (f e))→bV S w kg vg kn rows es→bV S w kg vg kn (rows.modify j g) (es.modify j f)
 |[],_,j,_,h=>by simp only[bV]at h;subst h;cases j<;>simp[bV]
 |r'::rs,_,0,hf,h=>by
  obtain⟨e',t,rfl,h1,h2⟩:=h.y7;simp only[List.modify_zero_cons];exact bV.cons (hf r' e' rfl rfl h1) h2
 |r'::rs,_,j+1,hf,h=>by
  obtain⟨e',t,rfl,h1,h2⟩:=h.y7;simp only[List.modify_succ_cons];exact bV.cons h1 (bV.modify (fun r e h1 h2=>hf r e (by simpa using h1) (by simpa using h2)) h2)
theorem nB {kg vg:Bool} {kn:Nat} {kc z:List PV}:∀{rows:List (List PV)} {es:List MapEntry} {i:Nat},bV S w kg vg kn rows es→
  (dQ kn rows kc=false∧nY kn kc rows es i=none∧fb kn rows kc=rows.length∧jy kn rows kc z=z)∨
  (dQ kn rows kc=true∧∃e r,es[fb kn rows kc]? =some e∧rows[fb kn rows kc]? =some r∧sQ S w kg vg kn r e∧JK kc (r.take kn)=true∧nY kn kc rows es i=some (i+fb kn rows kc,e.val)∧jy kn rows kc z=r.drop kn)
 |[],_,i,h=>by simp only[bV]at h;subst h;left;simp[dQ,nY,fb,jy]
 |r::rs,_,i,h=>by
  obtain⟨e,t,rfl,h1,h2⟩:=h.y7
  cases hc:JK kc (r.take kn)with
  |true=>
   right
   refine⟨by simp[dQ,hc],e,r,?_⟩;simp[fb,qcJ,hc,nY,jy,h1]
  |false=>
   rcases nB (kc:=kc) (z:=z) (i:=i+1) h2 with⟨g1,g2,g3,g4⟩|⟨g1,e',r',g2,g3,g4,g5,g6,g7⟩
   ·left
    refine⟨by simpa[dQ,hc]using g1,by simp only[nY,hc];exact g2,?_,?_⟩
    ·simpa[fb,qcJ,hc]using g3
    ·simpa[jy,hc]using g4
   ·right
    have hix:fb kn (r::rs) kc=fb kn rs kc+1:=by simp[fb,qcJ,hc]
    refine⟨by simpa[dQ,hc]using g1,e',r',by rw[hix];simpa using g2,by rw[hix];simpa using g3,g4,g5,?_,?_⟩
    ·simp only[nY,hc,hix];rw[g6,show i+1+fb kn rs kc=i+(fb kn rs kc+1) by omega]
    ·simpa[jy,hc]using g7
theorem gm.push {es:List MapEntry} {ck:Nat} {e:MapEntry} (h:gm es ck) (he:e.born=ck):gm (es++[e]) (ck+1):=by
 refine⟨fun x hx=>?_,?_⟩
 ·rcases qav.1 hx with hx|hx
  ·have:=h.1 x hx;omega
  ·simp only[qaO]at hx;subst hx;omega
 ·rw[qcs];refine⟨h.2,by simp,fun a ha b hb=>?_⟩;simp only[qaO]at hb;subst hb;have:=h.1 a ha;omega
theorem gm.iff {es:List MapEntry} {ck:Nat}:gm es ck↔(∀n∈es.map (·.born),n<ck)∧(es.map (·.born)).Pairwise (·<·):=by
 unfold gm;rw[qca];constructor
 ·rintro⟨h1,h2⟩;refine⟨fun n hn=>?_,h2⟩;obtain⟨e,he,rfl⟩:=qaw.1 hn;exact h1 e he
 ·rintro⟨h1,h2⟩;exact⟨fun e he=>h1 _ (qbP he),h2⟩
theorem tL {f:MapEntry→MapEntry} (hf:∀e,(f e).born=e.born):∀(es:List MapEntry) (j:Nat),(es.modify j f).map (·.born)=es.map (·.born)
 |[],j=>by cases j<;>simp
 |e::es,0=>by simp[hf]
 |e::es,j+1=>by simp[tL hf es j]
theorem gm.modify {es:List MapEntry} {ck:Nat} {f:MapEntry→MapEntry} (hf:∀e,(f e).born=e.born) (j:Nat) (h:gm es ck):gm (es.modify j f) ck:=by
 rw[gm.iff]at h ⊢;rw[tL hf];exact h
theorem y8 {es:Array MapEntry} {ck i:Nat} {e:MapEntry} (h:gm es.toList ck) (he:es[i]? =some e):es.findIdx? (fun x=>(x.born:Int)==(e.born:Int))=some i:=by
 rw[Array.findIdx?_eq_some_iff_findIdx_eq];obtain⟨bO,Dg⟩:=qaK.1 he;refine⟨bO,?_⟩;rw[Array.findIdx_eq bO];refine⟨by simp[Dg],fun j hj=>?_⟩;have hp:=qaU.1 h.2 j i (by simpa using Nat.lt_trans hj bO) (by simpa using bO) hj;simp only[qcX]at hp;rw[Dg]at hp
 have:¬((es[j].born:Int)=(e.born:Int)):=by omega
 simpa using this
theorem qU:∀{sh:List Nat} {a b:List PV},aR sh a b→JK a b=true→a=b
 |[],[],[],_,_=>rfl
 |k::sh,x::a,y::b,hc,he=>by
  have ih:=fun h1 h2=>qU (sh:=sh) (a:=a) (b:=b) h1 h2
  rcases k with _|_|_|k<;>cases x<;>cases y<;>simp_all [aR,JK]
 |[],_::_,_,h,_=>by simp[aR]at h
 |[],[],_::_,h,_=>by simp[aR]at h
 |k::_,[],c,h,_=>by rcases k with _|_|_|k<;>simp[aR]at h
 |k::_,_::_,[],h,_=>by rcases k with _|_|_|k<;>simp[aR]at h
theorem lr {g:Bool} {n:Nat} {x:AV} {kc:List PV} (h:keyOf g n x=some kc):∃p,x.flat=some p∧p.isAgg=g∧kc=p.cells∧kc.length=n:=by
 unfold keyOf at h;split at h
 ·rename_i p hp;split at h
  ·rename_i hg;split at h
   ·rename_i hn;simp only[qaa]at h;subst h;exact⟨p,hp,by simpa using hg,rfl,by simpa using hn⟩
   ·cases h
  ·cases h
 ·cases h
theorem jQ {g:Bool} {p:PV} {v:Value} (hg:p.isAgg=g) (hr:aD S w p v):∃vv,v=valOf g vv∧aM S w p.cells vv∧shapeOf g vv.length:=by
 cases p with
 |agg ps=>
  simp only[PV.isAgg]at hg;subst hg;simp only[aD]at hr;obtain⟨vs,rfl,hr⟩:=hr;exact⟨vs,rfl,hr,trivial⟩
 |_=>
  simp only[PV.isAgg]at hg;subst hg;exact⟨[v],rfl,by simp only[PV.cells,aM];exact⟨v,[],rfl,hr,rfl⟩,rfl⟩
theorem tM {t:TypeId} {z:PV} (h:sN P t=some z):∃zv,(zeroValue t).run P w=.ok zv w∧aD S w z zv:=by
 unfold sN at h
 cases hi:P.info? t with
 |none=>simp[hi]at h
 |some i=>
  cases hz:i.zero with
  |none=>simp[hi,hz]at h
  |some zv=>
   simp only[hi,qbx,hz]at h;exact⟨zv,by simp only[zeroValue,typeInfo,Sem.run_bind,run_program,Result.andThen_ok,hi,hz,Sem.run_pure],u9 h⟩
theorem sQ.val {kg vg:Bool} {kn:Nat} {r:List PV} {e:MapEntry} (h:sQ S w kg vg kn r e):aD S w (jz vg (r.drop kn)) e.val:=by
 obtain⟨kv,vv,h1,h2,h3,h4,h5,h6⟩:=h;have hd:=(aM.take_drop kn h1).2;rw[←h2,qda,h2]at hd;rw[h6]
 cases vg with
 |true=>simp only[jz,valOf,aD];exact⟨vv,rfl,hd⟩
 |false=>
  simp only[shapeOf]at h4;obtain⟨x,rfl⟩:=qbJ.1 h4;obtain⟨p,hp⟩:=qbJ.1 (aM.length hd).symm;rw[hp]at hd ⊢;simp only[aM]at hd;obtain⟨v,rr,he,hv,rfl⟩:=hd;simp only[qbn,qck]at he;subst he;simpa only[jz,valOf,List.headD_cons]using hv
theorem sQ.key {kg vg:Bool} {kn:Nat} {r:List PV} {e:MapEntry} (h:sQ S w kg vg kn r e):aD S w (jz kg (r.take kn)) e.key:=by
 obtain⟨kv,vv,h1,h2,h3,h4,h5,h6⟩:=h;have hd:=(aM.take_drop kn h1).1;rw[←h2,qcd,h2]at hd;rw[h5]
 cases kg with
 |true=>simp only[jz,valOf,aD];exact⟨kv,rfl,hd⟩
 |false=>
  simp only[shapeOf]at h3;rw[h3]at h2 hd;obtain⟨x,rfl⟩:=qbJ.1 h2;obtain⟨p,hp⟩:=qbJ.1 (aM.length hd).symm;rw[h3,hp];rw[hp]at hd;simp only[aM]at hd;obtain⟨v,rr,he,hv,rfl⟩:=hd;simp only[qbn,qck]at he;subst he;simpa only[jz,valOf,List.headD_cons]using hv
theorem pK {γ:Nat→Option Nat} {mem:List (Option Obj)} {vg:Bool} {kn:Nat} {rows:List (List PV)} {kc z:List PV} {v:Value} (h:aD S w (jz vg (jy kn rows kc z)) v):lF S w (Ref γ S w mem) (tv aF vg kn rows kc z) v:=by
 unfold tv
 cases vg with
 |true=>simpa only[lF,aF,jz]using h
 |false=>simpa only[lF,aF,jz]using h
end
end Go.Am
end
section
namespace Go.Am
section
variable {P:Program} {w0:World} {own0:Nat→Prop} {hvs:List Value×List Deferred} {G:Nat→Option (List PV)} {S0:Nat→Prop} {accs:List Nat}
 {γ:Nat→Option Nat} {S:Nat→Prop} {st:St} {a:Act} {w:World} {o:Oper} {kn:Nat}
 (h:dW w0 own0 hvs G γ S st a w)
include h
theorem dW.y9 {id b:Nat} {ob ob':Obj} {go go':Go.Obj} (hid:aj st.mem id=some ob) (hb:γ id=some b) (Dh:w.heap[b]? =some go)
  (hR:∀x v,bI x=some id→Ref γ S w st.mem x v→Ref γ S {w with heap:=w.heap.setIfInBounds b go'} (st.aq id ob').mem x v)
  (hO:(∀x v,Ref γ S w st.mem x v→Ref γ S {w with heap:=w.heap.setIfInBounds b go'} (st.aq id ob').mem x v)→bf S w S {w with heap:=w.heap.setIfInBounds b go'}→
   eK γ S {w with heap:=w.heap.setIfInBounds b go'} (Ref γ S {w with heap:=w.heap.setIfInBounds b go'} (st.aq id ob').mem) id ob'):
  dW w0 own0 hvs G γ S (st.aq id ob') a {w with heap:=w.heap.setIfInBounds b go'}:=
 (dW.lg h hid hb (w':={w with heap:=w.heap.setIfInBounds b go'}) (fun k hk=>by simp[qbe (qbN hk)]) (by simp) rfl rfl rfl hR hO).1
omit h in
theorem heap_set {b:Nat} {go go':Go.Obj} (Dh:w.heap[b]? =some go):({w with heap:=w.heap.setIfInBounds b go'}:World).heap[b]? =some go':=by
 have:=(qaK.1 Dh).1;simp[this]
theorem dW.vu {id b ck ck' n:Nat} {kg vg:Bool} {rows rows':List (List PV)} {es es':Array MapEntry} (hid:aj st.mem id=some (.map kg vg n rows)) (hb:γ id=some b) (Dh:w.heap[b]? =some (.map es ck))
  (sR:gm es'.toList ck') (hr:bV S w kg vg n rows' es'.toList) (Y5:∀(i:Nat) (e:MapEntry),es[i]? =some e→∃e':MapEntry,es'[i]? =some e'∧e'.born=e.born):
  dW w0 own0 hvs G γ S (st.aq id (.map kg vg n rows')) a {w with heap:=w.heap.setIfInBounds b (.map es' ck')}∧bf S w S {w with heap:=w.heap.setIfInBounds b (.map es' ck')}:=by
 have MB:∀k,S k→k≠b:=fun k hk e=>(h.own id b hb).1 (e▸hk)
 have hl:bf S w S {w with heap:=w.heap.setIfInBounds b (.map es' ck')}:=fun k hk=>⟨hk,dC (by simp[qbe (qbN (MB k hk))])⟩
 refine⟨dW.y9 h hid hb Dh (fun x v hx hv=>?_) (fun hρ hl=>⟨b,es',ck',hb,heap_set Dh,sR,bV.later hl _ hr⟩),hl⟩
 cases x with
 |c8 i2 v2=>simp only[bI,qaa]at hx;subst hx;simp only[Ref,hid]at hv
 |ptr i2 v2=>simp only[bI,qaa]at hx;subst hx;simp only[Ref,hid]at hv
 |cR i2 v2 j2 o2=>simp only[bI,qaa]at hx;subst hx;simp only[Ref,hid]at hv
 |dt i2=>
  simp only[bI,qaa]at hx;subst hx;simp only[Ref,hid]at hv;simp only[Ref,St.aq,uQ (bT hid),qax];exact hv
 |eT i2 j2=>
  simp only[bI,qaa]at hx;subst hx;simp only[Ref,hid]at hv;simp only[Ref,St.aq,uQ (bT hid),qax];obtain⟨h1,b1,es1,ck1,e1,h2,h3,h4,h5,h6⟩:=hv;rw[hb]at h2;cases h2;simp only[YB,Dh,qaa,qas]at h3;obtain⟨rfl,rfl⟩:=h3;obtain⟨e',h7,h8⟩:=Y5 _ _ h5;exact⟨h1,b,es',ck',e',hb,by simp only[YB,heap_set Dh],h4,h7,by rw[h8];exact h6⟩
 |_=>simp[bI]at hx
variable (bg:∀b,S0 b→S b) (Cy:∀b,S b→S0 b∨w0.heap.size≤b∨own0 b)
include bg Cy
theorem Ig {t kt e:TypeId} {kg vg:Bool} {n:Nat} (ho:o.op=.makeMap t none):
  cj P w0 own0 hvs G S0 o a w st kn γ S (KA aF kn (.SX kg vg n) st.ev):=by
 intro hm bO;have key:=dW.Gz h hm bO (.map kg vg n []) (.map #[] 0) (fun hρ hl=>⟨w.heap.size,#[],0,by simp[dp],heap_alloc_new,⟨by simp,by simp⟩,by simp only[bV]⟩);refine⟨.map (some w.heap.size),w.alloc (.map #[] 0),_,S,.inl ?_,bg,Cy,key.1,?_⟩
 ·simp only[execOp,ho,qb5,Instr.makeMap,Sem.run_bind,run_newObj,Result.andThen_ok,Sem.run_pure,World.alloc_eq]
 ·simp only[lF,Ref,St.aq,uQ bO,qax];exact⟨w.heap.size,by simp[dp],rfl⟩
theorem TB {t:TypeId} (ho:o.op=.makeMap t none):
  cj P w0 own0 hvs G S0 o a w st kn γ S (KA aF kn .Ww st.ev):=by
 intro hm bO;have key:=dW.Gz h hm bO (.iw []) (.map #[] 0) (fun hρ hl=>⟨w.heap.size,#[],0,by simp[dp],heap_alloc_new,⟨by simp,by simp⟩,by simp only[fM]⟩);refine⟨.map (some w.heap.size),w.alloc (.map #[] 0),_,S,.inl ?_,bg,Cy,key.1,?_⟩
 ·simp only[execOp,ho,qb5,Instr.makeMap,Sem.run_bind,run_newObj,Result.andThen_ok,Sem.run_pure,World.alloc_eq]
 ·simp only[lF,Ref,St.aq,uQ bO,qax];exact⟨w.heap.size,by simp[dp],rfl⟩
theorem uz {t kt e:TypeId} {d:TypeDesc} {sh:List Nat} {kg vg:Bool} {n:Nat} {rows:List (List PV)} {es:List MapEntry} {k:AV} {kc:List PV} {key:Value} (ht:P.underlying t=some (.map kt e)) (ou:cQ P 6 kt=some sh) (wT:ey P kt=some kg) (hd:P.underlying kt=some d)
  (hk:keyOf kg n k=some kc) (hr:lF S w (Ref γ S w st.mem) k key) (eL:aF.CZ sh n rows kc) (mF:bV S w kg vg n rows es):
  (∀em,(Instr.checkKey em 10000 kt key).run P w=.ok () w)∧(Instr.findKey kt key es).run P w=.ok (nY n kc rows es 0) w:=by
 obtain⟨p,h1,h2,h3,h4⟩:=lr hk;have TC:=fE (γ:=γ) (st:=st) _ h1 hr;have hoc:=cG.XD wT h2 TC;obtain⟨q1,q2,q3⟩:=eL;have AB:=(gu q2).1;rw[←h3]at hoc;exact⟨fun em=>nA 6 10000 (by omega) em kt sh kc key ou hoc AB,Bb hd (oM ou wT hoc AB rows es 0 mF q3)⟩
theorem za {n:Nat} {t:TypeId} {sh:List Nat} (hs:cQ P n t=some sh):∃d,P.underlying t=some d:=by
 cases n with
 |zero=>simp[cQ]at hs
 |succ n=>
  simp only[cQ]at hs
  split at hs<;>first|exact⟨_,by assumption⟩|cases hs
theorem oN {ok b:Bool} {v:AV} {x:Value} (hv:lF S w (Ref γ S w st.mem) v x):lF S w (Ref γ S w st.mem) (uf ok v b) (if ok=true then .tuple #[x,.bool b]else x):=by
 cases ok with
 |false=>exact hv
 |true=>
  simp only[uf,qax,lF,au];exact⟨[x,.bool b],rfl,x,[.bool b],rfl,hv,.bool b,[],rfl,by simp only[aD],rfl⟩
def nZ (k:List UInt8):List (List UInt8×AV)→List MapEntry→Nat→Option (Nat×Value)
 |(s,_)::rs,e::es,i=>if k=s then some (i,e.val)else nZ k rs es (i+1)
 |_,_,_=>none
omit h bg Cy in
theorem yc (x y:List UInt8):(ByteArray.mk x.toArray==ByteArray.mk y.toArray)=decide (x=y):=by
 have e1:(ByteArray.mk x.toArray==ByteArray.mk y.toArray)=(x.toArray==y.toArray):=rfl;rw[e1,qbX];simp
omit h bg Cy in
theorem vw {ρ:AV→Value→Prop} {k:List UInt8}:∀{rows:List (List UInt8×AV)} {es:List MapEntry} {i:Nat},fM S w ρ rows es→Instr.findNow .string (.string ⟨k.toArray⟩) es i=some (nZ k rows es i)
 |[],es,i,hr=>by simp only[fM]at hr;subst hr;rfl
 |(s,x)::rs,es,i,hr=>by
  simp only[fM]at hr;obtain⟨e,t,rfl,h1,h2,h3⟩:=hr;simp only[Instr.findNow,h1,Instr.sameNow,yc,nZ]
  by_cases sF:k=s
  ·simp[sF]
  ·simp only[sF,qbY,qaW];exact vw h3
omit h bg Cy in
theorem yd {ρ:AV→Value→Prop} {k:List UInt8} {z:AV} {ok:Bool}:∀{rows:List (List UInt8×AV)} {es:List MapEntry} {i:Nat},fM S w ρ rows es→
  (nZ k rows es i=none∧jM aF k z ok rows=.val (uf ok z false))∨∃j v x,nZ k rows es i=some (j,x)∧jM aF k z ok rows=.val (uf ok v true)∧lF S w ρ v x
 |[],es,i,hr=>by simp only[fM]at hr;subst hr;left;exact⟨rfl,rfl⟩
 |(s,x)::rs,es,i,hr=>by
  simp only[fM]at hr;obtain⟨e,t,rfl,h1,h2,h3⟩:=hr
  by_cases sF:k=s
  ·right;refine⟨i,x,e.val,by simp[nZ,sF],?_,h2⟩
   simp[jM,aF,sF]
  ·have e1:jM aF k z ok ((s,x)::rs)=jM aF k z ok rs:=by simp[jM,aF,sF]
   have e2:nZ k ((s,x)::rs) (e::t) i=nZ k rs t (i+1):=by simp[nZ,sF]
   rw[e1,e2];exact yd h3
theorem ye {kt:TypeId} {kg:Bool} {sh:List Nat} {k:AV} {s:List UInt8} {v:Value} (ou:cQ P 6 kt=some sh) (wT:ey P kt=some kg) (sF:oC kg sh k=some s) (hr:lF S w (Ref γ S w st.mem) k v):
  P.underlying kt=some .string∧v=.string ⟨s.toArray⟩:=by
 unfold oC at sF;split at sF
 ·cases sF
 ·split at sF
  ·split at sF
   ·simp only[qaa]at sF;subst sF;simp only[lF,aD]at hr;refine⟨?_,hr⟩;simp only[cQ]at ou;unfold ey at wT;split at ou
    ·cases ou
    ·cases ou
    ·assumption
    ·rename_i ht;rw[ht]at wT;cases wT
    ·rename_i ht;rw[ht]at wT;cases wT
    ·cases ou
   ·cases sF
  ·cases sF
omit h bg Cy in
theorem yf {kt:TypeId} (Di:P.underlying kt=some .string) (d:Nat) (em:Bool) (b:ByteArray):(Instr.checkKey em (d+1) kt (.string b)).run P w=.ok () w:=by
 simp only[Instr.checkKey,Sem.run_bind,run_underlying Di,Result.andThen_ok,Sem.run_pure]
theorem TD {t kt e:TypeId} {m k:Operand} {m' k':bR} {ok:Bool} {sh:List Nat} {kg:Bool} {z:PV} (ho:o.op=.lookup t m k ok) (ht:P.underlying t=some (.map kt e)) (hm:aZ G m=some m') (hk:aZ G k=some k')
  (ou:cQ P 6 kt=some sh) (wT:ey P kt=some kg) (hz:sN P e=some z):
  cj P w0 own0 hvs G S0 o a w st kn γ S (KA aF kn (.Ll kg sh z ok m' k') st.ev):=by
 have h1:=h.fR hm;have h2:=h.fR hk;obtain⟨d,hd⟩:=za h bg Cy ou;obtain⟨zv,rD,ER⟩:=tM (S:=S) (w:=w) hz
 have fin:∀v,(Instr.lookup t (a.eval m) (a.eval k) ok).run P w=.ok v w→(execOp a.eval o).run P w=.ok (.value v) w:=by
  intro v hv;simp only[execOp,ho,Sem.run_bind,hv,Result.andThen_ok,Sem.run_pure]
 have data:∀(b:Nat) (es:Array MapEntry) (ck:Nat) (pX vg:Bool) (n:Nat) (rows:List (List PV)) (kc:List PV),a.eval m=.map (some b)→w.heap[b]? =some (.map es ck)→bV S w pX vg n rows es.toList→kg=pX→z.isAgg=vg→keyOf kg n (st.ev k')=some kc→
   aF.CZ sh n rows kc→oo P w0 own0 hvs G S0 o a w st (uf ok (tv aF vg n rows kc z.cells) (aF.yU n rows kc)):=by
  intro b es ck pX vg n rows kc bZ hb mF Bc AD yg eL;subst Bc;obtain⟨c1,c2⟩:=uz h bg Cy ht ou wT hd yg h2 eL mF
  have fK:jz vg z.cells=z:=by
   subst AD
   cases z<;>rfl
  rcases nB (kc:=kc) (z:=z.cells) (i:=0) mF with⟨g1,g2,g3,g4⟩|⟨g1,en,r,g2,g3,g4,g5,g6,g7⟩
  ·refine aG h bg Cy (u:=if ok=true then .tuple #[zv,.bool false]else zv) (fin _ ?_) ?_
   ·simp only[Instr.lookup,Sem.run_bind,run_underlying ht,Result.andThen_ok,bZ,cH hb (fun _ _ _=>by simp),c1,c2,g2,rD,Sem.run_pure]
   ·have e1:aF.yU n rows kc=false:=g1;rw[e1];exact oN h bg Cy (pK (by rw[g4,fK];exact ER))
  ·refine aG h bg Cy (u:=if ok=true then .tuple #[en.val,.bool true]else en.val) (fin _ ?_) ?_
   ·simp only[Instr.lookup,Sem.run_bind,run_underlying ht,Result.andThen_ok,bZ,cH hb (fun _ _ _=>by simp),c1,c2,g6,Sem.run_pure]
   ·have e1:aF.yU n rows kc=true:=g1;rw[e1];exact oN h bg Cy (pK (by rw[g7];exact g4.val))
 simp only[KA,uW];split
 ·rename_i bZ;rw[bZ]at h1;simp only[lF,aD]at h1
  cases yg:keyOf kg sh.length (st.ev k')with
  |none=>trivial
  |some kc=>
   intro eL;obtain⟨c1,c2⟩:=uz h bg Cy (vg:=false) ht ou wT hd yg h2 eL (es:=[]) (by simp only[bV]);refine aG h bg Cy (u:=if ok=true then .tuple #[zv,.bool false]else zv) (fin _ ?_) (oN h bg Cy (by simp only[lF];exact ER));simp only[Instr.lookup,Sem.run_bind,run_underlying ht,Result.andThen_ok,h1,c1,c2,nY,rD,Sem.run_pure]
 ·rename_i pX vg n rows bZ;rw[bZ]at h1;simp only[lF,aD]at h1;obtain⟨b,es,ck,CO,K6,XE,sR,mF⟩:=h1
  have hb:w.heap[b]? =some (.map es ck):=by
   unfold YB at XE;split at XE
   ·rename_i es' ck' hh;simp only[qaa,qas]at XE;obtain⟨rfl,rfl⟩:=XE;exact hh
   ·cases XE
  cases Bc:kg==pX with
  |false=>trivial
  |true=>
   cases AD:z.isAgg==vg with
   |false=>trivial
   |true=>
    simp only
    have Bc:kg=pX:=by simpa using Bc
    subst Bc
    cases yg:keyOf kg n (st.ev k')with
    |none=>trivial
    |some kc=>exact fun eL=>data b es ck kg vg n rows kc CO hb mF rfl (by simpa using AD) yg eL
 ·rename_i id bZ;rw[bZ]at h1;simp only[lF,Ref]at h1;intro ob bL;simp only[bL]at h1
  cases ob with
  |map pX vg n rows=>
   obtain⟨b,hb,CO⟩:=h1;obtain⟨b',es,ck,fP,hh,sR,mF⟩:=h.mem id _ bL;rw[hb]at fP;cases fP;simp only
   cases Bc:kg==pX with
   |false=>trivial
   |true=>
    cases AD:z.isAgg==vg with
    |false=>trivial
    |true=>
     simp only
     have Bc:kg=pX:=by simpa using Bc
     subst Bc
     cases yg:keyOf kg n (st.ev k')with
     |none=>trivial
     |some kc=>exact fun eL=>data b es ck kg vg n rows kc CO hh mF rfl (by simpa using AD) yg eL
  |iw rows=>
   obtain⟨b,hb,CO⟩:=h1;obtain⟨b',es,ck,fP,hh,sR,mF⟩:=h.mem id _ bL;rw[hb]at fP;cases fP;simp only
   cases sF:oC kg sh (st.ev k')with
   |none=>trivial
   |some s=>
    simp only;obtain⟨Di,WK⟩:=ye h bg Cy ou wT sF h2
    have c1:∀em,(Instr.checkKey em 10000 kt (a.eval k)).run P w=.ok () w:=fun em=>by
     rw[WK];exact yf Di 9999 em _
    have c2:(Instr.findKey kt (a.eval k) es.toList).run P w=.ok (nZ s rows es.toList 0) w:=by
     rw[WK];simp only[Instr.findKey,Sem.run_bind,run_underlying Di,Result.andThen_ok,vw mF,Sem.run_pure]
    rcases yd (k:=s) (z:=.pv z) (ok:=ok) (i:=0) mF with⟨g1,g2⟩|⟨j,v,x,g1,g2,g3⟩
    ·rw[g2];refine aG h bg Cy (u:=if ok=true then .tuple #[zv,.bool false]else zv) (fin _ ?_) (oN h bg Cy (by simp only[lF];exact ER));simp only[Instr.lookup,Sem.run_bind,run_underlying ht,Result.andThen_ok,CO,cH hh (fun _ _ _=>by simp),c1,c2,g1,rD,Sem.run_pure]
    ·rw[g2];refine aG h bg Cy (u:=if ok=true then .tuple #[x,.bool true]else x) (fin _ ?_) (oN h bg Cy g3);simp only[Instr.lookup,Sem.run_bind,run_underlying ht,Result.andThen_ok,CO,cH hh (fun _ _ _=>by simp),c1,c2,g1,Sem.run_pure]
  |_=>trivial
 ·trivial
theorem Bd:∀(n:Nat) {sh:List Nat} {ps qs:List PV} {us vs:List Value},aR sh ps qs→JK ps qs=true→aM S w ps us→aM S w qs vs→us=vs:=by
 intro n sh ps qs us vs hc he hu hv;have:=qU hc he;subst this
 have key:∀(sh:List Nat) (ps:List PV) (us vs:List Value),aR sh ps ps→aM S w ps us→aM S w ps vs→us=vs:=by
  intro sh ps
  induction ps generalizing sh with
  |nil=>intro us vs _ h1 h2;simp only[aM]at h1 h2;rw[h1,h2]
  |cons p ps ih=>
   intro us vs hc h1 h2;simp only[aM]at h1 h2;obtain⟨u,r,rfl,p1,p2⟩:=h1;obtain⟨v,r',rfl,q1,q2⟩:=h2
   have ou:∃k HY,sh=k::HY∧aR HY ps ps∧u=v:=by
    cases sh with
    |nil=>simp[aR]at hc
    |cons k HY=>
     refine⟨k,HY,rfl,?_⟩
     rcases k with _|_|_|k<;>cases p<;>first|(simp[aR]at hc;done)|skip
     all_goals simp only[aD]at p1 q1
     all_goals first|exact⟨hc,by rw[p1,q1]⟩|exact⟨hc.2,by rw[p1,q1]⟩
   obtain⟨k,HY,rfl,h3,rfl⟩:=ou;rw[ih HY _ _ h3 p2 q2]
 exact key sh ps us vs hc hu hv
omit h bg Cy in
theorem zb {x y:Value} (hb:Instr.sameBits 10000 x y=true):(Instr.keyThatStays x y).run P w=.ok y w:=by
 unfold Instr.keyThatStays;rw[qao hb];rfl
omit h bg Cy in
theorem adt {sh:List Nat}:∀(n:Nat) {ps:List PV} {us:List Value},aR sh ps ps→aM S w ps us→(us.zip us).all (fun(x,y)=>Instr.sameBits n x y)=true:=by
 intro n ps us hc hr
 induction ps generalizing sh us with
 |nil=>simp only[aM]at hr;subst hr;rfl
 |cons p ps ih=>
  simp only[aM]at hr;obtain⟨u,r,rfl,p1,p2⟩:=hr
  cases sh with
  |nil=>simp[aR]at hc
  |cons k HY=>
   have h3:aR HY ps ps∧Instr.sameBits n u u=true:=by
    rcases k with _|_|_|k<;>cases p<;>first|(simp[aR]at hc;done)|skip
    all_goals simp only[aD]at p1
    all_goals subst p1
    all_goals first|exact⟨hc,by cases n<;>simp[Instr.sameBits,yc]⟩|exact⟨hc.2,by cases n<;>simp[Instr.sameBits]⟩
   simp only[List.zip_cons_cons,List.all_cons,h3.2,qdm];exact ih h3.1 p2
theorem yh {kt:TypeId} {kg vg:Bool} {n:Nat} {sh:List Nat} {r:List PV} {en:MapEntry} {p:PV} {key:Value} (hk:p.isAgg=kg) (hr:aD S w p key) (hl:p.cells.length=n) (he:sQ S w kg vg n r en) (hc:aR sh p.cells (r.take n)) (hq:JK p.cells (r.take n)=true) (xP:aR sh p.cells p.cells):
  (Instr.keyThatStays en.key key).run P w=.ok key w:=by
 obtain⟨kv,vv,h1,h2,h3,h4,h5,h6⟩:=he;obtain⟨kv',rj,wO,sF⟩:=jQ hk hr;have ht:=(aM.take_drop n h1).1;rw[←h2,qcd,h2]at ht;have Ih:=Bd h bg Cy 0 hc hq wO ht;subst Ih
 have TE:en.key=key:=by rw[h5,←rj]
 rw[TE];refine zb ?_;rw[rj]
 cases kg with
 |true=>
  simp only[valOf];have:=adt (n:=9999) xP wO;show Instr.sameBits (9999+1) _ _=true;simp only[Instr.sameBits,qau,qdm];exact this
 |false=>
  simp only[shapeOf]at sF;obtain⟨x,rfl⟩:=qbJ.1 sF;have:=adt (n:=10000) xP wO;simpa[valOf]using this
theorem Ii {t kt e:TypeId} {m k x:Operand} {m' k' x':bR} {sh:List Nat} {kg:Bool} {n:Nat} (ho:o.op=.mapUpdate t m k x∨o.op=.insert t m k x) (ht:P.underlying t=some (.map kt e)) (hm:aZ G m=some m') (hk:aZ G k=some k') (hx:aZ G x=some x')
  (ou:cQ P 6 kt=some sh) (wT:ey P kt=some kg):
  cj P w0 own0 hvs G S0 o a w st kn γ S (KA aF kn (.Qm kg sh n m' k' x') st.ev):=by
 have h1:=h.fR hm;have h2:=h.fR hk;have h3:=h.fR hx;obtain⟨d,hd⟩:=za h bg Cy ou
 have fin:∀w',(Instr.mapUpdate t (a.eval m) (a.eval k) (a.eval x)).run P w=.ok () w'→(execOp a.eval o).run P w=.ok .skip w':=by
  intro w' hv;rcases ho with ho|ho<;>simp only[execOp,ho,Sem.run_bind,hv,Result.andThen_ok,Sem.run_pure]
 simp only[KA,EJ];split
 ·rename_i id bZ;rw[bZ]at h1;simp only[lF,Ref]at h1;intro ob bL;simp only[bL]at h1
  cases ob with
  |map pX vg qV rows=>
   obtain⟨b,hb,CO⟩:=h1;obtain⟨b',es,ck,fP,hh,sR,mF⟩:=h.mem id _ bL;rw[hb]at fP;cases fP;simp only
   cases Bc:kg==pX with
   |false=>trivial
   |true=>
    have Bc:kg=pX:=by simpa using Bc
    subst Bc;simp only
    cases yg:keyOf kg qV (st.ev k')with
    |none=>trivial
    |some kc=>
     simp only
     cases Y6:keyOf vg n (st.ev x')with
     |none=>trivial
     |some vc=>
      intro eL;obtain⟨c1,c2⟩:=uz h bg Cy ht ou wT hd yg h2 eL mF;obtain⟨p,p1,p2,p3,p4⟩:=lr yg;obtain⟨q,q1,q2,q3,q4⟩:=lr Y6;have TC:=fE (γ:=γ) (st:=st) _ p1 h2;have hrq:=fE (γ:=γ) (st:=st) _ q1 h3;obtain⟨kv,rj,wO,sF⟩:=jQ p2 TC;obtain⟨vv,HK,rI,hvs⟩:=jQ q2 hrq;rw[←p3]at wO;rw[←q3]at rI
      have Be:kv.length=qV:=by rw[aM.length wO,p4]
      have LN:shapeOf kg qV:=Be▸sF
      have bK:∀bn,sQ S w kg vg qV (kc++vc) ⟨a.eval k,a.eval x,bn⟩:=fun bn=>⟨kv,vv,aM.append wO rI,Be,LN,hvs,rj,HK⟩
      rcases nB (kc:=kc) (z:=[]) (i:=0) mF with⟨g1,g2,g3,_⟩|⟨g1,en,r,g2,g3,g4,g5,g6,_⟩
      ·have xg:aF.HS qV rows kc vc=rows++[kc++vc]:=by simp only[aF,g1]
       rw[xg];have key:=dW.vu h bL hb hh (es':=es.push ⟨a.eval k,a.eval x,ck⟩) (ck':=ck+1) (rows':=rows++[kc++vc]) (by simpa using sR.push (e:=⟨a.eval k,a.eval x,ck⟩) rfl) (by simpa using bV.push (bK ck) mF)
        (fun i e he=>⟨e,by rw[Array.getElem?_push_lt (qaK.1 he).1];simpa using (qaK.1 he).2,rfl⟩)
       refine⟨undef,_,γ,S,.inr ⟨fin _ ?_,rfl⟩,bg,Cy,key.1,by simp only[lF]⟩;simp only[Instr.mapUpdate,Sem.run_bind,run_underlying ht,Result.andThen_ok,CO,cH hh (fun _ _ _=>by simp),c1,c2,g2,ga hh (fun _ _ _=>by simp)]
      ·have xg:aF.HS qV rows kc vc=rows.modify (fb qV rows kc) (fun _=>kc++vc):=by simp only[aF,g1]
       rw[xg]
       have K7:es[fb qV rows kc]? =some en:=by simpa using g2
       have Ie:aR sh kc (r.take qV):=eL.2.2 r (qbE g3);have Ij:(Instr.keyThatStays en.key (a.eval k)).run P w=.ok (a.eval k) w:=yh (kt:=kt) h bg Cy p2 TC (by rw[←p3];exact p4) g4 (by rw[←p3];exact Ie) (by rw[←p3];exact g5) (by rw[←p3];exact eL.2.1);have key:=dW.vu h bL hb hh (es':=es.modify (fb qV rows kc) fun e=>{e with key:=a.eval k,val:=a.eval x}) (ck':=ck) (rows':=rows.modify (fb qV rows kc) (fun _=>kc++vc))
        (by rw[qb0];refine gm.modify ?_ _ sR;intro _;rfl)
        (by rw[qb0];exact bV.modify (fun r e _ _ _=>bK e.born) mF)
        (fun i e he=>by
         by_cases hi:i=fb qV rows kc
         ·subst hi;exact⟨{e with key:=a.eval k,val:=a.eval x},by simp[qbk,he],rfl⟩
         ·exact⟨e,by simp[qbk,qbN hi,he],rfl⟩)
       refine⟨undef,_,γ,S,.inr ⟨fin _ ?_,rfl⟩,bg,Cy,key.1,by simp only[lF]⟩;simp only[Instr.mapUpdate,Sem.run_bind,run_underlying ht,Result.andThen_ok,CO,cH hh (fun _ _ _=>by simp),c1,c2,g6,qaA,K7,qaM,qbg,Ij,ga hh (fun _ _ _=>by simp)]
  |iw rows=>
   obtain⟨b,hb,CO⟩:=h1;obtain⟨b',es,ck,fP,hh,sR,mF⟩:=h.mem id _ bL;rw[hb]at fP;cases fP;simp only
   cases sF:oC kg sh (st.ev k')with
   |none=>trivial
   |some s=>
    simp only;split
    ·intro ae6;obtain⟨Di,WK⟩:=ye h bg Cy ou wT sF h2
     have c1:∀em,(Instr.checkKey em 10000 kt (a.eval k)).run P w=.ok () w:=fun em=>by
      rw[WK];exact yf Di 9999 em _
     have c3:∀(rows:List (List UInt8×AV)) (es:List MapEntry) (i:Nat),anew s rows→nZ s rows es i=none:=by
      intro rows
      induction rows with
      |nil=>intro es i _;rfl
      |cons r rows ih=>
       intro es i hn;obtain⟨r1,r2⟩:=r
       cases es with
       |nil=>rfl
       |cons e es=>simp only[nZ,qai hn.1];exact ih es _ hn.2
     have c2:(Instr.findKey kt (a.eval k) es.toList).run P w=.ok none w:=by
      rw[WK];simp only[Instr.findKey,Sem.run_bind,run_underlying Di,Result.andThen_ok,vw mF,Sem.run_pure,c3 rows es.toList 0 ae6]
     have key:=dW.y9 h bL hb hh (go':=.map (es.push ⟨a.eval k,a.eval x,ck⟩) (ck+1)) (ob':=.iw (rows++[(s,st.ev x')])) (fun z v hz hv=>by
       cases z with
       |dt i2=>
        simp only[bI,qaa]at hz;subst hz;simp only[Ref,bL]at hv;simp only[Ref,St.aq,uQ (bT bL),qax];exact hv
       |c8 i2 v2=>simp only[bI,qaa]at hz;subst hz;simp only[Ref,bL]at hv
       |ptr i2 v2=>simp only[bI,qaa]at hz;subst hz;simp only[Ref,bL]at hv
       |cR i2 v2 j2 o2=>simp only[bI,qaa]at hz;subst hz;simp only[Ref,bL]at hv
       |eT i2 v2=>simp only[bI,qaa]at hz;subst hz;simp only[Ref,bL]at hv
       |_=>simp[bI]at hz)
      (fun hρ hl=>by
       refine⟨b,es.push ⟨a.eval k,a.eval x,ck⟩,ck+1,hb,heap_set hh,by simpa using sR.push (e:=⟨a.eval k,a.eval x,ck⟩) rfl,?_⟩
       have XF:∀{ρ:AV→Value→Prop} {S:Nat→Prop} {w:World} (rows:List (List UInt8×AV)) (es:List MapEntry),fM S w ρ rows es→lF S w ρ (st.ev x') (a.eval x)→fM S w ρ (rows++[(s,st.ev x')]) (es++[⟨a.eval k,a.eval x,ck⟩]):=by
        intro ρ S w rows
        induction rows with
        |nil=>intro es h0 hx;simp only[fM]at h0;subst h0;simp only[qbi,fM];exact⟨_,[],rfl,WK,hx,rfl⟩
        |cons r rows ih=>
         intro es h0 hx;obtain⟨r1,r2⟩:=r;simp only[fM]at h0;obtain⟨e,t,rfl,k1,k2,k3⟩:=h0;simp only[qaN,fM];exact⟨e,_,rfl,k1,k2,ih t k3 hx⟩
       have:=XF rows es.toList (fM.later hl hρ mF) (lF.later hl hρ _ h3)
       simpa using this)
     refine⟨undef,_,γ,S,.inr ⟨fin _ ?_,rfl⟩,bg,Cy,key,by simp only[lF]⟩;simp only[Instr.mapUpdate,Sem.run_bind,run_underlying ht,Result.andThen_ok,CO,cH hh (fun _ _ _=>by simp),c1,c2,ga hh (fun _ _ _=>by simp)]
    ·trivial
  |_=>trivial
 ·trivial
theorem LO {t kt e:TypeId} {m k:Operand} {m' k':bR} {sh:List Nat} {kg:Bool} {z:PV} (ho:o.op=.mapEntry t m k) (ht:P.underlying t=some (.map kt e)) (hm:aZ G m=some m') (hk:aZ G k=some k')
  (ou:cQ P 6 kt=some sh) (wT:ey P kt=some kg) (hz:sN P e=some z):
  cj P w0 own0 hvs G S0 o a w st kn γ S (KA aF kn (.sI kg sh z m' k') st.ev):=by
 have h1:=h.fR hm;have h2:=h.fR hk;obtain⟨d,hd⟩:=za h bg Cy ou;obtain⟨zv,rD,ER⟩:=tM (S:=S) (w:=w) hz
 have fin:∀v w',(Instr.mapEntry t (a.eval m) (a.eval k)).run P w=.ok v w'→(execOp a.eval o).run P w=.ok (.value v) w':=by
  intro v w' hv;simp only[execOp,ho,Sem.run_bind,hv,Result.andThen_ok,Sem.run_pure]
 simp only[KA,uX];split
 ·rename_i id bZ;rw[bZ]at h1;simp only[lF,Ref]at h1;intro ob bL;simp only[bL]at h1
  cases ob with
  |map pX vg qV rows=>
   obtain⟨b,hb,CO⟩:=h1;obtain⟨b',es,ck,fP,hh,sR,mF⟩:=h.mem id _ bL;rw[hb]at fP;cases fP;simp only
   cases Bc:kg==pX with
   |false=>trivial
   |true=>
    have Bc:kg=pX:=by simpa using Bc
    subst Bc
    cases AD:z.isAgg==vg with
    |false=>trivial
    |true=>
    have AD:z.isAgg=vg:=by simpa using AD
    simp only
    cases yg:keyOf kg qV (st.ev k')with
    |none=>trivial
    |some kc=>
     intro eL;obtain⟨c1,c2⟩:=uz h bg Cy ht ou wT hd yg h2 eL mF;obtain⟨p,p1,p2,p3,p4⟩:=lr yg;have TC:=fE (γ:=γ) (st:=st) _ p1 h2;obtain⟨kv,rj,wO,sF⟩:=jQ p2 TC;obtain⟨vv,HK,rI,hvs⟩:=jQ AD ER;rw[←p3]at wO
     have Be:kv.length=qV:=by rw[aM.length wO,p4]
     have LN:shapeOf kg qV:=Be▸sF
     have fK:jz vg z.cells=z:=by
      subst AD
      cases z<;>rfl
     rcases nB (kc:=kc) (z:=z.cells) (i:=0) mF with⟨g1,g2,g3,g4⟩|⟨g1,en,r,g2,g3,g4,g5,g6,g7⟩
     ·have xg:aF.sK qV rows kc z.cells=rows++[kc++z.cells]:=by simp only[aF,g1]
      rw[xg];have key:=dW.vu h bL hb hh (es':=es.push ⟨a.eval k,zv,ck⟩) (ck':=ck+1) (rows':=rows++[kc++z.cells]) (by simpa using sR.push (e:=⟨a.eval k,zv,ck⟩) rfl) (by simpa using bV.push (e:=⟨a.eval k,zv,ck⟩) ⟨kv,vv,aM.append wO rI,Be,LN,hvs,rj,HK⟩ mF)
       (fun i e he=>⟨e,by rw[Array.getElem?_push_lt (qaK.1 he).1];simpa using (qaK.1 he).2,rfl⟩)
      refine⟨.tuple #[zv,goInt ck],_,γ,S,.inl (fin _ _ ?_),bg,Cy,key.1,?_⟩
      ·simp only[Instr.mapEntry,Sem.run_bind,run_underlying ht,Result.andThen_ok,CO,cH hh (fun _ _ _=>by simp),c1,c2,g2,rD,ga hh (fun _ _ _=>by simp),Sem.run_pure]
      ·simp only[lF,au];refine⟨[zv,goInt ck],rfl,zv,[goInt ck],rfl,pK (aD.later key.2 _ (by rw[g4,fK];exact ER)),goInt ck,[],rfl,?_,rfl⟩;simp only[Ref,St.aq,uQ (bT bL),qax];refine⟨rfl,b,es.push ⟨a.eval k,zv,ck⟩,ck+1,⟨a.eval k,zv,ck⟩,hb,by simp only[YB,heap_set hh],by simp[aF],?_,rfl⟩;have hl:=bV.len mF;simp only[aF,g3];rw[show((rows.length:Int)).toNat=es.size by simpa using hl.symm];simp
     ·have xg:aF.sK qV rows kc z.cells=rows:=by simp only[aF,g1]
      rw[xg]
      have K7:es[fb qV rows kc]? =some en:=by simpa using g2
      have Ie:aR sh kc (r.take qV):=eL.2.2 r (qbE g3);have Ij:(Instr.keyThatStays en.key (a.eval k)).run P w=.ok (a.eval k) w:=yh (kt:=kt) h bg Cy p2 TC (by rw[←p3];exact p4) g4 (by rw[←p3];exact Ie) (by rw[←p3];exact g5) (by rw[←p3];exact eL.2.1);have hrk:r.take qV=kc:=(qU Ie g5).symm;have key:=dW.vu h bL hb hh (es':=es.modify (fb qV rows kc) fun e=>{e with key:=a.eval k}) (ck':=ck) (rows':=rows)
       (by rw[qb0];refine gm.modify ?_ _ sR;intro _;rfl)
       (by
        rw[qb0]
        have:=bV.modify (g:=fun r=>r) (f:=fun e:MapEntry=>{e with key:=a.eval k}) (j:=fb qV rows kc) (fun r0 e h1 h2 h3=>by
         rw[g3]at h1;cases h1;obtain⟨kv0,vv0,i1,i2,i3,i4,i5,i6⟩:=h3;have XG:=(aM.take_drop qV i1).2;rw[←i2,qda,i2]at XG;refine⟨kv,vv0,?_,Be,LN,i4,rj,i6⟩;rw[←qbR qV r,hrk]
         exact aM.append wO XG) mF
        have e0:rows.modify (fb qV rows kc) (fun r=>r)=rows:=by
         apply qdp
         intro i;simp[List.getElem?_modify]
        rwa [e0]at this)
       (fun i e he=>by
        by_cases hi:i=fb qV rows kc
        ·subst hi;exact⟨{e with key:=a.eval k},by simp[qbk,he],rfl⟩
        ·exact⟨e,by simp[qbk,qbN hi,he],rfl⟩)
      refine⟨.tuple #[en.val,goInt en.born],_,γ,S,.inl (fin _ _ ?_),bg,Cy,key.1,?_⟩
      ·simp only[Instr.mapEntry,Sem.run_bind,run_underlying ht,Result.andThen_ok,CO,cH hh (fun _ _ _=>by simp),c1,c2,g6,qaA,K7,qaM,qbg,Ij,ga hh (fun _ _ _=>by simp),Sem.run_pure]
      ·simp only[lF,au];refine⟨[en.val,goInt en.born],rfl,en.val,[goInt en.born],rfl,pK (aD.later key.2 _ (by rw[g7];exact g4.val)),goInt en.born,[],rfl,?_,rfl⟩;simp only[Ref,St.aq,uQ (bT bL),qax];refine⟨rfl,b,_,ck,{en with key:=a.eval k},hb,by simp only[YB,heap_set hh];rfl,by simp[aF],?_,rfl⟩;simp only[aF,qcb];simp[qbk,K7]
  |_=>trivial
 ·trivial
theorem LP {t kt e:TypeId} {m k x:Operand} {m' k' x':bR} {n:Nat} (ho:o.op=.entryStore t m k x) (hm:aZ G m=some m') (hk:aZ G k=some k') (hx:aZ G x=some x'):
  cj P w0 own0 hvs G S0 o a w st kn γ S (KA aF kn (.AH n m' k' x') st.ev):=by
 have h1:=h.fR hm;have h2:=h.fR hk;have h3:=h.fR hx
 have fin:∀w',(Instr.entryStore t (a.eval m) (a.eval k) (a.eval x)).run P w=.ok () w'→(execOp a.eval o).run P w=.ok .skip w':=by
  intro w' hv;simp only[execOp,ho,Sem.run_bind,hv,Result.andThen_ok,Sem.run_pure]
 simp only[KA,yZ];split
 ·rename_i id mD i bZ kG
  cases hid:id==mD with
  |false=>trivial
  |true=>
   have hid:id=mD:=by simpa using hid
   subst hid;simp only;rw[bZ]at h1;simp only[lF,Ref]at h1;rw[kG]at h2;simp only[lF,Ref]at h2;intro ob bL;simp only[bL]at h1 h2
   cases ob with
   |map kg vg qV rows=>
    obtain⟨b,hb,CO⟩:=h1;obtain⟨b',es,ck,fP,hh,sR,mF⟩:=h.mem id _ bL;rw[hb]at fP;cases fP;obtain⟨_,b2,es2,ck2,en,j1,j2,j3,j4,j5⟩:=h2;rw[hb]at j1;cases j1;simp only[YB,hh,qaa,qas]at j2;obtain⟨rfl,rfl⟩:=j2;simp only
    cases Y6:keyOf vg n (st.ev x')with
    |none=>trivial
    |some vc=>
     intro eL;obtain⟨q,q1,q2,q3,q4⟩:=lr Y6;have hrq:=fE (γ:=γ) (st:=st) _ q1 h3;obtain⟨vv,HK,rI,hvs⟩:=jQ q2 hrq;rw[←q3]at rI;have hfi:=y8 sR j4;have key:=dW.vu h bL hb hh (es':=es.modify i.toNat fun e=>{e with val:=a.eval x}) (ck':=ck) (rows':=aF.PT qV rows i vc)
      (by rw[qb0];refine gm.modify ?_ _ sR;intro _;rfl)
      (by
       rw[qb0]
       exact bV.modify (g:=fun r=>r.take qV++vc) (fun r0 e _ _ h3=>by
        obtain⟨kv0,vv0,i1,i2,i3,i4,i5,i6⟩:=h3;have XG:=(aM.take_drop qV i1).1;rw[←i2,qcd,i2]at XG
        exact⟨kv0,vv,aM.append XG rI,i2,i3,hvs,i5,HK⟩) mF)
      (fun j e he=>by
       by_cases hi:j=i.toNat
       ·subst hi;exact⟨{e with val:=a.eval x},by simp[qbk,he],rfl⟩
       ·exact⟨e,by simp[qbk,qbN hi,he],rfl⟩)
     refine⟨undef,_,γ,S,.inr ⟨fin _ ?_,rfl⟩,bg,Cy,key.1,by simp only[lF]⟩;simp only[Instr.entryStore,Sem.run_bind,CO,cH hh (fun _ _ _=>by simp),Result.andThen_ok,j5,goInt,asInt,asIntOf,Sem.run_pure,hfi,ga hh (fun _ _ _=>by simp)]
   |_=>trivial
 ·trivial
end
end Go.Am
end
section
namespace Go.Am
section
variable {P:Program} {w0:World} {own0:Nat→Prop} {hvs:List Value×List Deferred} {G:Nat→Option (List PV)} {S0:Nat→Prop} {accs:List Nat}
 {γ:Nat→Option Nat} {S:Nat→Prop} {st:St} {a:Act} {w:World} {o:Oper} {kn:Nat}
theorem au.get {ρ:AV→Value→Prop}:∀{xs:List AV} {vs:List Value} {i:Nat} {x:AV},au S w ρ xs vs→xs[i]? =some x→∃v,vs[i]? =some v∧lF S w ρ x v
 |[],_,_,_,_,hi=>by simp at hi
 |y::xs,vs,i,x,h,hi=>by
  simp only[au]at h;obtain⟨v,r,rfl,h1,h2⟩:=h
  cases i with
  |zero=>simp only[qay,qaa]at hi;subst hi;exact⟨v,rfl,h1⟩
  |succ i=>simpa using au.get (i:=i) h2 (by simpa using hi)
theorem aM.get {ρ:AV→Value→Prop}:∀{xs:List PV} {vs:List Value} {i:Nat} {x:PV},aM S w xs vs→xs[i]? =some x→∃v,vs[i]? =some v∧aD S w x v
 |[],_,_,_,_,hi=>by simp at hi
 |y::xs,vs,i,x,h,hi=>by
  simp only[aM]at h;obtain⟨v,r,rfl,h1,h2⟩:=h
  cases i with
  |zero=>simp only[qay,qaa]at hi;subst hi;exact⟨v,rfl,h1⟩
  |succ i=>simpa using aM.get (ρ:=ρ) (i:=i) h2 (by simpa using hi)
theorem au.slice {ρ:AV→Value→Prop} {xs:List AV} {vs:List Value} (off n:Nat) (h:au S w ρ xs vs) (hle:off+n≤xs.length):au S w ρ ((xs.drop off).take n) ((vs.drop off).take n):=by
 have e1:xs=xs.take off++((xs.drop off).take n++(xs.drop off).drop n):=by rw[qbR,qbR]
 have hl:=au.length h;rw[e1]at h;obtain⟨u,v,rfl,h1,h2⟩:=au.split h;obtain⟨v1,v2,rfl,h3,h4⟩:=au.split h2
 have l1:u.length=off:=by rw[au.length h1];simp;omega
 have l2:v1.length=n:=by rw[au.length h3];simp;omega
 rw[show(u++(v1++v2)).drop off=v1++v2 by rw[←l1,qda],show(v1++v2).take n=v1 by rw[←l2,qcd]];exact h3
variable (h:dW w0 own0 hvs G γ S st a w)
variable (bg:∀b,S0 b→S b) (Cy:∀b,S b→S0 b∨w0.heap.size≤b∨own0 b)
include h bg Cy
theorem Ik {s:TypeId} {x:Operand} {x':bR} {f:Nat} {fs:Array Field} {fd:Field} {g:Bool} {n:Option Nat} (ho:o.op=.field s x f) (hs:P.underlying s=some (.struct fs)) (hf:fs[f]? =some fd) (hg:ey P fd.type=some g)
  (hn:match g with|true=>∃m,dK P fd.type=some m∧n=some m|false=>n=none) (hx:aZ G x=some x'):
  cj P w0 own0 hvs G S0 o a w st kn γ S (KA aF kn (.SW x' fd.offset n) st.ev):=by
 have h1:=h.fR hx
 have bN:∀(vs:List Value) v,a.eval x=.agg vs.toArray→(part fd.type vs.toArray fd.offset).run P w=.ok v w→(execOp a.eval o).run P w=.ok (.value v) w:=by
  intro vs v he hv;simp only[execOp,ho,he,Instr.field,Sem.run_bind,run_underlying hs,Result.andThen_ok,hf,asAgg,Sem.run_pure,hv]
 simp only[KA];split
 ·rename_i cs bZ;rw[bZ]at h1;simp only[lF]at h1;obtain⟨vs,he,hr⟩:=h1;have hl:=au.length hr
  cases g with
  |false=>
   simp only at hn;subst hn;simp only[js];split
   ·rename_i v hv;obtain⟨u,hu,LQ⟩:=au.get hr hv;refine aG h bg Cy (bN vs u he ?_) LQ
    have:vs.toArray[fd.offset]? =some u:=by simpa using hu
    simp only[part,Sem.run_bind,ji hg,Result.andThen_ok,qaP,qaW,this,Sem.run_pure]
   ·trivial
  |true=>
   simp only at hn;obtain⟨m,hm,rfl⟩:=hn;simp only[js];split
   ·rename_i hle;refine aG h bg Cy (bN vs (.agg (vs.toArray.extract fd.offset (fd.offset+m))) he ?_) ?_
    ·simp only[part,Sem.run_bind,ji hg,Result.andThen_ok,qax,run_sizeOf hm,Sem.run_pure]
    ·simp only[lF];refine⟨_,?_,au.slice fd.offset m hr hle⟩
     congr 1
     simp[qcV]
   ·trivial
 ·rename_i ps bZ;rw[bZ]at h1;simp only[lF,aD]at h1;obtain⟨vs,he,hr⟩:=h1
  cases g with
  |false=>
   simp only at hn;subst hn;simp only[il];split
   ·rename_i v hv;obtain⟨u,hu,LQ⟩:=aM.get (ρ:=Ref γ S w st.mem) hr hv;refine aG h bg Cy (bN vs u he ?_) (by simp only[lF];exact LQ)
    have:vs.toArray[fd.offset]? =some u:=by simpa using hu
    simp only[part,Sem.run_bind,ji hg,Result.andThen_ok,qaP,qaW,this,Sem.run_pure]
   ·trivial
  |true=>
   simp only at hn;obtain⟨m,hm,rfl⟩:=hn;simp only[il];split
   ·rename_i hle;obtain⟨v,hv,K2⟩:=lq (P:=P) hg hm (by simp) hr hle;refine aG h bg Cy (bN vs v he hv) ?_;simp only[cG,hg]at K2;obtain⟨us,rfl,K2⟩:=K2;simp only[lF,aD];exact⟨us,rfl,K2⟩
   ·trivial
 ·trivial
theorem TF {t e:TypeId} {x i:Operand} {x' i':bR} {m:Nat} (ho:o.op=.index t x i) (ht:P.underlying t=some (.array m e)) (Ic:ey P e=some false) (dH:dK P e=some 1) (hx:aZ G x=some x') (hi:aZ G i=some i'):
  cj P w0 own0 hvs G S0 o a w st kn γ S (KA aF kn (.SV x' i' m) st.ev):=by
 have h1:=h.fR hx;have h2:=h.fR hi
 have bN:∀(vs:List Value) k (j:Int) v,a.eval x=.agg vs.toArray→a.eval i=.int k j→0≤j→j<m→vs[j.toNat]? =some v→(execOp a.eval o).run P w=.ok (.value v) w:=by
  intro vs k j v he hj h0 h1 hv
  have:vs.toArray[j.toNat]? =some v:=by simpa using hv
  simp only[execOp,ho,he,hj,Instr.index,asIntOf,Sem.run_bind,Sem.run_pure,Result.andThen_ok,run_underlying ht,h0,h1,and_self,qax,run_sizeOf dH,qcL,part,ji Ic,qaP,qaW,this]
 simp only[KA];split
 ·rename_i cs k j bZ kG;rw[bZ]at h1;rw[kG]at h2;simp only[lF,aD]at h1 h2;obtain⟨vs,he,hr⟩:=h1;split
  ·rename_i hlen
   have hlen:cs.length=m:=by simpa using hlen
   rintro⟨q1,q2⟩
   have bO:j.toNat<cs.length:=by omega
   obtain⟨u,hu,LQ⟩:=au.get hr (qag bO);refine aG h bg Cy (bN vs k j u he h2 q1 q2 hu) ?_;simp only[aF,qcL,qab,qag bO,qbg];exact LQ
  ·trivial
 ·rename_i cs k j bZ kG;rw[bZ]at h1;rw[kG]at h2;simp only[lF,aD]at h1 h2;obtain⟨vs,he,hr⟩:=h1;split
  ·rename_i hlen
   have hlen:cs.length=m:=by simpa using hlen
   rintro⟨q1,q2⟩
   have bO:j.toNat<cs.length:=by omega
   obtain⟨u,hu,LQ⟩:=aM.get (ρ:=Ref γ S w st.mem) hr (qag bO);refine aG h bg Cy (bN vs k j u he h2 q1 q2 hu) ?_;simp only[aF,qcL,qab,qag bO,qbg,lF];exact LQ
  ·trivial
 ·trivial
theorem TG {t e:TypeId} {x i:Operand} {x' i':bR} {m sz:Nat} (ho:o.op=.indexAddr t x i) (ht:P.underlying t=some (.array m e)) (dH:dK P e=some sz) (hx:aZ G x=some x') (hi:aZ G i=some i'):
  cj P w0 own0 hvs G S0 o a w st kn γ S (KA aF kn (.Lj x' i' m sz) st.ev):=by
 have h1:=h.fR hx;have h2:=h.fR hi
 have bN:∀b off k (j:Int),a.eval x=.pointer (some ⟨b,off,none⟩)→a.eval i=.int k j→0≤j→j<m→(execOp a.eval o).run P w=.ok (.value (.pointer (some ⟨b,off+j.toNat*sz,none⟩))) w:=by
  intro b off k j he hj h0 h1;simp only[execOp,ho,he,hj,Instr.indexAt,asIntOf,Sem.run_bind,Sem.run_pure,Result.andThen_ok,run_underlying ht,Instr.sureAddr,h0,h1,and_self,qax,run_sizeOf dH,gU]
 simp only[KA];split
 ·rename_i id off k j bZ kG;rw[bZ]at h1;rw[kG]at h2;simp only[lF,aD,Ref]at h1 h2;rintro⟨q1,q2⟩;split at h1
  ·rename_i cs hm;obtain⟨b,hb,he⟩:=h1;refine aG h bg Cy (bN b _ _ _ he h2 q1 q2) ?_;simp only[lF,Ref,hm,aF];exact⟨b,hb,rfl⟩
  ·rename_i hm;obtain⟨b,hb,he⟩:=h1;refine aG h bg Cy (bN b _ _ _ he h2 q1 q2) ?_;simp only[lF,Ref,hm,aF];exact⟨b,hb,rfl⟩
  ·rename_i hm;obtain⟨b,hb,he⟩:=h1;refine aG h bg Cy (bN b _ _ _ he h2 q1 q2) ?_;simp only[lF,Ref,hm,aF];exact⟨b,hb,rfl⟩
  ·exact h1.elim
 ·rename_i row off k j bZ kG;rw[bZ]at h1;rw[kG]at h2;simp only[lF,aD]at h1 h2;rintro⟨q1,q2⟩;obtain⟨b,o',c,he,hb,hc,hr⟩:=h1;refine aG h bg Cy (bN b _ _ _ he h2 q1 q2) ?_;simp only[lF,aF];exact⟨b,o',c,by rw[qcg],hb,hc,hr⟩
 ·trivial
omit h bg Cy in
theorem Bf {d:Nat} {t e:TypeId} (ht:P.underlying t=some (.pointer e)):(Op.equalIn (d+1) t (.pointer none) (.pointer none)).run P w=.ok true w:=by
 simp[Op.equalIn,run_underlying ht]
omit h bg Cy in
theorem Il {d:Nat} {t e:TypeId} (ht:P.underlying t=some (.pointer e)) (b:Addr):(Op.equalIn (d+1) t (.pointer (some b)) (.pointer none)).run P w=.ok false w:=by
 simp[Op.equalIn,run_underlying ht]
omit h bg Cy in
theorem Im {d:Nat} {t:TypeId} {p r:Array TypeId} {v:Bool} (ht:P.underlying t=some (.func p r v)):(Op.equalIn (d+1) t .nilFunc .nilFunc).run P w=.ok true w:=by
 simp[Op.equalIn,run_underlying ht]
omit h bg Cy in
theorem Io {d:Nat} {t:TypeId} {p r:Array TypeId} {v:Bool} (ht:P.underlying t=some (.func p r v)) (f:Fn) (a b:Array Value):(Op.equalIn (d+1) t (.func f a b) .nilFunc).run P w=.ok false w:=by
 simp[Op.equalIn,run_underlying ht]
theorem lu {op:BinOp} {t ty:TypeId} {x y:Operand} {u v:Value} {b:Bool} (ho:o.op=.binOp op t x y ty) (hu:a.eval x=u) (hv:a.eval y=v) (hg:∀op,(eqGuard op t x y u v).run P w=.ok () w) (he:(Op.equal t u v).run P w=.ok b w)
  (h1:binOp .eql t u v=(do pure (.bool (←Op.equal t u v)))) (h2:binOp .neq t u v=(do pure (.bool (!(←Op.equal t u v))))):ep P w0 own0 hvs G S0 o a w st kn γ S (mH op b):=by
 unfold mH;split
 ·refine aG h bg Cy (u:=.bool b) ?_ (by simp only[lF,aD]);simp only[execOp,ho,hu,hv,Sem.run_bind,hg,Result.andThen_ok,h1,he,Sem.run_pure]
 ·refine aG h bg Cy (u:=.bool (!b)) ?_ (by simp only[lF,aD];cases b<;>rfl);simp only[execOp,ho,hu,hv,Sem.run_bind,hg,Result.andThen_ok,h2,he,Sem.run_pure]
 ·trivial
omit h bg Cy in
theorem Ip {d:Nat} {t e:TypeId} (ht:P.underlying t=some (.slice e)) (b:Addr) (n c:Nat):(Op.equalIn (d+1) t (.slice (some b) n c) (.slice none 0 0)).run P w=.ok false w:=by
 simp[Op.equalIn,run_underlying ht]
theorem LR {t e ty:TypeId} {x:Operand} {x':bR} (ho:o.op=.binOp .eql t x (.const (.slice none 0 0)) ty) (ht:P.underlying t=some (.slice e)) (hx:aZ G x=some x'):
  cj P w0 own0 hvs G S0 o a w st kn γ S (KA aF kn (.CX x') st.ev):=by
 have h1:=h.fR hx;simp only[KA];split
 ·rename_i rows sp bZ;rw[bZ]at h1;simp only[lF,aD]at h1;intro MB;obtain⟨b,cap,he,fF,hr⟩:=h1
  have hrn:rows++sp≠[]:=by
   rcases MB with MB|MB
   ·simp at MB
   ·exact MB
  cases b with
  |none=>
   rcases hr with⟨h3,h4⟩|⟨_,_,_,_,h3,-⟩
   ·exact absurd (by rw[h3,h4];rfl) hrn
   ·cases h3
  |some b=>
   exact lu (kn:=kn) h bg Cy ho he (v:=.slice none 0 0) rfl (fun op=>by simp only[eqGuard];cases op<;>rfl) (Ip (d:=9999) ht b _ _) rfl rfl
 ·trivial
theorem ET {op:BinOp} {t ty:TypeId} {x y:Operand} {x' y':bR} {fn:Bool} (ho:o.op=.binOp op t x y ty) (ht:match fn with|false=>∃e,P.underlying t=some (.pointer e)|true=>∃p r v,P.underlying t=some (.func p r v)) (hx:aZ G x=some x') (hy:aZ G y=some y'):
  cj P w0 own0 hvs G S0 o a w st kn γ S (KA aF kn (.AG fn op x' y') st.ev):=by
 have h1:=h.fR hx;have h2:=h.fR hy;simp only[KA,EI]
 cases fn with
 |false=>
  obtain⟨e,ht⟩:=ht
  have gp:∀p q op,(eqGuard op t x y (.pointer p) (.pointer q)).run P w=.ok () w:=by intro p q op;simp only[eqGuard];cases op<;>rfl
  have kR:∀b,a.eval x=.pointer (some b)→a.eval y=.pointer none→ep P w0 own0 hvs G S0 o a w st kn γ S (mH op false):=fun b hxv XH=>
   lu h bg Cy ho hxv XH (gp _ _) (Il (d:=9999) ht b) rfl rfl
  simp only;split
  ·rename_i kG;rw[kG]at h2;simp only[lF,aD]at h2;split
   ·rename_i bZ;rw[bZ]at h1;simp only[lF,aD]at h1;exact lu h bg Cy ho h1 h2 (gp _ _) (Bf (d:=9999) ht) rfl rfl
   ·rename_i t' bZ;rw[bZ]at h1;simp only[lF]at h1;exact lu h bg Cy ho h1 h2 (gp _ _) (Bf (d:=9999) ht) rfl rfl
   ·rename_i id off bZ;rw[bZ]at h1;simp only[lF,Ref]at h1;split at h1
    ·obtain⟨b,hb,he⟩:=h1;exact kR _ he h2
    ·obtain⟨b,hb,he⟩:=h1;exact kR _ he h2
    ·obtain⟨b,hb,he⟩:=h1;exact kR _ he h2
    ·exact h1.elim
   ·rename_i row off bZ;rw[bZ]at h1;simp only[lF]at h1;obtain⟨b,o',c,he,_⟩:=h1;exact kR _ he h2
   ·rename_i ps bZ;rw[bZ]at h1;simp only[lF,aD]at h1;obtain⟨b,o',c,he,_⟩:=h1;exact kR _ he h2
   ·trivial
  ·trivial
 |true=>
  obtain⟨p,r,v,ht⟩:=ht
  have gf:∀f u v op,(eqGuard op t x y (.func f u v) .nilFunc).run P w=.ok () w:=by intro f u v op;simp only[eqGuard];cases op<;>rfl
  have g0:∀op,(eqGuard op t x y .nilFunc .nilFunc).run P w=.ok () w:=by intro op;simp only[eqGuard];cases op<;>rfl
  have kR:∀f u v,a.eval x=.func f u v→a.eval y=.nilFunc→ep P w0 own0 hvs G S0 o a w st kn γ S (mH op false):=fun f u v hxv XH=>
   lu h bg Cy ho hxv XH (gf _ _ _) (Io (d:=9999) ht f u v) rfl rfl
  simp only;split
  ·rename_i kG;rw[kG]at h2;simp only[lF,aD]at h2;split
   ·rename_i bZ;rw[bZ]at h1;simp only[lF,aD]at h1;exact lu h bg Cy ho h1 h2 g0 (Im (d:=9999) ht) rfl rfl
   ·rename_i f c bZ;rw[bZ]at h1;simp only[lF]at h1;obtain⟨vs,he,_⟩:=h1;exact kR _ _ _ he h2
   ·rename_i f c bZ;rw[bZ]at h1;simp only[lF]at h1;obtain⟨vs,he,_⟩:=h1;exact kR _ _ _ he h2
   ·rename_i f c bZ;rw[bZ]at h1;simp only[lF,aD]at h1;obtain⟨vs,he,_⟩:=h1;exact kR _ _ _ he h2
   ·trivial
  ·trivial
theorem Iq {t:TypeId} {x:Operand} {x':bR} {lo:Option Operand} {k1 k2:IntKind} {e:TypeId} (ho:o.op=.slice t x lo (some (.const (.int k1 0))) (some (.const (.int k2 0)))) (CL:lo=none∨∃k,lo=some (.const (.int k 0))) (ht:P.underlying t=some (.slice e)) (dH:∃n,dK P e=some n) (hx:aZ G x=some x'):
  cj P w0 own0 hvs G S0 o a w st kn γ S (KA aF kn (.SQ x') st.ev):=by
 obtain⟨n,hn⟩:=dH;have h1:=h.fR hx
 have bN:∀b l c,a.eval x=.slice b l c→∃b',(execOp a.eval o).run P w=.ok (.value (.slice b' 0 0)) w:=by
  intro b l c he
  have e0:(Instr.sliceBound (.int k2 0) c .slice3Acap).run P w=.ok 0 w:=by simp[Instr.sliceBound,asIntOf]
  have e1:(Instr.sliceBound (.int k1 0) 0 .slice3B).run P w=.ok 0 w:=by simp[Instr.sliceBound,asIntOf]
  have c1:a.eval (.const (.int k1 0))=.int k1 0:=rfl;have c2:a.eval (.const (.int k2 0))=.int k2 0:=rfl
  rcases CL with rfl|⟨k,rfl⟩
  ·refine⟨b,?_⟩;simp only[execOp,ho,Instr.sliceAt,Instr.slice,Instr.sliceBounds,Sem.run_bind,run_underlying ht,Result.andThen_ok,he,qaM,qb5,c1,c2,qax,e0,e1,Sem.run_pure,run_sizeOf hn]
  ·have c3:a.eval (.const (.int k 0))=.int k 0:=rfl
   have e2:(Instr.sliceBound (.int k 0) 0 .slice3C).run P w=.ok 0 w:=by simp[Instr.sliceBound,asIntOf]
   refine⟨b,?_⟩;simp only[execOp,ho,Instr.sliceAt,Instr.slice,Instr.sliceBounds,Sem.run_bind,run_underlying ht,Result.andThen_ok,he,qaM,qb5,c1,c2,c3,qax,e0,e1,e2,Option.isSome_some,Sem.run_pure,run_sizeOf hn]
 have fin:∀b l c,a.eval x=.slice b l c→oo P w0 own0 hvs G S0 o a w st (.full []):=by
  intro b l c he;obtain⟨b',fP⟩:=bN b l c he;exact aG h bg Cy fP (by simp only[lF];exact⟨b',rfl,.inl trivial⟩)
 simp only[KA];split
 ·rename_i bZ;rw[bZ]at h1;simp only[lF,aD]at h1;obtain⟨b,c,he,_⟩:=h1;exact fin _ _ _ he
 ·rename_i bZ;rw[bZ]at h1;simp only[lF]at h1;obtain⟨b,he,_⟩:=h1;exact fin _ _ _ he
 ·rename_i id bq bZ;rw[bZ]at h1;simp only[lF,Ref]at h1;intro ob bL;simp only[bL]at h1
  cases ob with
  |rows sz rs bm=>
   by_cases hv:bq=bm
   ·subst hv;simp only[qau];obtain⟨b,k,he,_⟩:=h1.2 rfl;exact fin _ _ _ he
   ·simp only[qar.2 hv];trivial
  |eO rs bm=>
   by_cases hv:bq=bm
   ·subst hv;simp only[qau];have h2:=h1.2 rfl;simp only[aD]at h2;obtain⟨b,k,he,_⟩:=h2;exact fin _ _ _ he
   ·simp only[qar.2 hv];trivial
  |_=>trivial
 ·trivial
theorem TH {t e:TypeId} {x:Operand} {x':bR} {m:Nat} (ho:o.op=.slice t x none none none) (ht:P.underlying t=some (.array m e)) (dH:dK P e=some 1) (hx:aZ G x=some x'):
  cj P w0 own0 hvs G S0 o a w st kn γ S (KA aF kn (.SU x' m) st.ev):=by
 have h1:=h.fR hx;simp only[KA];split
 ·rename_i row off bZ;rw[bZ]at h1;simp only[lF]at h1;split
  ·rename_i hle;have hle:off+m≤row.length:=qaH hle;obtain⟨b,o',c,he,hb,hc,hr⟩:=h1
   have bN:∃b',(execOp a.eval o).run P w=.ok (.value (.slice (some b') m m)) w∧b'=⟨b,o'+off,none⟩:=by
    refine⟨_,?_,rfl⟩;simp only[execOp,ho,he,Instr.sliceAt,Instr.sliceBounds,Instr.sureAddr,Sem.run_bind,run_underlying ht,Result.andThen_ok,qb5,Sem.run_pure,run_sizeOf dH,qdt,qdu]
    by_cases hm:m=0
    ·simp[hm]
    ·simp[hm,Addr.add]
   obtain⟨b',bN,rfl⟩:=bN;refine aG h bg Cy bN ?_
   have hlen:(((row.drop off).take m).map fun p=>[p]).length=m:=by simp;omega
   simp only[lF,hlen];refine⟨_,rfl,.inr ⟨b,o'+off,c,1,rfl,hb,hc,?_,?_⟩⟩
   ·intro r hr;obtain⟨p,_,rfl⟩:=qaw.1 hr;rfl
   ·have key:∀(ps:List PV) (o:Nat),dm S w ps c o→bM S w (ps.map fun p=>[p]) c o:=by
     intro ps
     induction ps with
     |nil=>intro o _;simp only[qaF,bM]
     |cons p ps ih=>
      intro o hh;simp only[dm]at hh;simp only[qaj,bM,dm,qcm,qck];exact⟨hh.1,ih _ hh.2⟩
    exact key _ _ ((hr.drop off).take m)
  ·trivial
 ·trivial
theorem Ir {t e:TypeId} {sz:Nat} {x:Operand} {x':bR} {lo hi:Option Operand} {De:Option bR} {gQ:bR} (ho:o.op=.slice t x lo hi none) (ht:P.underlying t=some (.slice e)) (dH:dK P e=some sz) (hx:aZ G x=some x')
  (CL:jO G lo=some De) (GF:jO G hi=some (some gQ)) (hl:De=none∨De=some (.k (.int .i64 0))):
  cj P w0 own0 hvs G S0 o a w st kn γ S (KA aF kn (.UM sz x' gQ) st.ev):=by
 simp only[KA];split
 ·rename_i k hv bZ;simp only[ru];split
  ·rename_i id bq hev1;have h1:=h.fR hx;rw[hev1]at h1;simp only[lF,Ref]at h1;intro ob bL;simp only[bL]at h1
   cases ob with
   |rows lM rs bm=>
    by_cases HK:bq=bm
    ·subst HK;simp only[qau];rintro⟨b0,b1,b2,b3⟩;obtain⟨a1,cap,q1,q2,q3⟩:=h1.2 rfl;have hH:=iV h bg Cy GF (l:=some hv) (by simp only[cX,bZ])
     obtain⟨l,hL,hl0⟩:∃l:Option Int,((lo.map a.eval=none∧l=none)∨∃k n,lo.map a.eval=some (.int k n)∧l=some n)∧l.getD 0=0:=by
      rcases hl with hl|hl
      ·subst hl;exact⟨none,iV h bg Cy CL (by simp only[cX]),rfl⟩
      ·subst hl;exact⟨some 0,iV h bg Cy CL (by simp only[cX,St.ev]),rfl⟩
     have bN:=pI h ho ht dH hL hH q1 q2 (by rw[hl0];exact Int.le_refl _) (by rw[hl0];simpa using b1) (by simp;omega);rw[hl0]at bN
     have zc:∀(q:Addr),q.add (0*sz)=q:=by intro q;simp[Addr.add]
     have e1:(if cap=(0:Int).toNat then a1 else a1.map (·.add ((0:Int).toNat*sz)))=a1:=by
      split
      ·rfl
      ·cases a1 with
       |none=>rfl
       |some q=>simp[Addr.add]
     rw[e1]at bN;refine⟨_,w,γ,S,.inl bN,bg,Cy,dW.setObj h bL (fun z v hz hv=>jY bL z v hz hv) (fun hρ=>?_),?_⟩
     ·have hO:=h.mem id _ bL
      rcases hO with⟨k1,k2⟩|⟨b,c,e',k1,k2,k3,k4,k5⟩
      ·left;exact⟨k1,by simp[aF,k2]⟩
      ·right
       refine⟨b,c,e',k1,k2,?_,?_,?_⟩
       ·refine qbr (qaL _ ?_) k3;simp only[aF,qaT,qbH];omega
       ·simp only[aF];exact(k4.drop _).take _
       ·simp only[aF];have:=(bM.drop 0 k4 k5).take (hv.toNat-0);simpa using this
     ·simp only[lF,Ref,St.aq,uQ (bT bL),qax];refine⟨⟨qak _,rfl⟩,fun _=>⟨a1,cap,?_,?_,q3⟩⟩
      ·simp only[aF,qaT,qbH,qbg,Int.toNat_zero,qdu]
       congr 1
       omega
      ·simp only[aF,qaT,qbH];omega
    ·simp only[qar.2 HK];trivial
   |_=>trivial
  ·trivial
 ·trivial
theorem TI {t kt:TypeId} {e:TypeId} {x:Operand} {x':bR} {c:Call} (ho:o.op=.call c) (hc:c.callee=.builtin .len) (ha:c.args=#[x]) (pY:c.argTypes=#[t])
  (ht:P.underlying t=some (.map kt e)) (hx:aZ G x=some x'):
  cj P w0 own0 hvs G S0 o a w st kn γ S (KA aF kn (.Wx x') st.ev):=by
 have h1:=h.fR hx
 have Df:a.eval x=.map none→(execOp a.eval o).run P w=.ok (.value (.int .i64 0)) w:=by
  intro he;simp only[execOp,ho,resolve,hc,ha,pY,Sem.run_bind,Sem.run_pure,Result.andThen_ok,invoke,builtin];simp[he,Builtin.len_,run_underlying ht,goInt]
 have XI:∀b es ck,a.eval x=.map (some b)→w.heap[b]? =some (.map es ck)→(execOp a.eval o).run P w=.ok (.value (.int .i64 es.size)) w:=by
  intro b es ck he hb;have hg:=cH (P:=P) hb (fun _ _ _=>by simp);simp only[execOp,ho,resolve,hc,ha,pY,Sem.run_bind,Sem.run_pure,Result.andThen_ok,invoke,builtin];simp[he,Builtin.len_,run_underlying ht,goInt,hg]
 simp only[KA,uw];split
 ·rename_i bZ;rw[bZ]at h1;simp only[lF,aD]at h1;exact aG h bg Cy (Df h1) (by simp only[lF,aD])
 ·rename_i kg vg n rows bZ;rw[bZ]at h1;simp only[lF,aD]at h1;obtain⟨b,es,ck,he,hs,hm,sR,mF⟩:=h1
  have hb:w.heap[b]? =some (.map es ck):=by
   unfold YB at hm;split at hm
   ·rename_i es' ck' hh;simp only[qaa,qas]at hm;obtain⟨rfl,rfl⟩:=hm;exact hh
   ·cases hm
  have hl:=bV.len mF;exact aG h bg Cy (XI b es ck he hb) (by simp only[lF,aD,aF,←hl,qcx])
 ·rename_i id bZ;rw[bZ]at h1;simp only[lF,Ref]at h1;intro ob bL;simp only[bL]at h1
  cases ob with
  |map kg vg n rows=>
   obtain⟨b,hb,he⟩:=h1;obtain⟨b',es,ck,fP,hh,sR,mF⟩:=h.mem id _ bL;rw[hb]at fP;cases fP;have hl:=bV.len mF;exact aG h bg Cy (XI b es ck he hh) (by simp only[lF,aD,aF,←hl,qcx])
  |_=>trivial
 ·trivial
theorem TJ {t:TypeId} {x:Operand} {x':bR} (ho:o.op=.range t x) (ht:P.underlying t=some .string) (hx:aZ G x=some x'):
  cj P w0 own0 hvs G S0 o a w st kn γ S (KA aF kn (.Wy x') st.ev):=by
 have h1:=h.fR hx;simp only[KA];split
 ·rename_i s bZ;rw[bZ]at h1;simp only[lF,aD]at h1;intro hm bO;have key:=dW.Gz h hm bO (.fz s 0) (.stringIter ⟨s.toArray⟩ 0) (fun hρ hl=>⟨w.heap.size,by simp[dp],heap_alloc_new,Int.le_refl _⟩);refine⟨.pointer (some ⟨w.heap.size,0,none⟩),w.alloc (.stringIter ⟨s.toArray⟩ 0),_,S,.inl ?_,bg,Cy,key.1,?_⟩
  ·simp only[execOp,ho,h1,Instr.range,Sem.run_bind,run_underlying ht,Result.andThen_ok,Sem.run_pure,run_newObj,World.alloc_eq]
  ·simp only[lF,Ref,St.aq,uQ bO,qax];exact⟨w.heap.size,by simp[dp],rfl⟩
 ·trivial
theorem TK {x:Operand} {x':bR} (ho:o.op=.next x true) (hx:aZ G x=some x'):
  cj P w0 own0 hvs G S0 o a w st kn γ S (KA aF kn (.Wz x') st.ev):=by
 have h1:=h.fR hx;simp only[KA,ae2];split
 ·rename_i id bZ;rw[bZ]at h1;simp only[lF,Ref]at h1;intro ob bL;simp only[bL]at h1
  cases ob with
  |fz s pos=>
   obtain⟨b,hb,he⟩:=h1;obtain⟨b',fP,hh,hp⟩:=h.mem id _ bL;rw[hb]at fP;cases fP;have hg:=cH (P:=P) hh (fun _ _ _=>by simp);simp only
   by_cases bO:pos<s.length
   ·have e1:aF.lt pos (aF.wY s)=true:=by simp only[aF];exact qbT bO
    rw[e1]
    have dH:pos.toNat<(ByteArray.mk s.toArray).size:=by simp[ByteArray.size];omega
    have key:=dW.y9 h bL hb hh (go':=.stringIter ⟨s.toArray⟩ (pos.toNat+(Utf8.decode ⟨s.toArray⟩ pos.toNat).2)) (ob':=.fz s (aF.Lu pos (aF.C0 s pos))) (fun z v hz hv=>by
      cases z with
      |ptr i2 v2=>
       simp only[bI,qaa]at hz;subst hz;simp only[Ref,bL]at hv;simp only[Ref,St.aq,uQ (bT bL),qax];exact hv
      |c8 i2 v2=>simp only[bI,qaa]at hz;subst hz;simp only[Ref,bL]at hv
      |dt i2=>simp only[bI,qaa]at hz;subst hz;simp only[Ref,bL]at hv
      |cR i2 v2 j2 o2=>simp only[bI,qaa]at hz;subst hz;simp only[Ref,bL]at hv
      |eT i2 v2=>simp only[bI,qaa]at hz;subst hz;simp only[Ref,bL]at hv
      |_=>simp[bI]at hz)
     (fun hρ hl=>⟨b,hb,by rw[heap_set hh];congr 2;simp only[aF];omega,by simp only[aF];omega⟩)
    refine⟨.tuple #[.bool true,goInt pos.toNat,.int .i32 (Utf8.decode ⟨s.toArray⟩ pos.toNat).1],_,γ,S,.inl ?_,bg,Cy,key,?_⟩
    ·simp only[execOp,ho,he,Instr.next,Sem.run_bind,hg,Result.andThen_ok,dH,qax,ga hh (fun _ _ _=>by simp),Sem.run_pure]
    ·simp only[lF,aD,aM];refine⟨[.bool true,goInt pos.toNat,.int .i32 (Utf8.decode ⟨s.toArray⟩ pos.toNat).1],rfl,_,_,rfl,rfl,_,_,rfl,?_,_,_,rfl,rfl,rfl⟩;simp only[goInt];congr 1;omega
   ·have e1:aF.lt pos (aF.wY s)=false:=by simp only[aF];exact qa4 bO
    rw[e1]
    have dH:¬pos.toNat<(ByteArray.mk s.toArray).size:=by simp[ByteArray.size];omega
    refine aG h bg Cy (u:=.tuple #[.bool false]) ?_ (by simp only[lF,aD,aM];exact⟨[.bool false],rfl,_,_,rfl,rfl,rfl⟩);simp only[execOp,ho,he,Instr.next,Sem.run_bind,hg,Result.andThen_ok,dH,qaW,Sem.run_pure]
  |_=>trivial
 ·trivial
theorem TL {t kt e:TypeId} {x:Operand} {x':bR} (ho:o.op=.range t x) (ht:P.underlying t=some (.map kt e)) (hx:aZ G x=some x'):
  cj P w0 own0 hvs G S0 o a w st kn γ S (KA aF kn (.WA x') st.ev):=by
 have h1:=h.fR hx;simp only[KA];split
 ·rename_i kg vg n rows bZ;rw[bZ]at h1;simp only[lF,aD]at h1;obtain⟨b,es,ck,he,hs,zd,sR,mF⟩:=h1
  have hb:w.heap[b]? =some (.map es ck):=by
   unfold YB at zd;split at zd
   ·rename_i es' ck' hh;simp only[qaa,qas]at zd;obtain⟨rfl,rfl⟩:=zd;exact hh
   ·cases zd
  have hg:=cH (P:=P) hb (fun _ _ _=>by simp);intro hm bO
  have key:=dW.Gz h hm bO (.eu (.mp kg vg n rows) []) (.mapIter (some b) ck #[] ck) (fun hρ hl=>by
   refine⟨w.heap.size,b,es,ck,#[],by simp[dp],heap_alloc_new,(hl b hs).1,(hl b hs).2.2.trans zd,sR,bV.later hl _ mF,fun i e' _=>by simp,fun i r hr=>by simp at hr⟩)
  refine⟨.pointer (some ⟨w.heap.size,0,none⟩),w.alloc (.mapIter (some b) ck #[] ck),_,S,.inl ?_,bg,Cy,key.1,?_⟩
  ·simp only[execOp,ho,he,Instr.range,Sem.run_bind,run_underlying ht,Result.andThen_ok,hg,Sem.run_pure,run_newObj,World.alloc_eq]
  ·simp only[lF,Ref,St.aq,uQ bO,qax];exact⟨w.heap.size,by simp[dp],rfl⟩
 ·rename_i bZ;rw[bZ]at h1;simp only[lF,aD]at h1;intro hm bO;have key:=dW.Gz h hm bO (.eu .oh []) (.mapIter none 0 #[] 0) (fun hρ hl=>⟨w.heap.size,by simp[dp],heap_alloc_new⟩);refine⟨.pointer (some ⟨w.heap.size,0,none⟩),w.alloc (.mapIter none 0 #[] 0),_,S,.inl ?_,bg,Cy,key.1,?_⟩
  ·simp only[execOp,ho,h1,Instr.range,Sem.run_bind,run_underlying ht,Result.andThen_ok,Sem.run_pure,run_newObj,World.alloc_eq]
  ·simp only[lF,Ref,St.aq,uQ bO,qax];exact⟨w.heap.size,by simp[dp],rfl⟩
 ·trivial
end
end Go.Am
end
section
namespace Go.Am
section
variable {P:Program} {w0:World} {own0:Nat→Prop} {hvs:List Value×List Deferred} {G:Nat→Option (List PV)} {S0:Nat→Prop} {accs:List Nat}
 {γ:Nat→Option Nat} {S:Nat→Prop} {st:St} {a:Act} {w:World} {o:Oper} {kn:Nat}
theorem Dj (n:Nat) (hn:0<n):∃c w',c<n∧(choose (.mapNext n)).run P w=.ok c w'∧(w'=w∨w'=w.drew):=by
 rw[run_choose_drew]
 by_cases hf:Question.forced (.mapNext n)=true
 ·exact⟨0,w,hn,by rw[qao hf],.inl rfl⟩
 ·refine⟨_,w.drew,?_,by rw[qai hf],.inr rfl⟩;simp only[Question.cut];exact Nat.mod_lt _ hn
variable (h:dW w0 own0 hvs G γ S st a w)
variable (bg:∀b,S0 b→S b) (Cy:∀b,S b→S0 b∨w0.heap.size≤b∨own0 b)
include h bg Cy
theorem LS {x:Operand} {x':bR} (ho:o.op=.next x false) (hx:aZ G x=some x'):
  cj P w0 own0 hvs G S0 o a w st kn γ S (KA aF kn (.Gr x') st.ev):=by
 have h1:=h.fR hx;simp only[KA,ae3];split
 ·rename_i id bZ;rw[bZ]at h1;simp only[lF,Ref]at h1;intro ob bL;simp only[bL]at h1
  cases ob with
  |eu src seen=>
   obtain⟨b,hb,he⟩:=h1;have hO:=h.mem id _ bL;simp only[eK]at hO;split at hO
   ·
    obtain⟨b',fP,hh⟩:=hO;rw[hb]at fP;cases fP;have hg:=cH (P:=P) hh (fun _ _ _=>by simp);refine aG h bg Cy (u:=.tuple #[.bool false]) ?_ (by simp only[lF,aD,aM];exact⟨[.bool false],rfl,_,_,rfl,rfl,rfl⟩);simp only[execOp,ho,he,Instr.next,Sem.run_bind,hg,Result.andThen_ok,Sem.run_pure]
   ·rename_i kg vg n rows;obtain⟨b',mb,es,ck,sb,fP,hh,LU,zd,sR,mF,Bg,vx⟩:=hO;rw[hb]at fP;cases fP
    have hm:w.heap[mb]? =some (.map es ck):=by
     unfold YB at zd;split at zd
     ·rename_i XJ;simp only[qaa,qas]at zd;obtain⟨rfl,rfl⟩:=zd;exact XJ
     ·cases zd
    have hg:=cH (P:=P) hh (fun _ _ _=>by simp);have hgm:=cH (P:=P) hm (fun _ _ _=>by simp);have hlen:=bV.len mF
    have dY:es.size=rows.length:=by simpa using hlen
    have Is:∀e∈es,e.born<ck:=fun e he=>sR.1 e (by simpa using he)
    have c1:(!sb.isEmpty&& !es.isEmpty&&es.all fun x=>decide (x.born≥ck))=false:=by
     cases hes0:es.isEmpty with
     |true=>simp
     |false=>
      have p9:0<es.size:=by
       rcases qdf es.size with h0|h0
       ·rw[Array.size_eq_zero_iff]at h0;subst h0;simp at hes0
       ·exact h0
      have:(es.all fun x=>decide (x.born≥ck))=false:=by
       rw[Bool.eq_false_iff];intro bS;rw[Array.all_eq_true]at bS;have h2:=bS 0 p9;have h3:=Is es[0] (qds p9);simp only[qae]at h2;omega
      simp[this]
    have c2:((es.filter fun e=> !sb.contains e.born).filter fun x=>decide (x.born<ck))=es.filter fun e=> !sb.contains e.born:=by
     rw[Array.filter_eq_self];intro e he;exact qbT (Is e (qcO.1 he).1)
    have c3:((es.filter fun e=> !sb.contains e.born).filter fun x=>decide (x.born≥ck))=#[]:=by
     rw[Array.filter_eq_empty_iff];intro e he hh;have:=Is e (qcO.1 he).1;simp only[qae]at hh;omega
    simp only
    cases hd:aF.AM seen rows with
    |true=>
     simp only
     have bS:∀i,i<rows.length→seen.contains i=true:=by
      intro i hi;simp only[aF,qa1,qbU]at hd;exact hd i hi
     have c4:(es.filter fun e=> !sb.contains e.born)=#[]:=by
      rw[Array.filter_eq_empty_iff];intro e he hh;obtain⟨i,hi,rfl⟩:=Array.mem_iff_getElem.1 he;have:=Bg i es[i] (qbd hi);rw[bS i (by omega)]at this;rw[this]at hh;cases hh
     refine aG h bg Cy (u:=.tuple #[.bool false]) ?_ (by simp only[lF,aD,aM];exact⟨[.bool false],rfl,_,_,rfl,rfl,rfl⟩)
     have c5:(choose (.mapNext 1)).run P w=.ok 0 w:=by rw[run_choose_drew];rfl
     simp only[execOp,ho,he,Instr.next,Sem.run_bind,hg,hgm,Result.andThen_ok,c1,qaP,qaW,c2,c3,c4];simp[c5];intro hf;simp[Question.forced]at hf
    |false=>
     simp only
     have hex:∃i,i<rows.length∧seen.contains i=false:=by
      by_cases hx:∃i,i<rows.length∧seen.contains i=false
      ·exact hx
      ·exfalso
       have:aF.AM seen rows=true:=by
        simp only[aF,qa1,qbU];intro i hi
        by_cases hc:seen.contains i=true
        ·exact hc
        ·exact absurd ⟨i,hi,by simpa using hc⟩ hx
       rw[this]at hd;cases hd
     obtain⟨i0,hi0,hs00⟩:=hex
     let left:=es.filter fun e=> !sb.contains e.born
     have MB:0<left.size:=by
      have:es[i0]'(by omega)∈left:=by
       refine qcO.2 ⟨qds _,?_⟩;rw[Bg i0 _ (qbd (by omega)),hs00];rfl
      exact Array.size_pos_of_mem this
     obtain⟨c,w',hc,Ie,Iu⟩:=Dj (P:=P) (w:=w) left.size MB;have hle:left[c]∈left:=qds hc;obtain⟨hle1,hle2⟩:=qcO.1 hle;obtain⟨i,hi,Dg⟩:=Array.mem_iff_getElem.1 hle1
     have qR:seen.contains i=false:=by
      have:=Bg i _ (qbd hi);rw[Dg]at this;rw[←this];simpa using hle2
     have hw:w'.heap=w.heap∧w'.os=w.os∧w'.tape=w.tape∧w'.output=w.output:=by
      rcases Iu with rfl|rfl<;>exact⟨rfl,rfl,rfl,rfl⟩
     have ke:dW w0 own0 hvs G γ S st a w':=by
      rcases Iu with rfl|rfl
      ·exact h
      ·exact dW.drew h
     refine⟨i,⟨by omega,qR⟩,?_⟩
     have GH:w'.heap[b]? =some (.mapIter (some mb) ck sb ck):=by rw[hw.1];exact hh
     have hma':YB w' mb=some (es,ck):=by unfold YB;rw[hw.1];exact zd
     have hes':bV S w' kg vg n rows es.toList:=bV.later (w:=w) (fun k hk=>⟨hk,dC (by rw[hw.1])⟩) _ mF
     have key:=dW.y9 ke bL hb GH (go':=.mapIter (some mb) ck (sb.push left[c].born) ck) (ob':=.eu (.mp kg vg n rows) (i::seen)) (fun z v hz hv=>by
       cases z with
       |ptr i2 v2=>
        simp only[bI,qaa]at hz;subst hz;simp only[Ref,bL]at hv;simp only[Ref,St.aq,uQ (bT bL),qax];exact hv
       |c8 i2 v2=>simp only[bI,qaa]at hz;subst hz;simp only[Ref,bL]at hv
       |dt i2=>simp only[bI,qaa]at hz;subst hz;simp only[Ref,bL]at hv
       |cR i2 v2 j2 o2=>simp only[bI,qaa]at hz;subst hz;simp only[Ref,bL]at hv
       |eT i2 v2=>simp only[bI,qaa]at hz;subst hz;simp only[Ref,bL]at hv
       |_=>simp[bI]at hz)
      (fun hρ hl=>by
       refine⟨b,mb,es,ck,sb.push left[c].born,hb,heap_set GH,LU,(hl mb LU).2.2.trans hma',sR,bV.later hl _ hes',fun j e hje=>?_,fun i' r' ni=>by have e1:=(qbq ni).1;subst e1;exact⟨left[c],by rw[←Dg];exact qbd hi,by simp⟩⟩;have hj:=Bg j e hje;obtain⟨xe,WY⟩:=qaK.1 hje;rw[Array.contains_push,hj,List.contains_cons];rw[Bool.or_comm]
       congr 1
       rw[qbX];simp only[qbA];constructor
       ·intro hbe;have hp:=sR.2;rw[qaU]at hp
        rcases qcG j i with bO|heq|GJ
        ·have:=hp j i (by simpa using xe) (by simpa using hi) bO;simp only[qcX]at this;rw[WY,Dg]at this;omega
        ·exact heq
        ·have:=hp i j (by simpa using hi) (by simpa using xe) GJ;simp only[qcX]at this;rw[WY,Dg]at this;omega
       ·intro TP;subst TP;rw[←WY,Dg])
     have bK:rows[i]? =some rows[i]:=qag (by omega);obtain⟨en,K7,XK⟩:=bV.get mF bK
     have TQ:en=left[c]:=by
      have:es.toList[i]? =some es[i]:=by simpa using qbd hi
      rw[this]at K7;cases K7;exact Dg
     subst TQ
     have uk:rows.getD i []=rows[i]:=by rw[qab,bK];rfl
     have hlw:bf S w S {w' with heap:=w'.heap.setIfInBounds b (.mapIter (some mb) ck (sb.push left[c].born) ck)}:=fun k hk=>⟨hk,dC (by
      have Qv:k≠b:=fun e=>(h.own id b hb).1 (e▸hk)
      simp[qbe (qbN Qv),hw.1])⟩
     refine⟨.tuple #[.bool true,left[c].key,left[c].val],_,γ,S,.inl ?_,bg,Cy,key,?_⟩
     ·have dH:(left.map some).size=left.size:=by simp
      have c6:(left.map some)[c]? =some (some left[c]):=by simp[hc]
      have c7:((if left.isEmpty=true then #[none]else #[])++(left++#[]).map some:Array (Option MapEntry))=left.map some:=by
       have:left.isEmpty=false:=by
        rw[Array.isEmpty_eq_false_iff];intro e0;rw[e0]at MB;simp at MB
       rw[this];simp
      simp only[execOp,ho,he,Instr.next,Sem.run_bind,hg,hgm,Result.andThen_ok,c1,qaP,qaW,c2,c3];show((((choose (.mapNext ((if left.isEmpty=true then #[none]else #[])++(left++#[]).map some:Array (Option MapEntry)).size)).run P w).andThen _).andThen _)=_;rw[c7,dH,Ie];simp only[Result.andThen_ok];rw[c6];simp only[Sem.run_bind,ga GH (fun _ _ _=>by simp),Result.andThen_ok,Sem.run_pure]
     ·simp only[lF,aD,aM,aF,uk];exact⟨[.bool true,left[c].key,left[c].val],rfl,_,_,rfl,rfl,_,_,rfl,aD.later hlw _ XK.key,_,_,rfl,aD.later hlw _ XK.val,rfl⟩
   ·exact hO.elim
  |_=>trivial
 ·trivial
theorem LV {x:Operand} {x':bR} (ho:o.op=.entry x) (hx:aZ G x=some x'):
  cj P w0 own0 hvs G S0 o a w st kn γ S (KA aF kn (.Gs x') st.ev):=by
 have h1:=h.fR hx;simp only[KA,ux];split
 ·rename_i id bZ;rw[bZ]at h1;simp only[lF,Ref]at h1;intro ob bL;simp only[bL]at h1
  cases ob with
  |eu src seen=>
   cases src with
   |mp kg vg n rows=>
    cases seen with
    |nil=>trivial
    |cons i seen=>
     obtain⟨b,hb,he⟩:=h1;have hO:=h.mem id _ bL;simp only[eK]at hO;obtain⟨b',mb,es,ck,sb,fP,hh,LU,zd,sR,mF,Bg,vx⟩:=hO;rw[hb]at fP;cases fP
     have hm:w.heap[mb]? =some (.map es ck):=by
      unfold YB at zd;split at zd
      ·rename_i XJ;simp only[qaa,qas]at zd;obtain⟨rfl,rfl⟩:=zd;exact XJ
      ·cases zd
     have hg:=cH (P:=P) hh (fun _ _ _=>by simp);have hgm:=cH (P:=P) hm (fun _ _ _=>by simp);obtain⟨e,Dg,hbk⟩:=vx i seen rfl;obtain⟨hi,hei'⟩:=qaK.1 Dg;have hlen:=bV.len mF
     have dY:es.size=rows.length:=by simpa using hlen
     have hnd:(es.toList.map (·.born)).Nodup:=by
      rw[List.nodup_iff_pairwise_ne,qca];exact sR.2.imp (fun h=>Nat.ne_of_lt h)
     have hf:es.find? (·.born==e.born)=some e:=by
      rw[←Array.find?_toList];exact find_born e es.toList hnd (by rw[←hei'];simp)
     have bK:rows[i]? =some rows[i]:=qag (by omega);obtain⟨en,K7,XK⟩:=bV.get mF bK
     have TQ:en=e:=by
      have h2:es.toList[i]? =some e:=by simpa using Dg
      rw[h2]at K7;cases K7;rfl
     subst TQ
     have uk:rows.getD i []=rows[i]:=by rw[qab,bK];rfl
     refine aG h bg Cy (u:=.tuple #[en.key,en.val]) ?_ ?_
     ·simp only[execOp,ho,he,Instr.entry,Sem.run_bind,hg,hgm,Result.andThen_ok,hbk,bne_self_eq_false,qaP,qaW,hf,Sem.run_pure]
     ·simp only[lF,aD,aM,aF,uk];exact⟨[en.key,en.val],rfl,_,_,rfl,XK.key,_,_,rfl,XK.val,rfl⟩
   |_=>trivial
  |_=>trivial
 ·trivial
end
end Go.Am
end
