import Derived.MapKept
import Derived.Laws.NewFold
import Derived.Laws.IdiomRangeMap
import Derived.Test.YtfaccbkibjkfjaaGreatDoorT03
set_option linter.all false
set_option maxRecDepth 100000
set_option maxHeartbeats 1000000
section
namespace Go.Am
section
variable {P:Program} {S:Nat→Prop} {w:World}
theorem cD.Yl {t:TypeId} {p:PV} {v:Value} {kg:Bool} (hg:eu P t=some kg) (hk:p.isAgg=kg) (hr:aJ S w p v):cD P S w t p.cells v:=by
 unfold cD;rw[hg]
 cases kg with
 |true=>
  cases p with
  |agg ps=>simp only[aJ]at hr;simpa only[PV.cells]using hr
  |_=>simp[PV.isAgg]at hk
 |false=>
  refine⟨p,?_,hr⟩
  cases p with
  |agg ps=>simp[PV.isAgg]at hk
  |_=>rfl
theorem cD.entry {t:TypeId} {r:List PV} {kv vv:List Value} {kg:Bool} {kn:Nat} (hg:eu P t=some kg) (hr:a7 S w r (kv++vv)) (hk:kv.length=kn) (hs:shapeOf kg kn):cD P S w t (r.take kn) (valOf kg kv):=by
 have h1:=(a7.take_drop kn hr).1;rw[←hk,List.take_left,hk]at h1;unfold cD;rw[hg]
 cases kg with
 |true=>exact⟨kv,rfl,h1⟩
 |false=>
  simp only[shapeOf]at hs;subst hs;obtain⟨x,rfl⟩:=List.length_eq_one_iff.1 hk;have hl:=a7.length h1;obtain⟨p,hp⟩:=List.length_eq_one_iff.1 hl.symm;rw[hp]at h1 ⊢;simp only[a7]at h1;obtain⟨v,rr,he,h2,rfl⟩:=h1;simp only[List.cons.injEq,and_true]at he;exact⟨p,rfl,by subst he;exact h2⟩
theorem cI {b:Nat} {o:Go.Obj} (hb:w.heap[b]? =some o) (hc:∀c e f,o≠.cells c e f):(getObj b).run P w=.ok o w:=by
 cases o with
 |cells c e f=>exact absurd rfl (hc c e f)
 |_=>simp[getObj,Sem.run,hb]
theorem gw {b:Nat} {o o':Go.Obj} (hb:w.heap[b]? =some o) (hc:∀c e f,o≠.cells c e f):(setObj b o').run P w=.ok () {w with heap:=w.heap.setIfInBounds b o'}:=by
 cases o with
 |cells c e f=>exact absurd rfl (hc c e f)
 |_=>simp[setObj,Sem.run,hb]
theorem pb {d:Nat} {em:Bool} {go:TypeId→Option (List Nat)} (ih:∀(t:TypeId) (k:List Nat) (ps:List PV) (u:Value),go t=some k→cD P S w t ps u→ps.length=k.length→(Instr.checkKey em d t u).run P w=.ok () w)
  (JH:∀t k,go t=some k→∃g,eu P t=some g∧(g=false→k.length=1)) {ps:List PV} {us:List Value} (hu:a7 S w ps us):
  ∀(fs:List Field) (Xx sh:List Nat),cX P go Xx fs=some sh→ps.length=sh.length→
   (forIn fs PUnit.unit fun(f:Field) (_:PUnit)=>(if f.name≠ "_" then do Instr.checkKey em d f.type (←part f.type us.toArray f.offset);pure (ForInStep.yield PUnit.unit)else pure (ForInStep.yield PUnit.unit):Sem (ForInStep PUnit))).run P w=.ok PUnit.unit w
 |[],Xx,sh,hs,hp=>by simp
 |f::fs,Xx,sh,hs,hp=>by
  simp only[cX]at hs;split at hs
  ·cases hs
  ·rename_i hf
   have hf1:f.name≠ "_" :=fun e=>hf (.inl e)
   have Ul:f.offset=Xx.length:=by
    by_cases e:f.offset=Xx.length
    ·exact e
    ·exact absurd (.inr e) hf
   split at hs
   ·rename_i k hk;split at hs
    ·rename_i dZ;obtain⟨g,hg,pw⟩:=JH _ _ hk
     have hlen:∀(fs:List Field) (a b:List Nat),cX P go a fs=some b→a.length≤b.length:=by
      intro fs
      induction fs with
      |nil=>intro a b h;simp only[cX,Option.some.injEq]at h;subst h;exact Nat.le_refl _
      |cons f fs Yh=>
       intro a b h;simp only[cX]at h;split at h
       ·cases h
       ·split at h
        ·split at h
         ·have:=Yh _ _ h;simp at this;omega
         ·cases h
        ·cases h
     have hle:=hlen _ _ _ hs;simp only[List.length_append]at hle;obtain⟨v,hv,L9⟩:=mc (P:=P) (off:=f.offset) hg dZ pw hu (by omega);have h3:=ih _ _ _ _ hk L9 (by simp;omega);have h4:=pb ih JH hu fs (Xx++k) sh hs hp;simp only[List.forIn_cons,Sem.run_bind];rw[if_pos hf1];simp only[Sem.run_bind,hv,Result.andThen_ok,h3,Sem.run_pure];exact h4
    ·cases hs
   ·cases hs
theorem wW {d k:Nat} {em:Bool} {e:TypeId} (ha:eu P e=some false) (hn:bZ P e=some 1) {ps:List PV} {us:List Value} (hu:a7 S w ps us)
  (ih:∀(p:PV) (u:Value),aJ S w p u→(Instr.checkKey em d e u).run P w=.ok () w):
  ∀(m i:Nat),ps.length=i+m→
   (forIn (List.range' i m) PUnit.unit fun(j:Nat) (_:PUnit)=>(do Instr.checkKey em d e (←part e us.toArray (j*(←sizeOf e)));pure (ForInStep.yield PUnit.unit):Sem (ForInStep PUnit))).run P w=.ok PUnit.unit w:=by
 intro m
 induction m with
 |zero=>intro i hp;simp
 |succ m ihm=>
  intro i hp;obtain⟨x,hx,MR⟩:=mc (P:=P) (off:=i) ha hn (fun _=>rfl) hu (by omega);simp only[cD,ha]at MR;obtain⟨p,Xw,MR⟩:=MR;rw[List.range'_succ];simp only[List.forIn_cons,Sem.run_bind,run_sizeOf hn,Nat.mul_one,hx,ih _ _ MR,Result.andThen_ok,Sem.run_pure];have:=ihm (i+1) (by omega);simpa only[Sem.run_bind,run_sizeOf hn,Nat.mul_one]using this
theorem oD:∀(n d:Nat),n≤d→∀(em:Bool) (t:TypeId) (k:List Nat) (ps:List PV) (u:Value),cV P n t=some k→cD P S w t ps u→ps.length=k.length→
   (Instr.checkKey em d t u).run P w=.ok () w
 |0,d,_,em,t,k,ps,u,hs,_,_=>by simp[cV]at hs
 |n+1,0,hd,em,t,k,ps,u,hs,_,_=>by omega
 |n+1,d+1,hd,em,t,k,ps,u,hs,hu,hp=>by
  simp only[cV]at hs;split at hs
  ·rename_i ht;simp only[Instr.checkKey,Sem.run_bind,run_underlying ht,Result.andThen_ok,Sem.run_pure]
  ·rename_i kk ht;simp only[Instr.checkKey,Sem.run_bind,run_underlying ht,Result.andThen_ok,Sem.run_pure]
  ·rename_i ht;simp only[Instr.checkKey,Sem.run_bind,run_underlying ht,Result.andThen_ok,Sem.run_pure]
  ·rename_i fs ht
   have ha:eu P t=some true:=by unfold eu;rw[ht]
   simp only[cD,ha]at hu;obtain⟨us,rfl,hu⟩:=hu;split at hs
   ·cases hs
   ·have:=pb (em:=em) (d:=d) (fun t k ps u h1 h2 h3=>oD n d (by omega) em t k ps u h1 h2 h3) (fun t k h=>vh h) hu fs.toList [] k hs hp;simp only[Instr.checkKey,Sem.run_bind,run_underlying ht,Result.andThen_ok];rw[←Array.forIn_toList,this];rfl
  ·rename_i m e ht
   have ha:eu P t=some true:=by unfold eu;rw[ht]
   simp only[cD,ha]at hu;obtain⟨us,rfl,hu⟩:=hu;split at hs
   ·rename_i kk hk;split at hs
    ·rename_i hae;obtain⟨JH,dZ⟩:=hae;simp only[Option.some.injEq]at hs;subst hs;simp only[List.length_replicate]at hp;have:=wW (k:=kk) (em:=em) (d:=d) JH dZ hu (fun p u h1=>oD n d (by omega) em e [kk] [p] u hk (by simp only[cD,JH];exact⟨p,rfl,h1⟩) rfl) m 0 (by omega);simp only[Instr.checkKey,Sem.run_bind,run_underlying ht,Result.andThen_ok];simp only[Std.Legacy.Range.forIn_eq_forIn_range',Std.Legacy.Range.size,Nat.sub_zero,Nat.add_one_sub_one,Nat.div_one]
     rw[this];rfl
    ·cases hs
   ·cases hs
  ·cases hs
def pc (kn:Nat) (kc:List PV):List (List PV)→List MapEntry→Nat→Option (Nat×Value)
 |r::rs,e::es,i=>match bw kc (r.take kn)with
  |true=>some (i,e.val)
  |false=>pc kn kc rs es (i+1)
 |_,_,_=>none
theorem pW {kt:TypeId} {sh:List Nat} {kg vg:Bool} {kn:Nat} (hs:cV P 6 kt=some sh) (hg:eu P kt=some kg) {kc:List PV} {key:Value} (hk:cD P S w kt kc key) (Xv:kc.length=sh.length):
  ∀(rows:List (List PV)) (es:List MapEntry) (i:Nat),bU S w kg vg kn rows es→(∀r∈rows,aX sh kc (r.take kn))→(Instr.findAsking kt key es i).run P w=.ok (pc kn kc rows es i) w
 |[],es,i,hr,_=>by simp only[bU]at hr;subst hr;simp[Instr.findAsking,pc]
 |r::rs,es,i,hr,hc=>by
  simp only[bU]at hr;obtain⟨e,t,kv,vv,rfl,h1,h2,h3,h4,h5,h6,h7⟩:=hr;have AJ:=hc r List.mem_cons_self;have hl:=gJ AJ
  have he:cD P S w kt (r.take kn) e.key:=by rw[h5];exact cD.entry hg h1 h2 h3
  have bJ:(Op.equal kt key e.key).run P w=.ok (bw kc (r.take kn)) w:=mX 6 10000 (by omega) kt sh _ _ _ _ hs hk he Xv hl.2 AJ;simp only[Instr.findAsking,Sem.run_bind,bJ,Result.andThen_ok,pc]
  cases bw kc (r.take kn)with
  |true=>simp
  |false=>
   simp only[Bool.false_eq_true,if_false];exact pW hs hg hk Xv rs t (i+1) h7 (fun r' ri=>hc r' (List.mem_cons_of_mem _ ri))
theorem wX {kt:TypeId} {d:TypeDesc} (hd:P.underlying kt=some d) {x y:Value} {b:Bool} (h:Instr.sameNow d x y=some b):(Op.equal kt x y).run P w=.ok b w:=by
 unfold Instr.sameNow at h;split at h
 ·split at h
  ·rename_i hk;simp only[Option.some.injEq]at h;subst h;subst hk;exact run_equalIn_int w 9999 kt _ _ _ _ hd
  ·cases h
 ·simp only[Option.some.injEq]at h;subst h;refine(run_equalIn_string w 9999 kt _ _ hd).trans ?_
  congr 1
  rename_i a b
  have e1:(a==b)=(a.data==b.data):=by cases a;cases b;rfl
  rw[e1,Bool.eq_iff_iff];simp only[beq_iff_eq,ByteArray.toList_eq];constructor
  ·intro e;exact by simpa using congrArg List.toArray e
  ·intro e;rw[e]
 ·simp only[Option.some.injEq]at h;subst h;exact run_equalIn_bool' w 9999 kt _ _ hd
 ·cases h
theorem wY {kt:TypeId} {d:TypeDesc} (hd:P.underlying kt=some d) {key:Value}:∀(es:List MapEntry) (i:Nat) {r:Option (Nat×Value)},Instr.findNow d key es i=some r→(Instr.findAsking kt key es i).run P w=.ok r w
 |[],i,r,h=>by simp only[Instr.findNow,Option.some.injEq]at h;subst h;simp[Instr.findAsking]
 |e::es,i,r,h=>by
  simp only[Instr.findNow]at h;split at h
  ·rename_i hn;simp only[Option.some.injEq]at h;subst h;simp only[Instr.findAsking,Sem.run_bind,wX hd hn,Result.andThen_ok,if_true,Sem.run_pure]
  ·rename_i hn;simp only[Instr.findAsking,Sem.run_bind,wX hd hn,Result.andThen_ok,Bool.false_eq_true,if_false];exact wY hd es (i+1) h
  ·cases h
theorem Cy {kt:TypeId} {d:TypeDesc} (hd:P.underlying kt=some d) {key:Value} {es:List MapEntry} {r:Option (Nat×Value)} (h:(Instr.findAsking kt key es 0).run P w=.ok r w):(Instr.findKey kt key es).run P w=.ok r w:=by
 simp only[Instr.findKey,Sem.run_bind,run_underlying hd,Result.andThen_ok]
 cases hn:Instr.findNow d key es 0 with
 |none=>exact h
 |some q=>
  have:=wY (w:=w) hd es 0 hn;rw[this]at h;simp only[Result.ok.injEq,and_true]at h;subst h;rfl
theorem bU.len {kg vg:Bool} {kn:Nat}:∀{rows:List (List PV)} {es:List MapEntry},bU S w kg vg kn rows es→es.length=rows.length
 |[],_,h=>by simp only[bU]at h;subst h;rfl
 |r::rs,_,h=>by
  simp only[bU]at h;obtain⟨e,t,kv,vv,rfl,_,_,_,_,_,_,h7⟩:=h;simp[bU.len h7]
def ur (S:Nat→Prop) (w:World) (kg vg:Bool) (kn:Nat) (r:List PV) (e:MapEntry):Prop:=
 ∃kv vv,a7 S w r (kv++vv)∧kv.length=kn∧shapeOf kg kn∧shapeOf vg vv.length∧e.key=valOf kg kv∧e.val=valOf vg vv
theorem bU.get {kg vg:Bool} {kn:Nat}:∀{rows:List (List PV)} {es:List MapEntry} {j:Nat} {r:List PV},bU S w kg vg kn rows es→rows[j]? =some r→∃e,es[j]? =some e∧ur S w kg vg kn r e
 |[],_,_,_,_,hj=>by simp at hj
 |r::rs,_,j,r',h,hj=>by
  simp only[bU]at h;obtain⟨e,t,kv,vv,rfl,h1,h2,h3,h4,h5,h6,h7⟩:=h
  cases j with
  |zero=>simp only[List.getElem?_cons_zero,Option.some.injEq]at hj;subst hj;exact⟨e,rfl,kv,vv,h1,h2,h3,h4,h5,h6⟩
  |succ j=>simpa using bU.get (j:=j) h7 (by simpa using hj)
theorem bU.cons {kg vg:Bool} {kn:Nat} {r:List PV} {rs:List (List PV)} {e:MapEntry} {t:List MapEntry} (h:ur S w kg vg kn r e) (ht:bU S w kg vg kn rs t):bU S w kg vg kn (r::rs) (e::t):=by
 obtain⟨kv,vv,h1,h2,h3,h4,h5,h6⟩:=h;simp only[bU];exact⟨e,t,kv,vv,rfl,h1,h2,h3,h4,h5,h6,ht⟩
theorem bU.AK {kg vg:Bool} {kn:Nat} {r:List PV} {rs:List (List PV)} {es:List MapEntry} (h:bU S w kg vg kn (r::rs) es):∃e t,es=e::t∧ur S w kg vg kn r e∧bU S w kg vg kn rs t:=by
 simp only[bU]at h;obtain⟨e,t,kv,vv,rfl,h1,h2,h3,h4,h5,h6,h7⟩:=h;exact⟨e,t,rfl,⟨kv,vv,h1,h2,h3,h4,h5,h6⟩,h7⟩
theorem bU.push {kg vg:Bool} {kn:Nat} {r:List PV} {e:MapEntry} (he:ur S w kg vg kn r e):∀{rows:List (List PV)} {es:List MapEntry},bU S w kg vg kn rows es→bU S w kg vg kn (rows++[r]) (es++[e])
 |[],_,h=>by simp only[bU]at h;subst h;exact bU.cons he (by simp only[bU])
 |r'::rs,_,h=>by
  obtain⟨e',t,rfl,h1,h2⟩:=h.AK;exact bU.cons h1 (bU.push he h2)
theorem bU.modify {kg vg:Bool} {kn:Nat} {g:List PV→List PV} {f:MapEntry→MapEntry}:∀{rows:List (List PV)} {es:List MapEntry} {j:Nat},(∀r e,rows[j]? =some r→es[j]? =some e→ur S w kg vg kn r e→ur S w kg vg kn (g r) (f e))→bU S w kg vg kn rows es→bU S w kg vg kn (rows.modify j g) (es.modify j f)
 |[],_,j,_,h=>by simp only[bU]at h;subst h;cases j<;>simp[bU]
 |r'::rs,_,0,hf,h=>by
  obtain⟨e',t,rfl,h1,h2⟩:=h.AK;simp only[List.modify_zero_cons];exact bU.cons (hf r' e' rfl rfl h1) h2
 |r'::rs,_,j+1,hf,h=>by
  obtain⟨e',t,rfl,h1,h2⟩:=h.AK;simp only[List.modify_succ_cons];exact bU.cons h1 (bU.modify (fun r e h1 h2=>hf r e (by simpa using h1) (by simpa using h2)) h2)
theorem oE {kg vg:Bool} {kn:Nat} {kc z:List PV}:∀{rows:List (List PV)} {es:List MapEntry} {i:Nat},bU S w kg vg kn rows es→
  (dP kn rows kc=false∧pc kn kc rows es i=none∧fe kn rows kc=rows.length∧jn kn rows kc z=z)∨
  (dP kn rows kc=true∧∃e r,es[fe kn rows kc]? =some e∧rows[fe kn rows kc]? =some r∧ur S w kg vg kn r e∧bw kc (r.take kn)=true∧pc kn kc rows es i=some (i+fe kn rows kc,e.val)∧jn kn rows kc z=r.drop kn)
 |[],_,i,h=>by simp only[bU]at h;subst h;left;simp[dP,pc,fe,jn]
 |r::rs,_,i,h=>by
  obtain⟨e,t,rfl,h1,h2⟩:=h.AK
  cases hc:bw kc (r.take kn)with
  |true=>
   right
   refine⟨by simp[dP,hc],e,r,?_⟩;simp[fe,List.findIdx_cons,hc,pc,jn,h1]
  |false=>
   rcases oE (kc:=kc) (z:=z) (i:=i+1) h2 with⟨g1,g2,g3,g4⟩|⟨g1,e',r',g2,g3,g4,g5,g6,g7⟩
   ·left
    refine⟨by simpa[dP,hc]using g1,by simp only[pc,hc];exact g2,?_,?_⟩
    ·simpa[fe,List.findIdx_cons,hc]using g3
    ·simpa[jn,hc]using g4
   ·right
    have hix:fe kn (r::rs) kc=fe kn rs kc+1:=by simp[fe,List.findIdx_cons,hc]
    refine⟨by simpa[dP,hc]using g1,e',r',by rw[hix];simpa using g2,by rw[hix];simpa using g3,g4,g5,?_,?_⟩
    ·simp only[pc,hc,hix];rw[g6,show i+1+fe kn rs kc=i+(fe kn rs kc+1) by omega]
    ·simpa[jn,hc]using g7
theorem gD.push {es:List MapEntry} {ck:Nat} {e:MapEntry} (h:gD es ck) (he:e.born=ck):gD (es++[e]) (ck+1):=by
 refine⟨fun x hx=>?_,?_⟩
 ·rcases List.mem_append.1 hx with hx|hx
  ·have:=h.1 x hx;omega
  ·simp only[List.mem_singleton]at hx;subst hx;omega
 ·rw[List.pairwise_append];refine⟨h.2,by simp,fun a ha b hb=>?_⟩;simp only[List.mem_singleton]at hb;subst hb;have:=h.1 a ha;omega
theorem gD.iff {es:List MapEntry} {ck:Nat}:gD es ck↔(∀n∈es.map (·.born),n<ck)∧(es.map (·.born)).Pairwise (·<·):=by
 unfold gD;rw[List.pairwise_map];constructor
 ·rintro⟨h1,h2⟩;refine⟨fun n hn=>?_,h2⟩;obtain⟨e,he,rfl⟩:=List.mem_map.1 hn;exact h1 e he
 ·rintro⟨h1,h2⟩;exact⟨fun e he=>h1 _ (List.mem_map_of_mem he),h2⟩
theorem vi {f:MapEntry→MapEntry} (hf:∀e,(f e).born=e.born):∀(es:List MapEntry) (j:Nat),(es.modify j f).map (·.born)=es.map (·.born)
 |[],j=>by cases j<;>simp
 |e::es,0=>by simp[hf]
 |e::es,j+1=>by simp[vi hf es j]
theorem gD.modify {es:List MapEntry} {ck:Nat} {f:MapEntry→MapEntry} (hf:∀e,(f e).born=e.born) (j:Nat) (h:gD es ck):gD (es.modify j f) ck:=by
 rw[gD.iff]at h ⊢;rw[vi hf];exact h
theorem AL {es:Array MapEntry} {ck i:Nat} {e:MapEntry} (h:gD es.toList ck) (he:es[i]? =some e):es.findIdx? (fun x=>(x.born:Int)==(e.born:Int))=some i:=by
 rw[Array.findIdx?_eq_some_iff_findIdx_eq];obtain⟨bL,Et⟩:=Array.getElem?_eq_some_iff.1 he;refine⟨bL,?_⟩;rw[Array.findIdx_eq bL];refine⟨by simp[Et],fun j hj=>?_⟩;have hp:=List.pairwise_iff_getElem.1 h.2 j i (by simpa using Nat.lt_trans hj bL) (by simpa using bL) hj;simp only[Array.getElem_toList]at hp;rw[Et]at hp
 have:¬((es[j].born:Int)=(e.born:Int)):=by omega
 simpa using this
theorem sq:∀{sh:List Nat} {a b:List PV},aX sh a b→bw a b=true→a=b
 |[],[],[],_,_=>rfl
 |k::sh,x::a,y::b,hc,he=>by
  have ih:=fun h1 h2=>sq (sh:=sh) (a:=a) (b:=b) h1 h2
  rcases k with _|_|_|k<;>cases x<;>cases y<;>simp_all [aX,bw]
 |[],_::_,_,h,_=>by simp[aX]at h
 |[],[],_::_,h,_=>by simp[aX]at h
 |k::_,[],c,h,_=>by rcases k with _|_|_|k<;>simp[aX]at h
 |k::_,_::_,[],h,_=>by rcases k with _|_|_|k<;>simp[aX]at h
theorem me {g:Bool} {n:Nat} {x:AV} {kc:List PV} (h:keyOf g n x=some kc):∃p,x.flat=some p∧p.isAgg=g∧kc=p.cells∧kc.length=n:=by
 unfold keyOf at h;split at h
 ·rename_i p hp;split at h
  ·rename_i hg;split at h
   ·rename_i hn;simp only[Option.some.injEq]at h;subst h;exact⟨p,hp,by simpa using hg,rfl,by simpa using hn⟩
   ·cases h
  ·cases h
 ·cases h
theorem ku {g:Bool} {p:PV} {v:Value} (hg:p.isAgg=g) (hr:aJ S w p v):∃vv,v=valOf g vv∧a7 S w p.cells vv∧shapeOf g vv.length:=by
 cases p with
 |agg ps=>
  simp only[PV.isAgg]at hg;subst hg;simp only[aJ]at hr;obtain⟨vs,rfl,hr⟩:=hr;exact⟨vs,rfl,hr,trivial⟩
 |_=>
  simp only[PV.isAgg]at hg;subst hg;exact⟨[v],rfl,by simp only[PV.cells,a7];exact⟨v,[],rfl,hr,rfl⟩,rfl⟩
theorem vj {t:TypeId} {z:PV} (h:uj P t=some z):∃zv,(zeroValue t).run P w=.ok zv w∧aJ S w z zv:=by
 unfold uj at h
 cases hi:P.info? t with
 |none=>simp[hi]at h
 |some i=>
  cases hz:i.zero with
  |none=>simp[hi,hz]at h
  |some zv=>
   simp only[hi,Option.bind_some,hz]at h;exact⟨zv,by simp only[zeroValue,typeInfo,Sem.run_bind,run_program,Result.andThen_ok,hi,hz,Sem.run_pure],wJ h⟩
theorem ur.val {kg vg:Bool} {kn:Nat} {r:List PV} {e:MapEntry} (h:ur S w kg vg kn r e):aJ S w (jU vg (r.drop kn)) e.val:=by
 obtain⟨kv,vv,h1,h2,h3,h4,h5,h6⟩:=h;have hd:=(a7.take_drop kn h1).2;rw[←h2,List.drop_left,h2]at hd;rw[h6]
 cases vg with
 |true=>simp only[jU,valOf,aJ];exact⟨vv,rfl,hd⟩
 |false=>
  simp only[shapeOf]at h4;obtain⟨x,rfl⟩:=List.length_eq_one_iff.1 h4;obtain⟨p,hp⟩:=List.length_eq_one_iff.1 (a7.length hd).symm;rw[hp]at hd ⊢;simp only[a7]at hd;obtain⟨v,rr,he,hv,rfl⟩:=hd;simp only[List.cons.injEq,and_true]at he;subst he;simpa only[jU,valOf,List.headD_cons]using hv
theorem ur.key {kg vg:Bool} {kn:Nat} {r:List PV} {e:MapEntry} (h:ur S w kg vg kn r e):aJ S w (jU kg (r.take kn)) e.key:=by
 obtain⟨kv,vv,h1,h2,h3,h4,h5,h6⟩:=h;have hd:=(a7.take_drop kn h1).1;rw[←h2,List.take_left,h2]at hd;rw[h5]
 cases kg with
 |true=>simp only[jU,valOf,aJ];exact⟨kv,rfl,hd⟩
 |false=>
  simp only[shapeOf]at h3;rw[h3]at h2 hd;obtain⟨x,rfl⟩:=List.length_eq_one_iff.1 h2;obtain⟨p,hp⟩:=List.length_eq_one_iff.1 (a7.length hd).symm;rw[h3,hp];rw[hp]at hd;simp only[a7]at hd;obtain⟨v,rr,he,hv,rfl⟩:=hd;simp only[List.cons.injEq,and_true]at he;subst he;simpa only[jU,valOf,List.headD_cons]using hv
theorem qU {γ:Nat→Option Nat} {mem:List (Option Obj)} {vg:Bool} {kn:Nat} {rows:List (List PV)} {kc z:List PV} {v:Value} (h:aJ S w (jU vg (jn kn rows kc z)) v):aq S w (Ref γ S w mem) (uY aG vg kn rows kc z) v:=by
 unfold uY
 cases vg with
 |true=>simpa only[aq,aG,jU]using h
 |false=>simpa only[aq,aG,jU]using h
end
end Go.Am
end
section
namespace Go.Am
section
variable {P:Program} {w0:World} {own0:Nat→Prop} {hvs:List Value} {G:Nat→Option (List PV)} {S0:Nat→Prop} {accs:List Nat}
 {γ:Nat→Option Nat} {S:Nat→Prop} {st:St} {a:Act} {w:World} {o:Oper} {kn:Nat}
 (h:dj w0 own0 hvs G γ S st a w)
include h
theorem dj.AM {id b:Nat} {ob ob':Obj} {go go':Go.Obj} (hid:aA st.mem id=some ob) (hb:γ id=some b) (Eu:w.heap[b]? =some go)
  (hR:∀x v,bD x=some id→Ref γ S w st.mem x v→Ref γ S {w with heap:=w.heap.setIfInBounds b go'} (st.aC id ob').mem x v)
  (hO:(∀x v,Ref γ S w st.mem x v→Ref γ S {w with heap:=w.heap.setIfInBounds b go'} (st.aC id ob').mem x v)→cA S w S {w with heap:=w.heap.setIfInBounds b go'}→
   fU γ S {w with heap:=w.heap.setIfInBounds b go'} (Ref γ S {w with heap:=w.heap.setIfInBounds b go'} (st.aC id ob').mem) id ob'):
  dj w0 own0 hvs G γ S (st.aC id ob') a {w with heap:=w.heap.setIfInBounds b go'}:=
 (dj.l5 h hid hb (w':={w with heap:=w.heap.setIfInBounds b go'}) (fun k hk=>by simp[Array.getElem?_setIfInBounds_ne (Ne.symm hk)]) (by simp) rfl rfl rfl hR hO).1
omit h in
theorem heap_set {b:Nat} {go go':Go.Obj} (Eu:w.heap[b]? =some go):({w with heap:=w.heap.setIfInBounds b go'}:World).heap[b]? =some go':=by
 have:=(Array.getElem?_eq_some_iff.1 Eu).1;simp[this]
theorem dj.wZ {id b ck ck' n:Nat} {kg vg:Bool} {rows rows':List (List PV)} {es es':Array MapEntry} (hid:aA st.mem id=some (.map kg vg n rows)) (hb:γ id=some b) (Eu:w.heap[b]? =some (.map es ck))
  (uu:gD es'.toList ck') (hr:bU S w kg vg n rows' es'.toList) (hbs:∀(i:Nat) (e:MapEntry),es[i]? =some e→∃e':MapEntry,es'[i]? =some e'∧e'.born=e.born):
  dj w0 own0 hvs G γ S (st.aC id (.map kg vg n rows')) a {w with heap:=w.heap.setIfInBounds b (.map es' ck')}∧cA S w S {w with heap:=w.heap.setIfInBounds b (.map es' ck')}:=by
 have dW:∀k,S k→k≠b:=fun k hk e=>(h.own id b hb).1 (e▸hk)
 have hl:cA S w S {w with heap:=w.heap.setIfInBounds b (.map es' ck')}:=fun k hk=>⟨hk,eI (by simp[Array.getElem?_setIfInBounds_ne (Ne.symm (dW k hk))])⟩
 refine⟨dj.AM h hid hb Eu (fun x v hx hv=>?_) (fun hρ hl=>⟨b,es',ck',hb,heap_set Eu,uu,bU.later hl _ hr⟩),hl⟩
 cases x with
 |dB i2 v2=>simp only[bD,Option.some.injEq]at hx;subst hx;simp only[Ref,hid]at hv
 |ptr i2 v2=>simp only[bD,Option.some.injEq]at hx;subst hx;simp only[Ref,hid]at hv
 |cW i2 v2 j2 o2=>simp only[bD,Option.some.injEq]at hx;subst hx;simp only[Ref,hid]at hv
 |dt i2=>
  simp only[bD,Option.some.injEq]at hx;subst hx;simp only[Ref,hid]at hv;simp only[Ref,St.aC,aE (bQ hid),if_true];exact hv
 |eR i2 j2=>
  simp only[bD,Option.some.injEq]at hx;subst hx;simp only[Ref,hid]at hv;simp only[Ref,St.aC,aE (bQ hid),if_true];obtain⟨h1,b1,Ru,ck1,e1,h2,h3,h4,h5,h6⟩:=hv;rw[hb]at h2;cases h2;simp only[fc,Eu,Option.some.injEq,Prod.mk.injEq]at h3;obtain⟨rfl,rfl⟩:=h3;obtain⟨e',h7,h8⟩:=hbs _ _ h5;exact⟨h1,b,es',ck',e',hb,by simp only[fc,heap_set Eu],h4,h7,by rw[h8];exact h6⟩
 |_=>simp[bD]at hx
variable (bm:∀b,S0 b→S b) (bd:∀b,S b→S0 b∨w0.heap.size≤b∨own0 b)
include bm bd
theorem JI {t kt e:TypeId} {kg vg:Bool} {n:Nat} (ho:o.op=.makeMap t none):
  cg P w0 own0 hvs G S0 o a w st kn γ S (b6 aG kn (.TW kg vg n) st.ev):=by
 intro hm bL;have key:=dj.HW h hm bL (.map kg vg n []) (.map #[] 0) (fun hρ hl=>⟨w.heap.size,#[],0,by simp[dw],heap_alloc_new,⟨by simp,by simp⟩,by simp only[bU]⟩);refine⟨.map (some w.heap.size),w.alloc (.map #[] 0),_,S,.inl ?_,bm,bd,key.1,?_⟩
 ·simp only[execOp,ho,Option.map_none,Instr.makeMap,Sem.run_bind,run_newObj,Result.andThen_ok,Sem.run_pure,World.alloc_eq]
 ·simp only[aq,Ref,St.aC,aE bL,if_true];exact⟨w.heap.size,by simp[dw],rfl⟩
theorem Ux {t:TypeId} (ho:o.op=.makeMap t none):
  cg P w0 own0 hvs G S0 o a w st kn γ S (b6 aG kn .Xm st.ev):=by
 intro hm bL;have key:=dj.HW h hm bL (.iK []) (.map #[] 0) (fun hρ hl=>⟨w.heap.size,#[],0,by simp[dw],heap_alloc_new,⟨by simp,by simp⟩,by simp only[fR]⟩);refine⟨.map (some w.heap.size),w.alloc (.map #[] 0),_,S,.inl ?_,bm,bd,key.1,?_⟩
 ·simp only[execOp,ho,Option.map_none,Instr.makeMap,Sem.run_bind,run_newObj,Result.andThen_ok,Sem.run_pure,World.alloc_eq]
 ·simp only[aq,Ref,St.aC,aE bL,if_true];exact⟨w.heap.size,by simp[dw],rfl⟩
theorem vZ {t kt e:TypeId} {d:TypeDesc} {sh:List Nat} {kg vg:Bool} {n:Nat} {rows:List (List PV)} {es:List MapEntry} {k:AV} {kc:List PV} {key:Value} (ht:P.underlying t=some (.map kt e)) (py:cV P 6 kt=some sh) (yF:eu P kt=some kg) (hd:P.underlying kt=some d)
  (hk:keyOf kg n k=some kc) (hr:aq S w (Ref γ S w st.mem) k key) (e6:aG.Ea sh n rows kc) (nI:bU S w kg vg n rows es):
  (∀em,(Instr.checkKey em 10000 kt key).run P w=.ok () w)∧(Instr.findKey kt key es).run P w=.ok (pc n kc rows es 0) w:=by
 obtain⟨p,h1,h2,h3,h4⟩:=me hk;have Uy:=fD (γ:=γ) (st:=st) _ h1 hr;have hoc:=cD.Yl yF h2 Uy;obtain⟨q1,q2,q3⟩:=e6;have Xv:=(gJ q2).1;rw[←h3]at hoc;exact⟨fun em=>oD 6 10000 (by omega) em kt sh kc key py hoc Xv,Cy hd (pW py yF hoc Xv rows es 0 nI q3)⟩
theorem AN {n:Nat} {t:TypeId} {sh:List Nat} (hs:cV P n t=some sh):∃d,P.underlying t=some d:=by
 cases n with
 |zero=>simp[cV]at hs
 |succ n=>
  simp only[cV]at hs
  split at hs<;>first|exact⟨_,by assumption⟩|cases hs
theorem pX {ok b:Bool} {v:AV} {x:Value} (hv:aq S w (Ref γ S w st.mem) v x):aq S w (Ref γ S w st.mem) (vK ok v b) (if ok=true then .tuple #[x,.bool b]else x):=by
 cases ok with
 |false=>exact hv
 |true=>
  simp only[vK,if_true,aq,aF];exact⟨[x,.bool b],rfl,x,[.bool b],rfl,hv,.bool b,[],rfl,by simp only[aJ],rfl⟩
def pd (k:List UInt8):List (List UInt8×AV)→List MapEntry→Nat→Option (Nat×Value)
 |(s,_)::rs,e::es,i=>if k=s then some (i,e.val)else pd k rs es (i+1)
 |_,_,_=>none
omit h bm bd in
theorem zA (x y:List UInt8):(ByteArray.mk x.toArray==ByteArray.mk y.toArray)=decide (x=y):=by
 have e1:(ByteArray.mk x.toArray==ByteArray.mk y.toArray)=(x.toArray==y.toArray):=rfl;rw[e1,Bool.eq_iff_iff];simp
omit h bm bd in
theorem w9 {ρ:AV→Value→Prop} {k:List UInt8}:∀{rows:List (List UInt8×AV)} {es:List MapEntry} {i:Nat},fR S w ρ rows es→Instr.findNow .string (.string ⟨k.toArray⟩) es i=some (pd k rows es i)
 |[],es,i,hr=>by simp only[fR]at hr;subst hr;rfl
 |(s,x)::rs,es,i,hr=>by
  simp only[fR]at hr;obtain⟨e,t,rfl,h1,h2,h3⟩:=hr;simp only[Instr.findNow,h1,Instr.sameNow,zA,pd]
  by_cases ua:k=s
  ·simp[ua]
  ·simp only[ua,decide_false,if_false];exact w9 h3
omit h bm bd in
theorem zB {ρ:AV→Value→Prop} {k:List UInt8} {z:AV} {ok:Bool}:∀{rows:List (List UInt8×AV)} {es:List MapEntry} {i:Nat},fR S w ρ rows es→
  (pd k rows es i=none∧ko aG k z ok rows=.val (vK ok z false))∨∃j v x,pd k rows es i=some (j,x)∧ko aG k z ok rows=.val (vK ok v true)∧aq S w ρ v x
 |[],es,i,hr=>by simp only[fR]at hr;subst hr;left;exact⟨rfl,rfl⟩
 |(s,x)::rs,es,i,hr=>by
  simp only[fR]at hr;obtain⟨e,t,rfl,h1,h2,h3⟩:=hr
  by_cases ua:k=s
  ·right;refine⟨i,x,e.val,by simp[pd,ua],?_,h2⟩
   simp[ko,aG,ua]
  ·have e1:ko aG k z ok ((s,x)::rs)=ko aG k z ok rs:=by simp[ko,aG,ua]
   have e2:pd k ((s,x)::rs) (e::t) i=pd k rs t (i+1):=by simp[pd,ua]
   rw[e1,e2];exact zB h3
theorem zC {kt:TypeId} {kg:Bool} {sh:List Nat} {k:AV} {s:List UInt8} {v:Value} (py:cV P 6 kt=some sh) (yF:eu P kt=some kg) (ua:pK kg sh k=some s) (hr:aq S w (Ref γ S w st.mem) k v):
  P.underlying kt=some .string∧v=.string ⟨s.toArray⟩:=by
 unfold pK at ua;split at ua
 ·cases ua
 ·split at ua
  ·split at ua
   ·simp only[Option.some.injEq]at ua;subst ua;simp only[aq,aJ]at hr;refine⟨?_,hr⟩;simp only[cV]at py;unfold eu at yF;split at py
    ·cases py
    ·cases py
    ·assumption
    ·rename_i ht;rw[ht]at yF;cases yF
    ·rename_i ht;rw[ht]at yF;cases yF
    ·cases py
   ·cases ua
  ·cases ua
omit h bm bd in
theorem zD {kt:TypeId} (Ew:P.underlying kt=some .string) (d:Nat) (em:Bool) (b:ByteArray):(Instr.checkKey em (d+1) kt (.string b)).run P w=.ok () w:=by
 simp only[Instr.checkKey,Sem.run_bind,run_underlying Ew,Result.andThen_ok,Sem.run_pure]
theorem Uz {t kt e:TypeId} {m k:Operand} {m' k':bN} {ok:Bool} {sh:List Nat} {kg:Bool} {z:PV} (ho:o.op=.lookup t m k ok) (ht:P.underlying t=some (.map kt e)) (hm:a8 G m=some m') (hk:a8 G k=some k')
  (py:cV P 6 kt=some sh) (yF:eu P kt=some kg) (hz:uj P e=some z):
  cg P w0 own0 hvs G S0 o a w st kn γ S (b6 aG kn (.Mt kg sh z ok m' k') st.ev):=by
 have h1:=h.aj hm;have h2:=h.aj hk;obtain⟨d,hd⟩:=AN h bm bd py;obtain⟨zv,sX,F9⟩:=vj (S:=S) (w:=w) hz
 have fin:∀v,(Instr.lookup t (a.eval m) (a.eval k) ok).run P w=.ok v w→(execOp a.eval o).run P w=.ok (.value v) w:=by
  intro v hv;simp only[execOp,ho,Sem.run_bind,hv,Result.andThen_ok,Sem.run_pure]
 have data:∀(b:Nat) (es:Array MapEntry) (ck:Nat) (rh vg:Bool) (n:Nat) (rows:List (List PV)) (kc:List PV),a.eval m=.map (some b)→w.heap[b]? =some (.map es ck)→bU S w rh vg n rows es.toList→kg=rh→z.isAgg=vg→keyOf kg n (st.ev k')=some kc→
   aG.Ea sh n rows kc→pq P w0 own0 hvs G S0 o a w st (vK ok (uY aG vg n rows kc z.cells) (aG.Av n rows kc)):=by
  intro b es ck rh vg n rows kc b4 hb nI Cz Gb zE e6;subst Cz;obtain⟨c1,c2⟩:=vZ h bm bd ht py yF hd zE h2 e6 nI
  have fL:jU vg z.cells=z:=by
   subst Gb
   cases z<;>rfl
  rcases oE (kc:=kc) (z:=z.cells) (i:=0) nI with⟨g1,g2,g3,g4⟩|⟨g1,en,r,g2,g3,g4,g5,g6,g7⟩
  ·refine aK h bm bd (u:=if ok=true then .tuple #[zv,.bool false]else zv) (fin _ ?_) ?_
   ·simp only[Instr.lookup,Sem.run_bind,run_underlying ht,Result.andThen_ok,b4,cI hb (fun _ _ _=>by simp),c1,c2,g2,sX,Sem.run_pure]
   ·have e1:aG.Av n rows kc=false:=g1;rw[e1];exact pX h bm bd (qU (by rw[g4,fL];exact F9))
  ·refine aK h bm bd (u:=if ok=true then .tuple #[en.val,.bool true]else en.val) (fin _ ?_) ?_
   ·simp only[Instr.lookup,Sem.run_bind,run_underlying ht,Result.andThen_ok,b4,cI hb (fun _ _ _=>by simp),c1,c2,g6,Sem.run_pure]
   ·have e1:aG.Av n rows kc=true:=g1;rw[e1];exact pX h bm bd (qU (by rw[g7];exact g4.val))
 simp only[b6,wC];split
 ·rename_i b4;rw[b4]at h1;simp only[aq,aJ]at h1
  cases zE:keyOf kg sh.length (st.ev k')with
  |none=>trivial
  |some kc=>
   intro e6;obtain⟨c1,c2⟩:=vZ h bm bd (vg:=false) ht py yF hd zE h2 e6 (es:=[]) (by simp only[bU]);refine aK h bm bd (u:=if ok=true then .tuple #[zv,.bool false]else zv) (fin _ ?_) (pX h bm bd (by simp only[aq];exact F9));simp only[Instr.lookup,Sem.run_bind,run_underlying ht,Result.andThen_ok,h1,c1,c2,pc,sX,Sem.run_pure]
 ·rename_i rh vg n rows b4;rw[b4]at h1;simp only[aq,aJ]at h1;obtain⟨b,es,ck,DX,H3,Ym,uu,nI⟩:=h1
  have hb:w.heap[b]? =some (.map es ck):=by
   unfold fc at Ym;split at Ym
   ·rename_i es' ck' hh;simp only[Option.some.injEq,Prod.mk.injEq]at Ym;obtain⟨rfl,rfl⟩:=Ym;exact hh
   ·cases Ym
  cases Cz:kg==rh with
  |false=>trivial
  |true=>
   cases Gb:z.isAgg==vg with
   |false=>trivial
   |true=>
    simp only
    have Cz:kg=rh:=by simpa using Cz
    subst Cz
    cases zE:keyOf kg n (st.ev k')with
    |none=>trivial
    |some kc=>exact fun e6=>data b es ck kg vg n rows kc DX hb nI rfl (by simpa using Gb) zE e6
 ·rename_i id b4;rw[b4]at h1;simp only[aq,Ref]at h1;intro ob bH;simp only[bH]at h1
  cases ob with
  |map rh vg n rows=>
   obtain⟨b,hb,DX⟩:=h1;obtain⟨b',es,ck,gV,hh,uu,nI⟩:=h.mem id _ bH;rw[hb]at gV;cases gV;simp only
   cases Cz:kg==rh with
   |false=>trivial
   |true=>
    cases Gb:z.isAgg==vg with
    |false=>trivial
    |true=>
     simp only
     have Cz:kg=rh:=by simpa using Cz
     subst Cz
     cases zE:keyOf kg n (st.ev k')with
     |none=>trivial
     |some kc=>exact fun e6=>data b es ck kg vg n rows kc DX hh nI rfl (by simpa using Gb) zE e6
  |iK rows=>
   obtain⟨b,hb,DX⟩:=h1;obtain⟨b',es,ck,gV,hh,uu,nI⟩:=h.mem id _ bH;rw[hb]at gV;cases gV;simp only
   cases ua:pK kg sh (st.ev k')with
   |none=>trivial
   |some s=>
    simp only;obtain⟨Ew,Xy⟩:=zC h bm bd py yF ua h2
    have c1:∀em,(Instr.checkKey em 10000 kt (a.eval k)).run P w=.ok () w:=fun em=>by
     rw[Xy];exact zD Ew 9999 em _
    have c2:(Instr.findKey kt (a.eval k) es.toList).run P w=.ok (pd s rows es.toList 0) w:=by
     rw[Xy];simp only[Instr.findKey,Sem.run_bind,run_underlying Ew,Result.andThen_ok,w9 nI,Sem.run_pure]
    rcases zB (k:=s) (z:=.pv z) (ok:=ok) (i:=0) nI with⟨g1,g2⟩|⟨j,v,x,g1,g2,g3⟩
    ·rw[g2];refine aK h bm bd (u:=if ok=true then .tuple #[zv,.bool false]else zv) (fin _ ?_) (pX h bm bd (by simp only[aq];exact F9));simp only[Instr.lookup,Sem.run_bind,run_underlying ht,Result.andThen_ok,DX,cI hh (fun _ _ _=>by simp),c1,c2,g1,sX,Sem.run_pure]
    ·rw[g2];refine aK h bm bd (u:=if ok=true then .tuple #[x,.bool true]else x) (fin _ ?_) (pX h bm bd g3);simp only[Instr.lookup,Sem.run_bind,run_underlying ht,Result.andThen_ok,DX,cI hh (fun _ _ _=>by simp),c1,c2,g1,Sem.run_pure]
  |_=>trivial
 ·trivial
theorem CA:∀(n:Nat) {sh:List Nat} {ps qs:List PV} {us vs:List Value},aX sh ps qs→bw ps qs=true→a7 S w ps us→a7 S w qs vs→us=vs:=by
 intro n sh ps qs us vs hc he hu hv;have:=sq hc he;subst this
 have key:∀(sh:List Nat) (ps:List PV) (us vs:List Value),aX sh ps ps→a7 S w ps us→a7 S w ps vs→us=vs:=by
  intro sh ps
  induction ps generalizing sh with
  |nil=>intro us vs _ h1 h2;simp only[a7]at h1 h2;rw[h1,h2]
  |cons p ps ih=>
   intro us vs hc h1 h2;simp only[a7]at h1 h2;obtain⟨u,r,rfl,p1,p2⟩:=h1;obtain⟨v,r',rfl,q1,q2⟩:=h2
   have py:∃k Jq,sh=k::Jq∧aX Jq ps ps∧u=v:=by
    cases sh with
    |nil=>simp[aX]at hc
    |cons k Jq=>
     refine⟨k,Jq,rfl,?_⟩
     rcases k with _|_|_|k<;>cases p<;>first|(simp[aX]at hc;done)|skip
     all_goals simp only[aJ]at p1 q1
     all_goals first|exact⟨hc,by rw[p1,q1]⟩|exact⟨hc.2,by rw[p1,q1]⟩
   obtain⟨k,Jq,rfl,h3,rfl⟩:=py;rw[ih Jq _ _ h3 p2 q2]
 exact key sh ps us vs hc hu hv
omit h bm bd in
theorem AO {x y:Value} (hb:Instr.sameBits 10000 x y=true):(Instr.keyThatStays x y).run P w=.ok y w:=by
 unfold Instr.keyThatStays;rw[if_pos hb];rfl
omit h bm bd in
theorem rC {sh:List Nat}:∀(n:Nat) {ps:List PV} {us:List Value},aX sh ps ps→a7 S w ps us→(us.zip us).all (fun(x,y)=>Instr.sameBits n x y)=true:=by
 intro n ps us hc hr
 induction ps generalizing sh us with
 |nil=>simp only[a7]at hr;subst hr;rfl
 |cons p ps ih=>
  simp only[a7]at hr;obtain⟨u,r,rfl,p1,p2⟩:=hr
  cases sh with
  |nil=>simp[aX]at hc
  |cons k Jq=>
   have h3:aX Jq ps ps∧Instr.sameBits n u u=true:=by
    rcases k with _|_|_|k<;>cases p<;>first|(simp[aX]at hc;done)|skip
    all_goals simp only[aJ]at p1
    all_goals subst p1
    all_goals first|exact⟨hc,by cases n<;>simp[Instr.sameBits,zA]⟩|exact⟨hc.2,by cases n<;>simp[Instr.sameBits]⟩
   simp only[List.zip_cons_cons,List.all_cons,h3.2,Bool.true_and];exact ih h3.1 p2
theorem zF {kt:TypeId} {kg vg:Bool} {n:Nat} {sh:List Nat} {r:List PV} {en:MapEntry} {p:PV} {key:Value} (hk:p.isAgg=kg) (hr:aJ S w p key) (hl:p.cells.length=n) (he:ur S w kg vg n r en) (hc:aX sh p.cells (r.take n)) (hq:bw p.cells (r.take n)=true) (wL:aX sh p.cells p.cells):
  (Instr.keyThatStays en.key key).run P w=.ok key w:=by
 obtain⟨kv,vv,h1,h2,h3,h4,h5,h6⟩:=he;obtain⟨kv',Jb,CB,ua⟩:=ku hk hr;have ht:=(a7.take_drop n h1).1;rw[←h2,List.take_left,h2]at ht;have Yn:=CA h bm bd 0 hc hq CB ht;subst Yn
 have UA:en.key=key:=by rw[h5,←Jb]
 rw[UA];refine AO ?_;rw[Jb]
 cases kg with
 |true=>
  simp only[valOf];have:=rC (n:=9999) wL CB;show Instr.sameBits (9999+1) _ _=true;simp only[Instr.sameBits,beq_self_eq_true,Bool.true_and];exact this
 |false=>
  simp only[shapeOf]at ua;obtain⟨x,rfl⟩:=List.length_eq_one_iff.1 ua;have:=rC (n:=10000) wL CB;simpa[valOf]using this
theorem JJ {t kt e:TypeId} {m k x:Operand} {m' k' x':bN} {sh:List Nat} {kg:Bool} {n:Nat} (ho:o.op=.mapUpdate t m k x∨o.op=.insert t m k x) (ht:P.underlying t=some (.map kt e)) (hm:a8 G m=some m') (hk:a8 G k=some k') (hx:a8 G x=some x')
  (py:cV P 6 kt=some sh) (yF:eu P kt=some kg):
  cg P w0 own0 hvs G S0 o a w st kn γ S (b6 aG kn (.Rj kg sh n m' k' x') st.ev):=by
 have h1:=h.aj hm;have h2:=h.aj hk;have h3:=h.aj hx;obtain⟨d,hd⟩:=AN h bm bd py
 have fin:∀w',(Instr.mapUpdate t (a.eval m) (a.eval k) (a.eval x)).run P w=.ok () w'→(execOp a.eval o).run P w=.ok .skip w':=by
  intro w' hv;rcases ho with ho|ho<;>simp only[execOp,ho,Sem.run_bind,hv,Result.andThen_ok,Sem.run_pure]
 simp only[b6,F3];split
 ·rename_i id b4;rw[b4]at h1;simp only[aq,Ref]at h1;intro ob bH;simp only[bH]at h1
  cases ob with
  |map rh vg sr rows=>
   obtain⟨b,hb,DX⟩:=h1;obtain⟨b',es,ck,gV,hh,uu,nI⟩:=h.mem id _ bH;rw[hb]at gV;cases gV;simp only
   cases Cz:kg==rh with
   |false=>trivial
   |true=>
    have Cz:kg=rh:=by simpa using Cz
    subst Cz;simp only
    cases zE:keyOf kg sr (st.ev k')with
    |none=>trivial
    |some kc=>
     simp only
     cases DY:keyOf vg n (st.ev x')with
     |none=>trivial
     |some vc=>
      intro e6;obtain⟨c1,c2⟩:=vZ h bm bd ht py yF hd zE h2 e6 nI;obtain⟨p,p1,p2,p3,p4⟩:=me zE;obtain⟨q,q1,q2,q3,q4⟩:=me DY;have Uy:=fD (γ:=γ) (st:=st) _ p1 h2;have hrq:=fD (γ:=γ) (st:=st) _ q1 h3;obtain⟨kv,Jb,CB,ua⟩:=ku p2 Uy;obtain⟨vv,Rv,s6,hvs⟩:=ku q2 hrq;rw[←p3]at CB;rw[←q3]at s6
      have CC:kv.length=sr:=by rw[a7.length CB,p4]
      have MV:shapeOf kg sr:=CC▸ua
      have bM:∀bn,ur S w kg vg sr (kc++vc) ⟨a.eval k,a.eval x,bn⟩:=fun bn=>⟨kv,vv,a7.append CB s6,CC,MV,hvs,Jb,Rv⟩
      rcases oE (kc:=kc) (z:=[]) (i:=0) nI with⟨g1,g2,g3,_⟩|⟨g1,en,r,g2,g3,g4,g5,g6,_⟩
      ·have AP:aG.Jk sr rows kc vc=rows++[kc++vc]:=by simp only[aG,g1]
       rw[AP];have key:=dj.wZ h bH hb hh (es':=es.push ⟨a.eval k,a.eval x,ck⟩) (ck':=ck+1) (rows':=rows++[kc++vc]) (by simpa using uu.push (e:=⟨a.eval k,a.eval x,ck⟩) rfl) (by simpa using bU.push (bM ck) nI)
        (fun i e he=>⟨e,by rw[Array.getElem?_push_lt (Array.getElem?_eq_some_iff.1 he).1];simpa using (Array.getElem?_eq_some_iff.1 he).2,rfl⟩)
       refine⟨undef,_,γ,S,.inr ⟨fin _ ?_,rfl⟩,bm,bd,key.1,by simp only[aq]⟩;simp only[Instr.mapUpdate,Sem.run_bind,run_underlying ht,Result.andThen_ok,DX,cI hh (fun _ _ _=>by simp),c1,c2,g2,gw hh (fun _ _ _=>by simp)]
      ·have AP:aG.Jk sr rows kc vc=rows.modify (fe sr rows kc) (fun _=>kc++vc):=by simp only[aG,g1]
       rw[AP]
       have Mc:es[fe sr rows kc]? =some en:=by simpa using g2
       have AJ:aX sh kc (r.take sr):=e6.2.2 r (List.mem_of_getElem? g3);have JK:(Instr.keyThatStays en.key (a.eval k)).run P w=.ok (a.eval k) w:=zF (kt:=kt) h bm bd p2 Uy (by rw[←p3];exact p4) g4 (by rw[←p3];exact AJ) (by rw[←p3];exact g5) (by rw[←p3];exact e6.2.1);have key:=dj.wZ h bH hb hh (es':=es.modify (fe sr rows kc) fun e=>{e with key:=a.eval k,val:=a.eval x}) (ck':=ck) (rows':=rows.modify (fe sr rows kc) (fun _=>kc++vc))
        (by rw[Array.toList_modify];refine gD.modify ?_ _ uu;intro _;rfl)
        (by rw[Array.toList_modify];exact bU.modify (fun r e _ _ _=>bM e.born) nI)
        (fun i e he=>by
         by_cases hi:i=fe sr rows kc
         ·subst hi;exact⟨{e with key:=a.eval k,val:=a.eval x},by simp[Array.getElem?_modify,he],rfl⟩
         ·exact⟨e,by simp[Array.getElem?_modify,Ne.symm hi,he],rfl⟩)
       refine⟨undef,_,γ,S,.inr ⟨fin _ ?_,rfl⟩,bm,bd,key.1,by simp only[aq]⟩;simp only[Instr.mapUpdate,Sem.run_bind,run_underlying ht,Result.andThen_ok,DX,cI hh (fun _ _ _=>by simp),c1,c2,g6,Nat.zero_add,Mc,Option.map_some,Option.getD_some,JK,gw hh (fun _ _ _=>by simp)]
  |iK rows=>
   obtain⟨b,hb,DX⟩:=h1;obtain⟨b',es,ck,gV,hh,uu,nI⟩:=h.mem id _ bH;rw[hb]at gV;cases gV;simp only
   cases ua:pK kg sh (st.ev k')with
   |none=>trivial
   |some s=>
    simp only;split
    ·intro AG;obtain⟨Ew,Xy⟩:=zC h bm bd py yF ua h2
     have c1:∀em,(Instr.checkKey em 10000 kt (a.eval k)).run P w=.ok () w:=fun em=>by
      rw[Xy];exact zD Ew 9999 em _
     have c3:∀(rows:List (List UInt8×AV)) (es:List MapEntry) (i:Nat),MF s rows→pd s rows es i=none:=by
      intro rows
      induction rows with
      |nil=>intro es i _;rfl
      |cons r rows ih=>
       intro es i hn;obtain⟨r1,r2⟩:=r
       cases es with
       |nil=>rfl
       |cons e es=>simp only[pd,if_neg hn.1];exact ih es _ hn.2
     have c2:(Instr.findKey kt (a.eval k) es.toList).run P w=.ok none w:=by
      rw[Xy];simp only[Instr.findKey,Sem.run_bind,run_underlying Ew,Result.andThen_ok,w9 nI,Sem.run_pure,c3 rows es.toList 0 AG]
     have key:=dj.AM h bH hb hh (go':=.map (es.push ⟨a.eval k,a.eval x,ck⟩) (ck+1)) (ob':=.iK (rows++[(s,st.ev x')])) (fun z v hz hv=>by
       cases z with
       |dt i2=>
        simp only[bD,Option.some.injEq]at hz;subst hz;simp only[Ref,bH]at hv;simp only[Ref,St.aC,aE (bQ bH),if_true];exact hv
       |dB i2 v2=>simp only[bD,Option.some.injEq]at hz;subst hz;simp only[Ref,bH]at hv
       |ptr i2 v2=>simp only[bD,Option.some.injEq]at hz;subst hz;simp only[Ref,bH]at hv
       |cW i2 v2 j2 o2=>simp only[bD,Option.some.injEq]at hz;subst hz;simp only[Ref,bH]at hv
       |eR i2 v2=>simp only[bD,Option.some.injEq]at hz;subst hz;simp only[Ref,bH]at hv
       |_=>simp[bD]at hz)
      (fun hρ hl=>by
       refine⟨b,es.push ⟨a.eval k,a.eval x,ck⟩,ck+1,hb,heap_set hh,by simpa using uu.push (e:=⟨a.eval k,a.eval x,ck⟩) rfl,?_⟩
       have Yo:∀{ρ:AV→Value→Prop} {S:Nat→Prop} {w:World} (rows:List (List UInt8×AV)) (es:List MapEntry),fR S w ρ rows es→aq S w ρ (st.ev x') (a.eval x)→fR S w ρ (rows++[(s,st.ev x')]) (es++[⟨a.eval k,a.eval x,ck⟩]):=by
        intro ρ S w rows
        induction rows with
        |nil=>intro es h0 hx;simp only[fR]at h0;subst h0;simp only[List.nil_append,fR];exact⟨_,[],rfl,Xy,hx,rfl⟩
        |cons r rows ih=>
         intro es h0 hx;obtain⟨r1,r2⟩:=r;simp only[fR]at h0;obtain⟨e,t,rfl,k1,k2,k3⟩:=h0;simp only[List.cons_append,fR];exact⟨e,_,rfl,k1,k2,ih t k3 hx⟩
       have:=Yo rows es.toList (fR.later hl hρ nI) (aq.later hl hρ _ h3)
       simpa using this)
     refine⟨undef,_,γ,S,.inr ⟨fin _ ?_,rfl⟩,bm,bd,key,by simp only[aq]⟩;simp only[Instr.mapUpdate,Sem.run_bind,run_underlying ht,Result.andThen_ok,DX,cI hh (fun _ _ _=>by simp),c1,c2,gw hh (fun _ _ _=>by simp)]
    ·trivial
  |_=>trivial
 ·trivial
theorem MW {t kt e:TypeId} {m k:Operand} {m' k':bN} {sh:List Nat} {kg:Bool} {z:PV} (ho:o.op=.mapEntry t m k) (ht:P.underlying t=some (.map kt e)) (hm:a8 G m=some m') (hk:a8 G k=some k')
  (py:cV P 6 kt=some sh) (yF:eu P kt=some kg) (hz:uj P e=some z):
  cg P w0 own0 hvs G S0 o a w st kn γ S (b6 aG kn (.uC kg sh z m' k') st.ev):=by
 have h1:=h.aj hm;have h2:=h.aj hk;obtain⟨d,hd⟩:=AN h bm bd py;obtain⟨zv,sX,F9⟩:=vj (S:=S) (w:=w) hz
 have fin:∀v w',(Instr.mapEntry t (a.eval m) (a.eval k)).run P w=.ok v w'→(execOp a.eval o).run P w=.ok (.value v) w':=by
  intro v w' hv;simp only[execOp,ho,Sem.run_bind,hv,Result.andThen_ok,Sem.run_pure]
 simp only[b6,wD];split
 ·rename_i id b4;rw[b4]at h1;simp only[aq,Ref]at h1;intro ob bH;simp only[bH]at h1
  cases ob with
  |map rh vg sr rows=>
   obtain⟨b,hb,DX⟩:=h1;obtain⟨b',es,ck,gV,hh,uu,nI⟩:=h.mem id _ bH;rw[hb]at gV;cases gV;simp only
   cases Cz:kg==rh with
   |false=>trivial
   |true=>
    have Cz:kg=rh:=by simpa using Cz
    subst Cz
    cases Gb:z.isAgg==vg with
    |false=>trivial
    |true=>
    have Gb:z.isAgg=vg:=by simpa using Gb
    simp only
    cases zE:keyOf kg sr (st.ev k')with
    |none=>trivial
    |some kc=>
     intro e6;obtain⟨c1,c2⟩:=vZ h bm bd ht py yF hd zE h2 e6 nI;obtain⟨p,p1,p2,p3,p4⟩:=me zE;have Uy:=fD (γ:=γ) (st:=st) _ p1 h2;obtain⟨kv,Jb,CB,ua⟩:=ku p2 Uy;obtain⟨vv,Rv,s6,hvs⟩:=ku Gb F9;rw[←p3]at CB
     have CC:kv.length=sr:=by rw[a7.length CB,p4]
     have MV:shapeOf kg sr:=CC▸ua
     have fL:jU vg z.cells=z:=by
      subst Gb
      cases z<;>rfl
     rcases oE (kc:=kc) (z:=z.cells) (i:=0) nI with⟨g1,g2,g3,g4⟩|⟨g1,en,r,g2,g3,g4,g5,g6,g7⟩
     ·have AP:aG.ug sr rows kc z.cells=rows++[kc++z.cells]:=by simp only[aG,g1]
      rw[AP];have key:=dj.wZ h bH hb hh (es':=es.push ⟨a.eval k,zv,ck⟩) (ck':=ck+1) (rows':=rows++[kc++z.cells]) (by simpa using uu.push (e:=⟨a.eval k,zv,ck⟩) rfl) (by simpa using bU.push (e:=⟨a.eval k,zv,ck⟩) ⟨kv,vv,a7.append CB s6,CC,MV,hvs,Jb,Rv⟩ nI)
       (fun i e he=>⟨e,by rw[Array.getElem?_push_lt (Array.getElem?_eq_some_iff.1 he).1];simpa using (Array.getElem?_eq_some_iff.1 he).2,rfl⟩)
      refine⟨.tuple #[zv,goInt ck],_,γ,S,.inl (fin _ _ ?_),bm,bd,key.1,?_⟩
      ·simp only[Instr.mapEntry,Sem.run_bind,run_underlying ht,Result.andThen_ok,DX,cI hh (fun _ _ _=>by simp),c1,c2,g2,sX,gw hh (fun _ _ _=>by simp),Sem.run_pure]
      ·simp only[aq,aF];refine⟨[zv,goInt ck],rfl,zv,[goInt ck],rfl,qU (aJ.later key.2 _ (by rw[g4,fL];exact F9)),goInt ck,[],rfl,?_,rfl⟩;simp only[Ref,St.aC,aE (bQ bH),if_true];refine⟨rfl,b,es.push ⟨a.eval k,zv,ck⟩,ck+1,⟨a.eval k,zv,ck⟩,hb,by simp only[fc,heap_set hh],by simp[aG],?_,rfl⟩;have hl:=bU.len nI;simp only[aG,g3];rw[show((rows.length:Int)).toNat=es.size by simpa using hl.symm];simp
     ·have AP:aG.ug sr rows kc z.cells=rows:=by simp only[aG,g1]
      rw[AP]
      have Mc:es[fe sr rows kc]? =some en:=by simpa using g2
      have AJ:aX sh kc (r.take sr):=e6.2.2 r (List.mem_of_getElem? g3);have JK:(Instr.keyThatStays en.key (a.eval k)).run P w=.ok (a.eval k) w:=zF (kt:=kt) h bm bd p2 Uy (by rw[←p3];exact p4) g4 (by rw[←p3];exact AJ) (by rw[←p3];exact g5) (by rw[←p3];exact e6.2.1);have hrk:r.take sr=kc:=(sq AJ g5).symm;have key:=dj.wZ h bH hb hh (es':=es.modify (fe sr rows kc) fun e=>{e with key:=a.eval k}) (ck':=ck) (rows':=rows)
       (by rw[Array.toList_modify];refine gD.modify ?_ _ uu;intro _;rfl)
       (by
        rw[Array.toList_modify]
        have:=bU.modify (g:=fun r=>r) (f:=fun e:MapEntry=>{e with key:=a.eval k}) (j:=fe sr rows kc) (fun r0 e h1 h2 h3=>by
         rw[g3]at h1;cases h1;obtain⟨kv0,vv0,i1,i2,i3,i4,i5,i6⟩:=h3;have MX:=(a7.take_drop sr i1).2;rw[←i2,List.drop_left,i2]at MX;refine⟨kv,vv0,?_,CC,MV,i4,Jb,i6⟩;rw[←List.take_append_drop sr r,hrk]
         exact a7.append CB MX) nI
        have e0:rows.modify (fe sr rows kc) (fun r=>r)=rows:=by
         apply List.ext_getElem?
         intro i;simp[List.getElem?_modify]
        rwa [e0]at this)
       (fun i e he=>by
        by_cases hi:i=fe sr rows kc
        ·subst hi;exact⟨{e with key:=a.eval k},by simp[Array.getElem?_modify,he],rfl⟩
        ·exact⟨e,by simp[Array.getElem?_modify,Ne.symm hi,he],rfl⟩)
      refine⟨.tuple #[en.val,goInt en.born],_,γ,S,.inl (fin _ _ ?_),bm,bd,key.1,?_⟩
      ·simp only[Instr.mapEntry,Sem.run_bind,run_underlying ht,Result.andThen_ok,DX,cI hh (fun _ _ _=>by simp),c1,c2,g6,Nat.zero_add,Mc,Option.map_some,Option.getD_some,JK,gw hh (fun _ _ _=>by simp),Sem.run_pure]
      ·simp only[aq,aF];refine⟨[en.val,goInt en.born],rfl,en.val,[goInt en.born],rfl,qU (aJ.later key.2 _ (by rw[g7];exact g4.val)),goInt en.born,[],rfl,?_,rfl⟩;simp only[Ref,St.aC,aE (bQ bH),if_true];refine⟨rfl,b,_,ck,{en with key:=a.eval k},hb,by simp only[fc,heap_set hh];rfl,by simp[aG],?_,rfl⟩;simp only[aG,Int.toNat_natCast];simp[Array.getElem?_modify,Mc]
  |_=>trivial
 ·trivial
theorem MY {t kt e:TypeId} {m k x:Operand} {m' k' x':bN} {n:Nat} (ho:o.op=.entryStore t m k x) (hm:a8 G m=some m') (hk:a8 G k=some k') (hx:a8 G x=some x'):
  cg P w0 own0 hvs G S0 o a w st kn γ S (b6 aG kn (.Cc n m' k' x') st.ev):=by
 have h1:=h.aj hm;have h2:=h.aj hk;have h3:=h.aj hx
 have fin:∀w',(Instr.entryStore t (a.eval m) (a.eval k) (a.eval x)).run P w=.ok () w'→(execOp a.eval o).run P w=.ok .skip w':=by
  intro w' hv;simp only[execOp,ho,Sem.run_bind,hv,Result.andThen_ok,Sem.run_pure]
 simp only[b6,AA];split
 ·rename_i id pH i b4 lz
  cases hid:id==pH with
  |false=>trivial
  |true=>
   have hid:id=pH:=by simpa using hid
   subst hid;simp only;rw[b4]at h1;simp only[aq,Ref]at h1;rw[lz]at h2;simp only[aq,Ref]at h2;intro ob bH;simp only[bH]at h1 h2
   cases ob with
   |map kg vg sr rows=>
    obtain⟨b,hb,DX⟩:=h1;obtain⟨b',es,ck,gV,hh,uu,nI⟩:=h.mem id _ bH;rw[hb]at gV;cases gV;obtain⟨_,b2,es2,ck2,en,j1,j2,j3,j4,j5⟩:=h2;rw[hb]at j1;cases j1;simp only[fc,hh,Option.some.injEq,Prod.mk.injEq]at j2;obtain⟨rfl,rfl⟩:=j2;simp only
    cases DY:keyOf vg n (st.ev x')with
    |none=>trivial
    |some vc=>
     intro e6;obtain⟨q,q1,q2,q3,q4⟩:=me DY;have hrq:=fD (γ:=γ) (st:=st) _ q1 h3;obtain⟨vv,Rv,s6,hvs⟩:=ku q2 hrq;rw[←q3]at s6;have hfi:=AL uu j4;have key:=dj.wZ h bH hb hh (es':=es.modify i.toNat fun e=>{e with val:=a.eval x}) (ck':=ck) (rows':=aG.Jl sr rows i vc)
      (by rw[Array.toList_modify];refine gD.modify ?_ _ uu;intro _;rfl)
      (by
       rw[Array.toList_modify]
       exact bU.modify (g:=fun r=>r.take sr++vc) (fun r0 e _ _ h3=>by
        obtain⟨kv0,vv0,i1,i2,i3,i4,i5,i6⟩:=h3;have MX:=(a7.take_drop sr i1).1;rw[←i2,List.take_left,i2]at MX
        exact⟨kv0,vv,a7.append MX s6,i2,i3,hvs,i5,Rv⟩) nI)
      (fun j e he=>by
       by_cases hi:j=i.toNat
       ·subst hi;exact⟨{e with val:=a.eval x},by simp[Array.getElem?_modify,he],rfl⟩
       ·exact⟨e,by simp[Array.getElem?_modify,Ne.symm hi,he],rfl⟩)
     refine⟨undef,_,γ,S,.inr ⟨fin _ ?_,rfl⟩,bm,bd,key.1,by simp only[aq]⟩;simp only[Instr.entryStore,Sem.run_bind,DX,cI hh (fun _ _ _=>by simp),Result.andThen_ok,j5,goInt,asInt,asIntOf,Sem.run_pure,hfi,gw hh (fun _ _ _=>by simp)]
   |_=>trivial
 ·trivial
end
end Go.Am
end
section
namespace Go.Am
section
variable {P:Program} {w0:World} {own0:Nat→Prop} {hvs:List Value} {G:Nat→Option (List PV)} {S0:Nat→Prop} {accs:List Nat}
 {γ:Nat→Option Nat} {S:Nat→Prop} {st:St} {a:Act} {w:World} {o:Oper} {kn:Nat}
theorem aF.get {ρ:AV→Value→Prop}:∀{xs:List AV} {vs:List Value} {i:Nat} {x:AV},aF S w ρ xs vs→xs[i]? =some x→∃v,vs[i]? =some v∧aq S w ρ x v
 |[],_,_,_,_,hi=>by simp at hi
 |y::xs,vs,i,x,h,hi=>by
  simp only[aF]at h;obtain⟨v,r,rfl,h1,h2⟩:=h
  cases i with
  |zero=>simp only[List.getElem?_cons_zero,Option.some.injEq]at hi;subst hi;exact⟨v,rfl,h1⟩
  |succ i=>simpa using aF.get (i:=i) h2 (by simpa using hi)
theorem a7.get {ρ:AV→Value→Prop}:∀{xs:List PV} {vs:List Value} {i:Nat} {x:PV},a7 S w xs vs→xs[i]? =some x→∃v,vs[i]? =some v∧aJ S w x v
 |[],_,_,_,_,hi=>by simp at hi
 |y::xs,vs,i,x,h,hi=>by
  simp only[a7]at h;obtain⟨v,r,rfl,h1,h2⟩:=h
  cases i with
  |zero=>simp only[List.getElem?_cons_zero,Option.some.injEq]at hi;subst hi;exact⟨v,rfl,h1⟩
  |succ i=>simpa using a7.get (ρ:=ρ) (i:=i) h2 (by simpa using hi)
theorem aF.slice {ρ:AV→Value→Prop} {xs:List AV} {vs:List Value} (off n:Nat) (h:aF S w ρ xs vs) (hle:off+n≤xs.length):aF S w ρ ((xs.drop off).take n) ((vs.drop off).take n):=by
 have e1:xs=xs.take off++((xs.drop off).take n++(xs.drop off).drop n):=by rw[List.take_append_drop,List.take_append_drop]
 have hl:=aF.length h;rw[e1]at h;obtain⟨u,v,rfl,h1,h2⟩:=aF.split h;obtain⟨v1,v2,rfl,h3,h4⟩:=aF.split h2
 have l1:u.length=off:=by rw[aF.length h1];simp;omega
 have l2:v1.length=n:=by rw[aF.length h3];simp;omega
 rw[show(u++(v1++v2)).drop off=v1++v2 by rw[←l1,List.drop_left],show(v1++v2).take n=v1 by rw[←l2,List.take_left]];exact h3
variable (h:dj w0 own0 hvs G γ S st a w)
variable (bm:∀b,S0 b→S b) (bd:∀b,S b→S0 b∨w0.heap.size≤b∨own0 b)
include h bm bd
theorem JL {s:TypeId} {x:Operand} {x':bN} {f:Nat} {fs:Array Field} {fd:Field} {g:Bool} {n:Option Nat} (ho:o.op=.field s x f) (hs:P.underlying s=some (.struct fs)) (hf:fs[f]? =some fd) (hg:eu P fd.type=some g)
  (hn:match g with|true=>∃m,bZ P fd.type=some m∧n=some m|false=>n=none) (hx:a8 G x=some x'):
  cg P w0 own0 hvs G S0 o a w st kn γ S (b6 aG kn (.TV x' fd.offset n) st.ev):=by
 have h1:=h.aj hx
 have bJ:∀(vs:List Value) v,a.eval x=.agg vs.toArray→(part fd.type vs.toArray fd.offset).run P w=.ok v w→(execOp a.eval o).run P w=.ok (.value v) w:=by
  intro vs v he hv;simp only[execOp,ho,he,Instr.field,Sem.run_bind,run_underlying hs,Result.andThen_ok,hf,asAgg,Sem.run_pure,hv]
 simp only[b6];split
 ·rename_i cs b4;rw[b4]at h1;simp only[aq]at h1;obtain⟨vs,he,hr⟩:=h1;have hl:=aF.length hr
  cases g with
  |false=>
   simp only at hn;subst hn;simp only[jP];split
   ·rename_i v hv;obtain⟨u,hu,MZ⟩:=aF.get hr hv;refine aK h bm bd (bJ vs u he ?_) MZ
    have:vs.toArray[fd.offset]? =some u:=by simpa using hu
    simp only[part,Sem.run_bind,jE hg,Result.andThen_ok,Bool.false_eq_true,if_false,this,Sem.run_pure]
   ·trivial
  |true=>
   simp only at hn;obtain⟨m,hm,rfl⟩:=hn;simp only[jP];split
   ·rename_i hle;refine aK h bm bd (bJ vs (.agg (vs.toArray.extract fd.offset (fd.offset+m))) he ?_) ?_
    ·simp only[part,Sem.run_bind,jE hg,Result.andThen_ok,if_true,run_sizeOf hm,Sem.run_pure]
    ·simp only[aq];refine⟨_,?_,aF.slice fd.offset m hr hle⟩
     congr 1
     simp[List.extract_toArray]
   ·trivial
 ·rename_i ps b4;rw[b4]at h1;simp only[aq,aJ]at h1;obtain⟨vs,he,hr⟩:=h1
  cases g with
  |false=>
   simp only at hn;subst hn;simp only[iB];split
   ·rename_i v hv;obtain⟨u,hu,MZ⟩:=a7.get (ρ:=Ref γ S w st.mem) hr hv;refine aK h bm bd (bJ vs u he ?_) (by simp only[aq];exact MZ)
    have:vs.toArray[fd.offset]? =some u:=by simpa using hu
    simp only[part,Sem.run_bind,jE hg,Result.andThen_ok,Bool.false_eq_true,if_false,this,Sem.run_pure]
   ·trivial
  |true=>
   simp only at hn;obtain⟨m,hm,rfl⟩:=hn;simp only[iB];split
   ·rename_i hle;obtain⟨v,hv,L9⟩:=mc (P:=P) hg hm (by simp) hr hle;refine aK h bm bd (bJ vs v he hv) ?_;simp only[cD,hg]at L9;obtain⟨us,rfl,L9⟩:=L9;simp only[aq,aJ];exact⟨us,rfl,L9⟩
   ·trivial
 ·trivial
theorem UB {t e:TypeId} {x i:Operand} {x' i':bN} {m:Nat} (ho:o.op=.index t x i) (ht:P.underlying t=some (.array m e)) (JH:eu P e=some false) (dZ:bZ P e=some 1) (hx:a8 G x=some x') (hi:a8 G i=some i'):
  cg P w0 own0 hvs G S0 o a w st kn γ S (b6 aG kn (.TU x' i' m) st.ev):=by
 have h1:=h.aj hx;have h2:=h.aj hi
 have bJ:∀(vs:List Value) k (j:Int) v,a.eval x=.agg vs.toArray→a.eval i=.int k j→0≤j→j<m→vs[j.toNat]? =some v→(execOp a.eval o).run P w=.ok (.value v) w:=by
  intro vs k j v he hj h0 h1 hv
  have:vs.toArray[j.toNat]? =some v:=by simpa using hv
  simp only[execOp,ho,he,hj,Instr.index,asIntOf,Sem.run_bind,Sem.run_pure,Result.andThen_ok,run_underlying ht,h0,h1,and_self,if_true,run_sizeOf dZ,Nat.mul_one,part,jE JH,Bool.false_eq_true,if_false,this]
 simp only[b6];split
 ·rename_i cs k j b4 lz;rw[b4]at h1;rw[lz]at h2;simp only[aq,aJ]at h1 h2;obtain⟨vs,he,hr⟩:=h1;split
  ·rename_i hlen
   have hlen:cs.length=m:=by simpa using hlen
   rintro⟨q1,q2⟩
   have bL:j.toNat<cs.length:=by omega
   obtain⟨u,hu,MZ⟩:=aF.get hr (List.getElem?_eq_getElem bL);refine aK h bm bd (bJ vs k j u he h2 q1 q2 hu) ?_;simp only[aG,Nat.mul_one,List.getD_eq_getElem?_getD,List.getElem?_eq_getElem bL,Option.getD_some];exact MZ
  ·trivial
 ·rename_i cs k j b4 lz;rw[b4]at h1;rw[lz]at h2;simp only[aq,aJ]at h1 h2;obtain⟨vs,he,hr⟩:=h1;split
  ·rename_i hlen
   have hlen:cs.length=m:=by simpa using hlen
   rintro⟨q1,q2⟩
   have bL:j.toNat<cs.length:=by omega
   obtain⟨u,hu,MZ⟩:=a7.get (ρ:=Ref γ S w st.mem) hr (List.getElem?_eq_getElem bL);refine aK h bm bd (bJ vs k j u he h2 q1 q2 hu) ?_;simp only[aG,Nat.mul_one,List.getD_eq_getElem?_getD,List.getElem?_eq_getElem bL,Option.getD_some,aq];exact MZ
  ·trivial
 ·trivial
theorem UC {t e:TypeId} {x i:Operand} {x' i':bN} {m sz:Nat} (ho:o.op=.indexAddr t x i) (ht:P.underlying t=some (.array m e)) (dZ:bZ P e=some sz) (hx:a8 G x=some x') (hi:a8 G i=some i'):
  cg P w0 own0 hvs G S0 o a w st kn γ S (b6 aG kn (.TO x' i' m sz) st.ev):=by
 have h1:=h.aj hx;have h2:=h.aj hi
 have bJ:∀b off k (j:Int),a.eval x=.pointer (some ⟨b,off,none⟩)→a.eval i=.int k j→0≤j→j<m→(execOp a.eval o).run P w=.ok (.value (.pointer (some ⟨b,off+j.toNat*sz,none⟩))) w:=by
  intro b off k j he hj h0 h1;simp only[execOp,ho,he,hj,Instr.indexAt,asIntOf,Sem.run_bind,Sem.run_pure,Result.andThen_ok,run_underlying ht,Instr.sureAddr,h0,h1,and_self,if_true,run_sizeOf dZ,ig]
 simp only[b6];split
 ·rename_i id off k j b4 lz;rw[b4]at h1;rw[lz]at h2;simp only[aq,aJ,Ref]at h1 h2;rintro⟨q1,q2⟩;split at h1
  ·rename_i cs hm;obtain⟨b,hb,he⟩:=h1;refine aK h bm bd (bJ b _ _ _ he h2 q1 q2) ?_;simp only[aq,Ref,hm,aG];exact⟨b,hb,rfl⟩
  ·rename_i hm;obtain⟨b,hb,he⟩:=h1;refine aK h bm bd (bJ b _ _ _ he h2 q1 q2) ?_;simp only[aq,Ref,hm,aG];exact⟨b,hb,rfl⟩
  ·rename_i hm;obtain⟨b,hb,he⟩:=h1;refine aK h bm bd (bJ b _ _ _ he h2 q1 q2) ?_;simp only[aq,Ref,hm,aG];exact⟨b,hb,rfl⟩
  ·exact h1.elim
 ·rename_i row off k j b4 lz;rw[b4]at h1;rw[lz]at h2;simp only[aq,aJ]at h1 h2;rintro⟨q1,q2⟩;obtain⟨b,o',c,he,hb,hc,hr⟩:=h1;refine aK h bm bd (bJ b _ _ _ he h2 q1 q2) ?_;simp only[aq,aG];exact⟨b,o',c,by rw[Nat.add_assoc],hb,hc,hr⟩
 ·trivial
omit h bm bd in
theorem CD {d:Nat} {t e:TypeId} (ht:P.underlying t=some (.pointer e)):(Op.equalIn (d+1) t (.pointer none) (.pointer none)).run P w=.ok true w:=by
 simp[Op.equalIn,run_underlying ht]
omit h bm bd in
theorem JM {d:Nat} {t e:TypeId} (ht:P.underlying t=some (.pointer e)) (b:Addr):(Op.equalIn (d+1) t (.pointer (some b)) (.pointer none)).run P w=.ok false w:=by
 simp[Op.equalIn,run_underlying ht]
omit h bm bd in
theorem JN {d:Nat} {t:TypeId} {p r:Array TypeId} {v:Bool} (ht:P.underlying t=some (.func p r v)):(Op.equalIn (d+1) t .nilFunc .nilFunc).run P w=.ok true w:=by
 simp[Op.equalIn,run_underlying ht]
omit h bm bd in
theorem JO {d:Nat} {t:TypeId} {p r:Array TypeId} {v:Bool} (ht:P.underlying t=some (.func p r v)) (f:Fn) (a b:Array Value):(Op.equalIn (d+1) t (.func f a b) .nilFunc).run P w=.ok false w:=by
 simp[Op.equalIn,run_underlying ht]
theorem mf {op:BinOp} {t ty:TypeId} {x y:Operand} {u v:Value} {b:Bool} (ho:o.op=.binOp op t x y ty) (hu:a.eval x=u) (hv:a.eval y=v) (hg:∀op,(eqGuard op t x y u v).run P w=.ok () w) (he:(Op.equal t u v).run P w=.ok b w)
  (h1:binOp .eql t u v=(do pure (.bool (←Op.equal t u v)))) (h2:binOp .neq t u v=(do pure (.bool (!(←Op.equal t u v))))):ek P w0 own0 hvs G S0 o a w st kn γ S (nJ op b):=by
 unfold nJ;split
 ·refine aK h bm bd (u:=.bool b) ?_ (by simp only[aq,aJ]);simp only[execOp,ho,hu,hv,Sem.run_bind,hg,Result.andThen_ok,h1,he,Sem.run_pure]
 ·refine aK h bm bd (u:=.bool (!b)) ?_ (by simp only[aq,aJ];cases b<;>rfl);simp only[execOp,ho,hu,hv,Sem.run_bind,hg,Result.andThen_ok,h2,he,Sem.run_pure]
 ·trivial
omit h bm bd in
theorem JP {d:Nat} {t e:TypeId} (ht:P.underlying t=some (.slice e)) (b:Addr) (n c:Nat):(Op.equalIn (d+1) t (.slice (some b) n c) (.slice none 0 0)).run P w=.ok false w:=by
 simp[Op.equalIn,run_underlying ht]
theorem M0 {t e ty:TypeId} {x:Operand} {x':bN} (ho:o.op=.binOp .eql t x (.const (.slice none 0 0)) ty) (ht:P.underlying t=some (.slice e)) (hx:a8 G x=some x'):
  cg P w0 own0 hvs G S0 o a w st kn γ S (b6 aG kn (.D8 x') st.ev):=by
 have h1:=h.aj hx;simp only[b6];split
 ·rename_i rows sp b4;rw[b4]at h1;simp only[aq,aJ]at h1;intro dW;obtain⟨b,cap,he,dQ,hr⟩:=h1
  have hrn:rows≠[]:=by
   rcases dW with dW|dW
   ·simp at dW
   ·exact dW
  cases b with
  |none=>
   rcases hr with⟨h3,-⟩|⟨_,_,_,_,h3,-⟩
   ·exact absurd h3 hrn
   ·cases h3
  |some b=>
   exact mf (kn:=kn) h bm bd ho he (v:=.slice none 0 0) rfl (fun op=>by simp only[eqGuard];cases op<;>rfl) (JP (d:=9999) ht b _ _) rfl rfl
 ·trivial
theorem Gc {op:BinOp} {t ty:TypeId} {x y:Operand} {x' y':bN} {fn:Bool} (ho:o.op=.binOp op t x y ty) (ht:match fn with|false=>∃e,P.underlying t=some (.pointer e)|true=>∃p r v,P.underlying t=some (.func p r v)) (hx:a8 G x=some x') (hy:a8 G y=some y'):
  cg P w0 own0 hvs G S0 o a w st kn γ S (b6 aG kn (.Cb fn op x' y') st.ev):=by
 have h1:=h.aj hx;have h2:=h.aj hy;simp only[b6,F2]
 cases fn with
 |false=>
  obtain⟨e,ht⟩:=ht
  have gp:∀p q op,(eqGuard op t x y (.pointer p) (.pointer q)).run P w=.ok () w:=by intro p q op;simp only[eqGuard];cases op<;>rfl
  have lL:∀b,a.eval x=.pointer (some b)→a.eval y=.pointer none→ek P w0 own0 hvs G S0 o a w st kn γ S (nJ op false):=fun b zw Yp=>
   mf h bm bd ho zw Yp (gp _ _) (JM (d:=9999) ht b) rfl rfl
  simp only;split
  ·rename_i lz;rw[lz]at h2;simp only[aq,aJ]at h2;split
   ·rename_i b4;rw[b4]at h1;simp only[aq,aJ]at h1;exact mf h bm bd ho h1 h2 (gp _ _) (CD (d:=9999) ht) rfl rfl
   ·rename_i t' b4;rw[b4]at h1;simp only[aq]at h1;exact mf h bm bd ho h1 h2 (gp _ _) (CD (d:=9999) ht) rfl rfl
   ·rename_i id off b4;rw[b4]at h1;simp only[aq,Ref]at h1;split at h1
    ·obtain⟨b,hb,he⟩:=h1;exact lL _ he h2
    ·obtain⟨b,hb,he⟩:=h1;exact lL _ he h2
    ·obtain⟨b,hb,he⟩:=h1;exact lL _ he h2
    ·exact h1.elim
   ·rename_i row off b4;rw[b4]at h1;simp only[aq]at h1;obtain⟨b,o',c,he,_⟩:=h1;exact lL _ he h2
   ·rename_i ps b4;rw[b4]at h1;simp only[aq,aJ]at h1;obtain⟨b,o',c,he,_⟩:=h1;exact lL _ he h2
   ·trivial
  ·trivial
 |true=>
  obtain⟨p,r,v,ht⟩:=ht
  have gf:∀f u v op,(eqGuard op t x y (.func f u v) .nilFunc).run P w=.ok () w:=by intro f u v op;simp only[eqGuard];cases op<;>rfl
  have g0:∀op,(eqGuard op t x y .nilFunc .nilFunc).run P w=.ok () w:=by intro op;simp only[eqGuard];cases op<;>rfl
  have lL:∀f u v,a.eval x=.func f u v→a.eval y=.nilFunc→ek P w0 own0 hvs G S0 o a w st kn γ S (nJ op false):=fun f u v zw Yp=>
   mf h bm bd ho zw Yp (gf _ _ _) (JO (d:=9999) ht f u v) rfl rfl
  simp only;split
  ·rename_i lz;rw[lz]at h2;simp only[aq,aJ]at h2;split
   ·rename_i b4;rw[b4]at h1;simp only[aq,aJ]at h1;exact mf h bm bd ho h1 h2 g0 (JN (d:=9999) ht) rfl rfl
   ·rename_i f c b4;rw[b4]at h1;simp only[aq]at h1;obtain⟨vs,he,_⟩:=h1;exact lL _ _ _ he h2
   ·rename_i f c b4;rw[b4]at h1;simp only[aq]at h1;obtain⟨vs,he,_⟩:=h1;exact lL _ _ _ he h2
   ·rename_i f c b4;rw[b4]at h1;simp only[aq,aJ]at h1;obtain⟨vs,he,_⟩:=h1;exact lL _ _ _ he h2
   ·trivial
  ·trivial
theorem JQ {t:TypeId} {x:Operand} {x':bN} {lo:Option Operand} {k1 k2:IntKind} {e:TypeId} (ho:o.op=.slice t x lo (some (.const (.int k1 0))) (some (.const (.int k2 0)))) (Rr:lo=none∨∃k,lo=some (.const (.int k 0))) (ht:P.underlying t=some (.slice e)) (dZ:∃n,bZ P e=some n) (hx:a8 G x=some x'):
  cg P w0 own0 hvs G S0 o a w st kn γ S (b6 aG kn (.TS x') st.ev):=by
 obtain⟨n,hn⟩:=dZ;have h1:=h.aj hx
 have bJ:∀b l c,a.eval x=.slice b l c→∃b',(execOp a.eval o).run P w=.ok (.value (.slice b' 0 0)) w:=by
  intro b l c he
  have e0:(Instr.sliceBound (.int k2 0) c .slice3Acap).run P w=.ok 0 w:=by simp[Instr.sliceBound,asIntOf]
  have e1:(Instr.sliceBound (.int k1 0) 0 .slice3B).run P w=.ok 0 w:=by simp[Instr.sliceBound,asIntOf]
  have c1:a.eval (.const (.int k1 0))=.int k1 0:=rfl;have c2:a.eval (.const (.int k2 0))=.int k2 0:=rfl
  rcases Rr with rfl|⟨k,rfl⟩
  ·refine⟨b,?_⟩;simp only[execOp,ho,Instr.sliceAt,Instr.slice,Instr.sliceBounds,Sem.run_bind,run_underlying ht,Result.andThen_ok,he,Option.map_some,Option.map_none,c1,c2,if_true,e0,e1,Sem.run_pure,run_sizeOf hn]
  ·have c3:a.eval (.const (.int k 0))=.int k 0:=rfl
   have e2:(Instr.sliceBound (.int k 0) 0 .slice3C).run P w=.ok 0 w:=by simp[Instr.sliceBound,asIntOf]
   refine⟨b,?_⟩;simp only[execOp,ho,Instr.sliceAt,Instr.slice,Instr.sliceBounds,Sem.run_bind,run_underlying ht,Result.andThen_ok,he,Option.map_some,Option.map_none,c1,c2,c3,if_true,e0,e1,e2,Option.isSome_some,Sem.run_pure,run_sizeOf hn]
 have fin:∀b l c,a.eval x=.slice b l c→pq P w0 own0 hvs G S0 o a w st (.full []):=by
  intro b l c he;obtain⟨b',gV⟩:=bJ b l c he;exact aK h bm bd gV (by simp only[aq];exact⟨b',rfl,.inl trivial⟩)
 simp only[b6];split
 ·rename_i b4;rw[b4]at h1;simp only[aq,aJ]at h1;obtain⟨b,c,he,_⟩:=h1;exact fin _ _ _ he
 ·rename_i b4;rw[b4]at h1;simp only[aq]at h1;obtain⟨b,he,_⟩:=h1;exact fin _ _ _ he
 ·rename_i id ver b4;rw[b4]at h1;simp only[aq,Ref]at h1;intro ob bH;simp only[bH]at h1
  cases ob with
  |rows sz rs bo=>
   by_cases hv:ver=bo
   ·subst hv;simp only[beq_self_eq_true];obtain⟨b,k,he,_⟩:=h1.2 rfl;exact fin _ _ _ he
   ·simp only[beq_eq_false_iff_ne.2 hv];trivial
  |eL rs bo=>
   by_cases hv:ver=bo
   ·subst hv;simp only[beq_self_eq_true];have h2:=h1.2 rfl;simp only[aJ]at h2;obtain⟨b,k,he,_⟩:=h2;exact fin _ _ _ he
   ·simp only[beq_eq_false_iff_ne.2 hv];trivial
  |_=>trivial
 ·trivial
theorem UD {t e:TypeId} {x:Operand} {x':bN} {m:Nat} (ho:o.op=.slice t x none none none) (ht:P.underlying t=some (.array m e)) (dZ:bZ P e=some 1) (hx:a8 G x=some x'):
  cg P w0 own0 hvs G S0 o a w st kn γ S (b6 aG kn (.TT x' m) st.ev):=by
 have h1:=h.aj hx;simp only[b6];split
 ·rename_i row off b4;rw[b4]at h1;simp only[aq]at h1;split
  ·rename_i hle;have hle:off+m≤row.length:=Nat.le_of_ble_eq_true hle;obtain⟨b,o',c,he,hb,hc,hr⟩:=h1
   have bJ:∃b',(execOp a.eval o).run P w=.ok (.value (.slice (some b') m m)) w∧b'=⟨b,o'+off,none⟩:=by
    refine⟨_,?_,rfl⟩;simp only[execOp,ho,he,Instr.sliceAt,Instr.sliceBounds,Instr.sureAddr,Sem.run_bind,run_underlying ht,Result.andThen_ok,Option.map_none,Sem.run_pure,run_sizeOf dZ,Nat.zero_mul,Nat.sub_zero]
    by_cases hm:m=0
    ·simp[hm]
    ·simp[hm,Addr.add]
   obtain⟨b',bJ,rfl⟩:=bJ;refine aK h bm bd bJ ?_
   have hlen:(((row.drop off).take m).map fun p=>[p]).length=m:=by simp;omega
   simp only[aq,hlen];refine⟨_,rfl,.inr ⟨b,o'+off,c,1,rfl,hb,hc,?_,?_⟩⟩
   ·intro r hr;obtain⟨p,_,rfl⟩:=List.mem_map.1 hr;rfl
   ·have key:∀(ps:List PV) (o:Nat),b7 S w ps c o→bI S w (ps.map fun p=>[p]) c o:=by
     intro ps
     induction ps with
     |nil=>intro o _;simp only[List.map_nil,bI]
     |cons p ps ih=>
      intro o hh;simp only[b7]at hh;simp only[List.map_cons,bI,b7,List.length_singleton,and_true];exact⟨hh.1,ih _ hh.2⟩
    exact key _ _ ((hr.drop off).take m)
  ·trivial
 ·trivial
theorem JR {t e:TypeId} {sz:Nat} {x:Operand} {x':bN} {lo hi:Option Operand} {Ep:Option bN} {hY:bN} (ho:o.op=.slice t x lo hi none) (ht:P.underlying t=some (.slice e)) (dZ:bZ P e=some sz) (hx:a8 G x=some x')
  (Rr:kp G lo=some Ep) (X7:kp G hi=some (some hY)) (hl:Ep=none∨Ep=some (.k (.int .i64 0))):
  cg P w0 own0 hvs G S0 o a w st kn γ S (b6 aG kn (.Ms sz x' hY) st.ev):=by
 simp only[b6];split
 ·rename_i k hv b4;simp only[sT];split
  ·rename_i id ver hev1;have h1:=h.aj hx;rw[hev1]at h1;simp only[aq,Ref]at h1;intro ob bH;simp only[bH]at h1
   cases ob with
   |rows mM rs bo=>
    by_cases Rv:ver=bo
    ·subst Rv;simp only[beq_self_eq_true];rintro⟨b0,b1,b2,b3⟩;obtain⟨a1,cap,q1,q2,q3⟩:=h1.2 rfl;have hH:=jo h bm bd X7 (l:=some hv) (by simp only[da,b4])
     obtain⟨l,hL,hl0⟩:∃l:Option Int,((lo.map a.eval=none∧l=none)∨∃k n,lo.map a.eval=some (.int k n)∧l=some n)∧l.getD 0=0:=by
      rcases hl with hl|hl
      ·subst hl;exact⟨none,jo h bm bd Rr (by simp only[da]),rfl⟩
      ·subst hl;exact⟨some 0,jo h bm bd Rr (by simp only[da,St.ev]),rfl⟩
     have bJ:=qS h ho ht dZ hL hH q1 q2 (by rw[hl0];exact Int.le_refl _) (by rw[hl0];simpa using b1) (by simp;omega);rw[hl0]at bJ
     have iP:∀(q:Addr),q.add (0*sz)=q:=by intro q;simp[Addr.add]
     have e1:(if cap=(0:Int).toNat then a1 else a1.map (·.add ((0:Int).toNat*sz)))=a1:=by
      split
      ·rfl
      ·cases a1 with
       |none=>rfl
       |some q=>simp[Addr.add]
     rw[e1]at bJ;refine⟨_,w,γ,S,.inl bJ,bm,bd,dj.setObj h bH (fun z v hz hv=>kO bH z v hz hv) (fun hρ=>?_),?_⟩
     ·have hO:=h.mem id _ bH
      rcases hO with⟨k1,k2⟩|⟨b,c,e',k1,k2,k3,k4,k5⟩
      ·left;exact⟨k1,by simp[aG,k2]⟩
      ·right
       refine⟨b,c,e',k1,k2,?_,?_,?_⟩
       ·refine Nat.le_trans (Nat.mul_le_mul_right _ ?_) k3;simp only[aG,List.length_take,List.length_drop];omega
       ·simp only[aG];exact(k4.drop _).take _
       ·simp only[aG];have:=(bI.drop 0 k4 k5).take (hv.toNat-0);simpa using this
     ·simp only[aq,Ref,St.aC,aE (bQ bH),if_true];refine⟨⟨Nat.le_refl _,rfl⟩,fun _=>⟨a1,cap,?_,?_,q3⟩⟩
      ·simp only[aG,List.length_take,List.length_drop,Option.getD_some,Int.toNat_zero,Nat.sub_zero]
       congr 1
       omega
      ·simp only[aG,List.length_take,List.length_drop];omega
    ·simp only[beq_eq_false_iff_ne.2 Rv];trivial
   |_=>trivial
  ·trivial
 ·trivial
theorem UE {t kt:TypeId} {e:TypeId} {x:Operand} {x':bN} {c:Call} (ho:o.op=.call c) (hc:c.callee=.builtin .len) (ha:c.args=#[x]) (nV:c.argTypes=#[t])
  (ht:P.underlying t=some (.map kt e)) (hx:a8 G x=some x'):
  cg P w0 own0 hvs G S0 o a w st kn γ S (b6 aG kn (.Xn x') st.ev):=by
 have h1:=h.aj hx
 have Es:a.eval x=.map none→(execOp a.eval o).run P w=.ok (.value (.int .i64 0)) w:=by
  intro he;simp only[execOp,ho,resolve,hc,ha,nV,Sem.run_bind,Sem.run_pure,Result.andThen_ok,invoke,builtin];simp[he,Builtin.len_,run_underlying ht,goInt]
 have Yq:∀b es ck,a.eval x=.map (some b)→w.heap[b]? =some (.map es ck)→(execOp a.eval o).run P w=.ok (.value (.int .i64 es.size)) w:=by
  intro b es ck he hb;have hg:=cI (P:=P) hb (fun _ _ _=>by simp);simp only[execOp,ho,resolve,hc,ha,nV,Sem.run_bind,Sem.run_pure,Result.andThen_ok,invoke,builtin];simp[he,Builtin.len_,run_underlying ht,goInt,hg]
 simp only[b6,vW];split
 ·rename_i b4;rw[b4]at h1;simp only[aq,aJ]at h1;exact aK h bm bd (Es h1) (by simp only[aq,aJ])
 ·rename_i kg vg n rows b4;rw[b4]at h1;simp only[aq,aJ]at h1;obtain⟨b,es,ck,he,hs,hm,uu,nI⟩:=h1
  have hb:w.heap[b]? =some (.map es ck):=by
   unfold fc at hm;split at hm
   ·rename_i es' ck' hh;simp only[Option.some.injEq,Prod.mk.injEq]at hm;obtain⟨rfl,rfl⟩:=hm;exact hh
   ·cases hm
  have hl:=bU.len nI;exact aK h bm bd (Yq b es ck he hb) (by simp only[aq,aJ,aG,←hl,Array.length_toList])
 ·rename_i id b4;rw[b4]at h1;simp only[aq,Ref]at h1;intro ob bH;simp only[bH]at h1
  cases ob with
  |map kg vg n rows=>
   obtain⟨b,hb,he⟩:=h1;obtain⟨b',es,ck,gV,hh,uu,nI⟩:=h.mem id _ bH;rw[hb]at gV;cases gV;have hl:=bU.len nI;exact aK h bm bd (Yq b es ck he hh) (by simp only[aq,aJ,aG,←hl,Array.length_toList])
  |_=>trivial
 ·trivial
theorem UF {t:TypeId} {x:Operand} {x':bN} (ho:o.op=.range t x) (ht:P.underlying t=some .string) (hx:a8 G x=some x'):
  cg P w0 own0 hvs G S0 o a w st kn γ S (b6 aG kn (.Xo x') st.ev):=by
 have h1:=h.aj hx;simp only[b6];split
 ·rename_i s b4;rw[b4]at h1;simp only[aq,aJ]at h1;intro hm bL;have key:=dj.HW h hm bL (.fz s 0) (.stringIter ⟨s.toArray⟩ 0) (fun hρ hl=>⟨w.heap.size,by simp[dw],heap_alloc_new,Int.le_refl _⟩);refine⟨.pointer (some ⟨w.heap.size,0,none⟩),w.alloc (.stringIter ⟨s.toArray⟩ 0),_,S,.inl ?_,bm,bd,key.1,?_⟩
  ·simp only[execOp,ho,h1,Instr.range,Sem.run_bind,run_underlying ht,Result.andThen_ok,Sem.run_pure,run_newObj,World.alloc_eq]
  ·simp only[aq,Ref,St.aC,aE bL,if_true];exact⟨w.heap.size,by simp[dw],rfl⟩
 ·trivial
theorem UG {x:Operand} {x':bN} (ho:o.op=.next x true) (hx:a8 G x=some x'):
  cg P w0 own0 hvs G S0 o a w st kn γ S (b6 aG kn (.Xp x') st.ev):=by
 have h1:=h.aj hx;simp only[b6,AB];split
 ·rename_i id b4;rw[b4]at h1;simp only[aq,Ref]at h1;intro ob bH;simp only[bH]at h1
  cases ob with
  |fz s pos=>
   obtain⟨b,hb,he⟩:=h1;obtain⟨b',gV,hh,hp⟩:=h.mem id _ bH;rw[hb]at gV;cases gV;have hg:=cI (P:=P) hh (fun _ _ _=>by simp);simp only
   by_cases bL:pos<s.length
   ·have e1:aG.lt pos (aG.yH s)=true:=by simp only[aG];exact decide_eq_true bL
    rw[e1]
    have dZ:pos.toNat<(ByteArray.mk s.toArray).size:=by simp[ByteArray.size];omega
    have key:=dj.AM h bH hb hh (go':=.stringIter ⟨s.toArray⟩ (pos.toNat+(Utf8.decode ⟨s.toArray⟩ pos.toNat).2)) (ob':=.fz s (aG.MD pos (aG.Eb s pos))) (fun z v hz hv=>by
      cases z with
      |ptr i2 v2=>
       simp only[bD,Option.some.injEq]at hz;subst hz;simp only[Ref,bH]at hv;simp only[Ref,St.aC,aE (bQ bH),if_true];exact hv
      |dB i2 v2=>simp only[bD,Option.some.injEq]at hz;subst hz;simp only[Ref,bH]at hv
      |dt i2=>simp only[bD,Option.some.injEq]at hz;subst hz;simp only[Ref,bH]at hv
      |cW i2 v2 j2 o2=>simp only[bD,Option.some.injEq]at hz;subst hz;simp only[Ref,bH]at hv
      |eR i2 v2=>simp only[bD,Option.some.injEq]at hz;subst hz;simp only[Ref,bH]at hv
      |_=>simp[bD]at hz)
     (fun hρ hl=>⟨b,hb,by rw[heap_set hh];congr 2;simp only[aG];omega,by simp only[aG];omega⟩)
    refine⟨.tuple #[.bool true,goInt pos.toNat,.int .i32 (Utf8.decode ⟨s.toArray⟩ pos.toNat).1],_,γ,S,.inl ?_,bm,bd,key,?_⟩
    ·simp only[execOp,ho,he,Instr.next,Sem.run_bind,hg,Result.andThen_ok,dZ,if_true,gw hh (fun _ _ _=>by simp),Sem.run_pure]
    ·simp only[aq,aJ,a7];refine⟨[.bool true,goInt pos.toNat,.int .i32 (Utf8.decode ⟨s.toArray⟩ pos.toNat).1],rfl,_,_,rfl,rfl,_,_,rfl,?_,_,_,rfl,rfl,rfl⟩;simp only[goInt];congr 1;omega
   ·have e1:aG.lt pos (aG.yH s)=false:=by simp only[aG];exact decide_eq_false bL
    rw[e1]
    have dZ:¬pos.toNat<(ByteArray.mk s.toArray).size:=by simp[ByteArray.size];omega
    refine aK h bm bd (u:=.tuple #[.bool false]) ?_ (by simp only[aq,aJ,a7];exact⟨[.bool false],rfl,_,_,rfl,rfl,rfl⟩);simp only[execOp,ho,he,Instr.next,Sem.run_bind,hg,Result.andThen_ok,dZ,if_false,Sem.run_pure]
  |_=>trivial
 ·trivial
theorem UH {t kt e:TypeId} {x:Operand} {x':bN} (ho:o.op=.range t x) (ht:P.underlying t=some (.map kt e)) (hx:a8 G x=some x'):
  cg P w0 own0 hvs G S0 o a w st kn γ S (b6 aG kn (.Xq x') st.ev):=by
 have h1:=h.aj hx;simp only[b6];split
 ·rename_i kg vg n rows b4;rw[b4]at h1;simp only[aq,aJ]at h1;obtain⟨b,es,ck,he,hs,AQ,uu,nI⟩:=h1
  have hb:w.heap[b]? =some (.map es ck):=by
   unfold fc at AQ;split at AQ
   ·rename_i es' ck' hh;simp only[Option.some.injEq,Prod.mk.injEq]at AQ;obtain⟨rfl,rfl⟩:=AQ;exact hh
   ·cases AQ
  have hg:=cI (P:=P) hb (fun _ _ _=>by simp);intro hm bL
  have key:=dj.HW h hm bL (.er (.mp kg vg n rows) []) (.mapIter (some b) ck #[] ck) (fun hρ hl=>by
   refine⟨w.heap.size,b,es,ck,#[],by simp[dw],heap_alloc_new,(hl b hs).1,(hl b hs).2.2.trans AQ,uu,bU.later hl _ nI,fun i e' _=>by simp,fun i r hr=>by simp at hr⟩)
  refine⟨.pointer (some ⟨w.heap.size,0,none⟩),w.alloc (.mapIter (some b) ck #[] ck),_,S,.inl ?_,bm,bd,key.1,?_⟩
  ·simp only[execOp,ho,he,Instr.range,Sem.run_bind,run_underlying ht,Result.andThen_ok,hg,Sem.run_pure,run_newObj,World.alloc_eq]
  ·simp only[aq,Ref,St.aC,aE bL,if_true];exact⟨w.heap.size,by simp[dw],rfl⟩
 ·rename_i b4;rw[b4]at h1;simp only[aq,aJ]at h1;intro hm bL;have key:=dj.HW h hm bL (.er .pn []) (.mapIter none 0 #[] 0) (fun hρ hl=>⟨w.heap.size,by simp[dw],heap_alloc_new⟩);refine⟨.pointer (some ⟨w.heap.size,0,none⟩),w.alloc (.mapIter none 0 #[] 0),_,S,.inl ?_,bm,bd,key.1,?_⟩
  ·simp only[execOp,ho,h1,Instr.range,Sem.run_bind,run_underlying ht,Result.andThen_ok,Sem.run_pure,run_newObj,World.alloc_eq]
  ·simp only[aq,Ref,St.aC,aE bL,if_true];exact⟨w.heap.size,by simp[dw],rfl⟩
 ·trivial
end
end Go.Am
end
section
namespace Go.Am
section
variable {P:Program} {w0:World} {own0:Nat→Prop} {hvs:List Value} {G:Nat→Option (List PV)} {S0:Nat→Prop} {accs:List Nat}
 {γ:Nat→Option Nat} {S:Nat→Prop} {st:St} {a:Act} {w:World} {o:Oper} {kn:Nat}
theorem Ey (n:Nat) (hn:0<n):∃c w',c<n∧(choose (.mapNext n)).run P w=.ok c w'∧(w'=w∨w'=w.drew):=by
 rw[run_choose_drew]
 by_cases hf:Question.forced (.mapNext n)=true
 ·exact⟨0,w,hn,by rw[if_pos hf],.inl rfl⟩
 ·refine⟨_,w.drew,?_,by rw[if_neg hf],.inr rfl⟩;simp only[Question.cut];exact Nat.mod_lt _ hn
variable (h:dj w0 own0 hvs G γ S st a w)
variable (bm:∀b,S0 b→S b) (bd:∀b,S b→S0 b∨w0.heap.size≤b∨own0 b)
include h bm bd
theorem M1 {x:Operand} {x':bN} (ho:o.op=.next x false) (hx:a8 G x=some x'):
  cg P w0 own0 hvs G S0 o a w st kn γ S (b6 aG kn (.HR x') st.ev):=by
 have h1:=h.aj hx;simp only[b6,AD];split
 ·rename_i id b4;rw[b4]at h1;simp only[aq,Ref]at h1;intro ob bH;simp only[bH]at h1
  cases ob with
  |er src seen=>
   obtain⟨b,hb,he⟩:=h1;have hO:=h.mem id _ bH;simp only[fU]at hO;split at hO
   ·
    obtain⟨b',gV,hh⟩:=hO;rw[hb]at gV;cases gV;have hg:=cI (P:=P) hh (fun _ _ _=>by simp);refine aK h bm bd (u:=.tuple #[.bool false]) ?_ (by simp only[aq,aJ,a7];exact⟨[.bool false],rfl,_,_,rfl,rfl,rfl⟩);simp only[execOp,ho,he,Instr.next,Sem.run_bind,hg,Result.andThen_ok,Sem.run_pure]
   ·rename_i kg vg n rows;obtain⟨b',mb,es,ck,sb,gV,hh,DZ,AQ,uu,nI,CF,s7⟩:=hO;rw[hb]at gV;cases gV
    have hm:w.heap[mb]? =some (.map es ck):=by
     unfold fc at AQ;split at AQ
     ·rename_i Yr;simp only[Option.some.injEq,Prod.mk.injEq]at AQ;obtain⟨rfl,rfl⟩:=AQ;exact Yr
     ·cases AQ
    have hg:=cI (P:=P) hh (fun _ _ _=>by simp);have hgm:=cI (P:=P) hm (fun _ _ _=>by simp);have hlen:=bU.len nI
    have eN:es.size=rows.length:=by simpa using hlen
    have JS:∀e∈es,e.born<ck:=fun e he=>uu.1 e (by simpa using he)
    have c1:(!sb.isEmpty&& !es.isEmpty&&es.all fun x=>decide (x.born≥ck))=false:=by
     cases hes0:es.isEmpty with
     |true=>simp
     |false=>
      have rk:0<es.size:=by
       rcases Nat.eq_zero_or_pos es.size with h0|h0
       ·rw[Array.size_eq_zero_iff]at h0;subst h0;simp at hes0
       ·exact h0
      have:(es.all fun x=>decide (x.born≥ck))=false:=by
       rw[Bool.eq_false_iff];intro bP;rw[Array.all_eq_true]at bP;have h2:=bP 0 rk;have h3:=JS es[0] (Array.getElem_mem rk);simp only[decide_eq_true_eq]at h2;omega
      simp[this]
    have c2:((es.filter fun e=> !sb.contains e.born).filter fun x=>decide (x.born<ck))=es.filter fun e=> !sb.contains e.born:=by
     rw[Array.filter_eq_self];intro e he;exact decide_eq_true (JS e (Array.mem_filter.1 he).1)
    have c3:((es.filter fun e=> !sb.contains e.born).filter fun x=>decide (x.born≥ck))=#[]:=by
     rw[Array.filter_eq_empty_iff];intro e he hh;have:=JS e (Array.mem_filter.1 he).1;simp only[decide_eq_true_eq]at hh;omega
    simp only
    cases hd:aG.Cg seen rows with
    |true=>
     simp only
     have bP:∀i,i<rows.length→seen.contains i=true:=by
      intro i hi;simp only[aG,List.all_eq_true,List.mem_range]at hd;exact hd i hi
     have c4:(es.filter fun e=> !sb.contains e.born)=#[]:=by
      rw[Array.filter_eq_empty_iff];intro e he hh;obtain⟨i,hi,rfl⟩:=Array.mem_iff_getElem.1 he;have:=CF i es[i] (Array.getElem?_eq_getElem hi);rw[bP i (by omega)]at this;rw[this]at hh;cases hh
     refine aK h bm bd (u:=.tuple #[.bool false]) ?_ (by simp only[aq,aJ,a7];exact⟨[.bool false],rfl,_,_,rfl,rfl,rfl⟩)
     have c5:(choose (.mapNext 1)).run P w=.ok 0 w:=by rw[run_choose_drew];rfl
     simp only[execOp,ho,he,Instr.next,Sem.run_bind,hg,hgm,Result.andThen_ok,c1,Bool.false_eq_true,if_false,c2,c3,c4];simp[c5];intro hf;simp[Question.forced]at hf
    |false=>
     simp only
     have hex:∃i,i<rows.length∧seen.contains i=false:=by
      by_cases hx:∃i,i<rows.length∧seen.contains i=false
      ·exact hx
      ·exfalso
       have:aG.Cg seen rows=true:=by
        simp only[aG,List.all_eq_true,List.mem_range];intro i hi
        by_cases hc:seen.contains i=true
        ·exact hc
        ·exact absurd ⟨i,hi,by simpa using hc⟩ hx
       rw[this]at hd;cases hd
     obtain⟨i0,Xz,hs00⟩:=hex
     let left:=es.filter fun e=> !sb.contains e.born
     have dW:0<left.size:=by
      have:es[i0]'(by omega)∈left:=by
       refine Array.mem_filter.2 ⟨Array.getElem_mem _,?_⟩;rw[CF i0 _ (Array.getElem?_eq_getElem (by omega)),hs00];rfl
      exact Array.size_pos_of_mem this
     obtain⟨c,w',hc,AJ,UI⟩:=Ey (P:=P) (w:=w) left.size dW;have hle:left[c]∈left:=Array.getElem_mem hc;obtain⟨hle1,hle2⟩:=Array.mem_filter.1 hle;obtain⟨i,hi,Et⟩:=Array.mem_iff_getElem.1 hle1
     have sg:seen.contains i=false:=by
      have:=CF i _ (Array.getElem?_eq_getElem hi);rw[Et]at this;rw[←this];simpa using hle2
     have hw:w'.heap=w.heap∧w'.os=w.os∧w'.tape=w.tape∧w'.output=w.output:=by
      rcases UI with rfl|rfl<;>exact⟨rfl,rfl,rfl,rfl⟩
     have pS:dj w0 own0 hvs G γ S st a w':=by
      rcases UI with rfl|rfl
      ·exact h
      ·exact dj.drew h
     refine⟨i,⟨by omega,sg⟩,?_⟩
     have H0:w'.heap[b]? =some (.mapIter (some mb) ck sb ck):=by rw[hw.1];exact hh
     have hma':fc w' mb=some (es,ck):=by unfold fc;rw[hw.1];exact AQ
     have hes':bU S w' kg vg n rows es.toList:=bU.later (w:=w) (fun k hk=>⟨hk,eI (by rw[hw.1])⟩) _ nI
     have key:=dj.AM pS bH hb H0 (go':=.mapIter (some mb) ck (sb.push left[c].born) ck) (ob':=.er (.mp kg vg n rows) (i::seen)) (fun z v hz hv=>by
       cases z with
       |ptr i2 v2=>
        simp only[bD,Option.some.injEq]at hz;subst hz;simp only[Ref,bH]at hv;simp only[Ref,St.aC,aE (bQ bH),if_true];exact hv
       |dB i2 v2=>simp only[bD,Option.some.injEq]at hz;subst hz;simp only[Ref,bH]at hv
       |dt i2=>simp only[bD,Option.some.injEq]at hz;subst hz;simp only[Ref,bH]at hv
       |cW i2 v2 j2 o2=>simp only[bD,Option.some.injEq]at hz;subst hz;simp only[Ref,bH]at hv
       |eR i2 v2=>simp only[bD,Option.some.injEq]at hz;subst hz;simp only[Ref,bH]at hv
       |_=>simp[bD]at hz)
      (fun hρ hl=>by
       refine⟨b,mb,es,ck,sb.push left[c].born,hb,heap_set H0,DZ,(hl mb DZ).2.2.trans hma',uu,bU.later hl _ hes',fun j e hje=>?_,fun i' r' ri=>by have e1:=(List.cons.inj ri).1;subst e1;exact⟨left[c],by rw[←Et];exact Array.getElem?_eq_getElem hi,by simp⟩⟩;have hj:=CF j e hje;obtain⟨vP,UJ⟩:=Array.getElem?_eq_some_iff.1 hje;rw[Array.contains_push,hj,List.contains_cons];rw[Bool.or_comm]
       congr 1
       rw[Bool.eq_iff_iff];simp only[beq_iff_eq];constructor
       ·intro hbe;have hp:=uu.2;rw[List.pairwise_iff_getElem]at hp
        rcases Nat.lt_trichotomy j i with bL|heq|H2
        ·have:=hp j i (by simpa using vP) (by simpa using hi) bL;simp only[Array.getElem_toList]at this;rw[UJ,Et]at this;omega
        ·exact heq
        ·have:=hp i j (by simpa using hi) (by simpa using vP) H2;simp only[Array.getElem_toList]at this;rw[UJ,Et]at this;omega
       ·intro UK;subst UK;rw[←UJ,Et])
     have bM:rows[i]? =some rows[i]:=List.getElem?_eq_getElem (by omega);obtain⟨en,Mc,Ys⟩:=bU.get nI bM
     have UL:en=left[c]:=by
      have:es.toList[i]? =some es[i]:=by simpa using Array.getElem?_eq_getElem hi
      rw[this]at Mc;cases Mc;exact Et
     subst UL
     have uv:rows.getD i []=rows[i]:=by rw[List.getD_eq_getElem?_getD,bM];rfl
     have hlw:cA S w S {w' with heap:=w'.heap.setIfInBounds b (.mapIter (some mb) ck (sb.push left[c].born) ck)}:=fun k hk=>⟨hk,eI (by
      have hkb:k≠b:=fun e=>(h.own id b hb).1 (e▸hk)
      simp[Array.getElem?_setIfInBounds_ne (Ne.symm hkb),hw.1])⟩
     refine⟨.tuple #[.bool true,left[c].key,left[c].val],_,γ,S,.inl ?_,bm,bd,key,?_⟩
     ·have dZ:(left.map some).size=left.size:=by simp
      have c6:(left.map some)[c]? =some (some left[c]):=by simp[hc]
      have c7:((if left.isEmpty=true then #[none]else #[])++(left++#[]).map some:Array (Option MapEntry))=left.map some:=by
       have:left.isEmpty=false:=by
        rw[Array.isEmpty_eq_false_iff];intro e0;rw[e0]at dW;simp at dW
       rw[this];simp
      simp only[execOp,ho,he,Instr.next,Sem.run_bind,hg,hgm,Result.andThen_ok,c1,Bool.false_eq_true,if_false,c2,c3];show((((choose (.mapNext ((if left.isEmpty=true then #[none]else #[])++(left++#[]).map some:Array (Option MapEntry)).size)).run P w).andThen _).andThen _)=_;rw[c7,dZ,AJ];simp only[Result.andThen_ok];rw[c6];simp only[Sem.run_bind,gw H0 (fun _ _ _=>by simp),Result.andThen_ok,Sem.run_pure]
     ·simp only[aq,aJ,a7,aG,uv];exact⟨[.bool true,left[c].key,left[c].val],rfl,_,_,rfl,rfl,_,_,rfl,aJ.later hlw _ Ys.key,_,_,rfl,aJ.later hlw _ Ys.val,rfl⟩
   ·exact hO.elim
  |_=>trivial
 ·trivial
theorem M3 {x:Operand} {x':bN} (ho:o.op=.entry x) (hx:a8 G x=some x'):
  cg P w0 own0 hvs G S0 o a w st kn γ S (b6 aG kn (.HS x') st.ev):=by
 have h1:=h.aj hx;simp only[b6,vX];split
 ·rename_i id b4;rw[b4]at h1;simp only[aq,Ref]at h1;intro ob bH;simp only[bH]at h1
  cases ob with
  |er src seen=>
   cases src with
   |mp kg vg n rows=>
    cases seen with
    |nil=>trivial
    |cons i seen=>
     obtain⟨b,hb,he⟩:=h1;have hO:=h.mem id _ bH;simp only[fU]at hO;obtain⟨b',mb,es,ck,sb,gV,hh,DZ,AQ,uu,nI,CF,s7⟩:=hO;rw[hb]at gV;cases gV
     have hm:w.heap[mb]? =some (.map es ck):=by
      unfold fc at AQ;split at AQ
      ·rename_i Yr;simp only[Option.some.injEq,Prod.mk.injEq]at AQ;obtain⟨rfl,rfl⟩:=AQ;exact Yr
      ·cases AQ
     have hg:=cI (P:=P) hh (fun _ _ _=>by simp);have hgm:=cI (P:=P) hm (fun _ _ _=>by simp);obtain⟨e,Et,hbk⟩:=s7 i seen rfl;obtain⟨hi,hei'⟩:=Array.getElem?_eq_some_iff.1 Et;have hlen:=bU.len nI
     have eN:es.size=rows.length:=by simpa using hlen
     have hnd:(es.toList.map (·.born)).Nodup:=by
      rw[List.nodup_iff_pairwise_ne,List.pairwise_map];exact uu.2.imp (fun h=>Nat.ne_of_lt h)
     have hf:es.find? (·.born==e.born)=some e:=by
      rw[←Array.find?_toList];exact find_born e es.toList hnd (by rw[←hei'];simp)
     have bM:rows[i]? =some rows[i]:=List.getElem?_eq_getElem (by omega);obtain⟨en,Mc,Ys⟩:=bU.get nI bM
     have UL:en=e:=by
      have h2:es.toList[i]? =some e:=by simpa using Et
      rw[h2]at Mc;cases Mc;rfl
     subst UL
     have uv:rows.getD i []=rows[i]:=by rw[List.getD_eq_getElem?_getD,bM];rfl
     refine aK h bm bd (u:=.tuple #[en.key,en.val]) ?_ ?_
     ·simp only[execOp,ho,he,Instr.entry,Sem.run_bind,hg,hgm,Result.andThen_ok,hbk,bne_self_eq_false,Bool.false_eq_true,if_false,hf,Sem.run_pure]
     ·simp only[aq,aJ,a7,aG,uv];exact⟨[en.key,en.val],rfl,_,_,rfl,Ys.key,_,_,rfl,Ys.val,rfl⟩
   |_=>trivial
  |_=>trivial
 ·trivial
end
end Go.Am
end
