import Derived.ChangeShapes
import Derived.OpenShut
import Derived.OpenVars
import Derived.Carry
import Derived.ChangeSame
import Derived.RowKit
import Derived.Test.YtfaccbkibjkfjaaGreatDoorProg
import Derived.Test.YtfaccbkibjkfjaaGreatDoorT06
set_option linter.all false
set_option maxRecDepth 100000
set_option maxHeartbeats 1000000
section
namespace Go.Am
def wb (P:Program):ResultVar→Option RD
 |.tmp t=>some (.tmp t)
 |.cell a t=>match eu P t with
  |some true=>match bZ P t with|some n=>some (.cell a (some n))|none=>none
  |some false=>some (.cell a none)
  |none=>none
def ja (P:Program):List ResultVar→Option (List RD)
 |[]=>some []
 |x::r=>match wb P x with
  |some d=>match ja P r with|some ds=>some (d::ds)|none=>none
  |none=>none
def eV (cN:List RD) (st:St):Option PV:=
 match zg st cN with
 |some vs=>match mT st.mem (one? vs)with|some (p,_)=>some p|none=>none
 |none=>none
def tj (cN:List RD) (res:PV):Ex→St→Prop
 |.exit _,_=>False
 |_,st=>eV cN st=some res
def start (nt:Nat) (ps:List PV):St:=⟨ps.map .pv++List.replicate (nt-ps.length) .dead,[],0,List.replicate nt none⟩
section
variable {P:Program} {w0:World} {own0:Nat→Prop} {hvs:List Value} {G:Nat→Option (List PV)} {S0:Nat→Prop} {γ:Nat→Option Nat} {S:Nat→Prop} {st:St} {a:Act} {w:World}
 (h:dj w0 own0 hvs G γ S st a w)
include h
theorem Nk {r:ResultVar} {d:RD} {v:AV} (hd:wb P r=some d) (hv:MG st d=some v):
  ∃u,((match r with|.tmp t=>pure (a.tmps.getD t undef)|.cell x t=>do loadVar t (←asAddr (a.tmps.getD x undef)):Sem Value)).run P w=.ok u w∧aq S w (Ref γ S w st.mem) v u:=by
 cases r with
 |tmp t=>
  simp only[wb,Option.some.injEq]at hd;subst hd;simp only[MG,Option.some.injEq]at hv;subst hv;exact⟨_,Sem.run_pure _ _ _,h.slot t⟩
 |cell x t=>
  simp only[wb]at hd
  have hx:∃g n,d=.cell x n∧eu P t=some g∧(match g with|true=>∃m,bZ P t=some m∧n=some m|false=>n=none):=by
   split at hd
   ·rename_i hg;split at hd
    ·rename_i n hn;simp only[Option.some.injEq]at hd;exact⟨true,some n,hd.symm,hg,n,hn,rfl⟩
    ·cases hd
   ·rename_i hg;simp only[Option.some.injEq]at hd;exact⟨false,none,hd.symm,hg,rfl⟩
   ·cases hd
  obtain⟨g,n,rfl,hg,hn⟩:=hx;simp only[MG]at hv;split at hv
  ·rename_i id off hs;split at hv
   ·rename_i cs hm;have hp:=h.slot x;rw[hs]at hp;simp only[aq,Ref,hm]at hp;obtain⟨b,hb,hp⟩:=hp;obtain⟨b',c,e,gV,hc,dZ,Xu⟩:=h.mem id _ hm;rw[hb]at gV;cases gV
    have YF:ag w b=some c:=by simp[ag,hc]
    simp only[hp,asAddr,Sem.run_bind,Sem.run_pure,Result.andThen_ok]
    cases g with
    |false=>
     simp only at hn;subst hn;simp only[jP]at hv;split at hv
     ·rename_i v' hl;split at hl
      ·rename_i p XB;simp only[Out.val.injEq]at hl;subst hl;simp only[Option.some.injEq]at hv;subst hv;obtain⟨u,hu,MZ⟩:=bz.get Xu.1 XB;rw[Nat.zero_add]at hu;exact⟨u,lA hg YF hu,MZ⟩
      ·cases hl
     ·cases hv
    |true=>
     simp only at hn;obtain⟨m,zG,rfl⟩:=hn;simp only[jP]at hv;split at hv
     ·rename_i v' hl;split at hl
      ·rename_i hle;simp only[Out.val.injEq]at hl;subst hl;simp only[Option.some.injEq]at hv;subst hv;obtain⟨vs,h1,h2,h3⟩:=bz.list ((Xu.1.drop off).take m);rw[Nat.zero_add]at h3
       have hlen:vs.length=m:=by rw[h2];simp;omega
       exact⟨_,lB hg zG YF hlen h3,by simp only[aq];exact⟨vs,rfl,h1⟩⟩
      ·cases hl
     ·cases hv
   ·cases hv
  ·cases hv
theorem CR:∀{l:List ResultVar} {ds:List RD} {vs:List AV},ja P l=some ds→zg st ds=some vs→
  ∃us:List Value,(l.mapM fun r=>(match r with|.tmp t=>pure (a.tmps.getD t undef)|.cell x t=>do loadVar t (←asAddr (a.tmps.getD x undef)):Sem Value)).run P w=.ok us w∧aF S w (Ref γ S w st.mem) vs us
 |[],ds,vs,hd,hv=>by
  simp only[ja,Option.some.injEq]at hd;subst hd;simp only[zg,Option.some.injEq]at hv;subst hv;exact⟨[],by simp,by simp only[aF]⟩
 |r::l,ds,vs,hd,hv=>by
  simp only[ja]at hd;split at hd
  ·rename_i d YG;split at hd
   ·rename_i ds' ru;simp only[Option.some.injEq]at hd;subst hd;simp only[zg]at hv;split at hv
    ·rename_i v hv1;split at hv
     ·rename_i vs' gu;simp only[Option.some.injEq]at hv;subst hv;obtain⟨u,h1,h2⟩:=Nk h YG hv1;obtain⟨us,h3,h4⟩:=CR ru gu;refine⟨u::us,?_,by simp only[aF];exact⟨u,us,rfl,h2,h4⟩⟩;simp only[List.mapM_cons,Sem.run_bind,h1,Result.andThen_ok,h3,Sem.run_pure]
     ·cases hv
    ·cases hv
   ·cases hd
  ·cases hd
theorem xp {fn:Func} {ds:List RD} {v:AV} (hd:ja P fn.results.toList=some ds) (hv:mU ds st=some v):
  ∃u,(results fn a.tmps).run P w=.ok u w∧aq S w (Ref γ S w st.mem) v u:=by
 unfold mU at hv;split at hv
 ·rename_i vs hvs;simp only[Option.some.injEq]at hv;subst hv;obtain⟨us,h1,h2⟩:=CR h hd hvs
  have mO:(results fn a.tmps).run P w=.ok (if hh:us.toArray.size=1 then us.toArray[0]else .tuple us.toArray) w:=by
   have e:fn.results=fn.results.toList.toArray:=by simp
   unfold results;rw[e,List.mapM_toArray];simp only[Sem.run_bind,Sem.run_map,Sem.run_pure,map_eq_pure_bind];exact congrArg (fun r=>Result.andThen (Result.andThen r (fun(a:List Value) w'=>.ok a.toArray w')) (fun a w'=>.ok (if h:a.size=1 then a[0]else Value.tuple a) w')) h1
  rcases vs with _|⟨x,_|⟨y,z⟩⟩
  ·simp only[aF]at h2;subst h2;exact⟨.tuple #[],by rw[mO];simp,by simp only[one?,aq];exact⟨[],by simp,by simp only[aF]⟩⟩
  ·simp only[aF]at h2;obtain⟨u,r,rfl,h3,rfl⟩:=h2;exact⟨u,by rw[mO];simp,h3⟩
  ·have hlen:us.length≠1:=by
    simp only[aF]at h2;obtain⟨_,_,rfl,_,_,_,rfl,_⟩:=h2;simp
   exact⟨.tuple us.toArray,by rw[mO];simp[hlen],by simp only[one?,aq];exact⟨us,rfl,h2⟩⟩
 ·cases hv
theorem xq {fn:Func} {ds:List RD} {res:PV} (hd:ja P fn.results.toList=some ds) (hv:eV ds st=some res):
  ∃v b,(results fn a.tmps).run P w=.ok v w∧aJ (gF γ S b) w res v:=by
 unfold eV at hv;split at hv
 ·rename_i vs hvs;split at hv
  ·rename_i p b hl;simp only[Option.some.injEq]at hv;subst hv;obtain⟨u,h1,h2⟩:=xp h hd (v:=one? vs) (by unfold mU;rw[hvs]);exact⟨u,b,h1,zy h hl h2⟩
  ·cases hv
 ·cases hv
end
section
variable {P:Program} {G:Nat→Option (List PV)} {accs:List Nat}
theorem xr {nt:Nat} {ps:List PV} {S:Nat→Prop} {w:World} {ρ:AV→Value→Prop}:∀{vs:List Value},a7 S w ps vs→∀(n i:Nat),aq S w ρ ((ps.map AV.pv++List.replicate n AV.dead).getD i AV.dead) ((vs.toArray++Array.replicate n undef).getD i undef):=by
 induction ps with
 |nil=>
  intro vs h n i;simp only[a7]at h;subst h
  have:(List.map AV.pv []++List.replicate n AV.dead).getD i .dead=.dead:=by
   simp only[List.map_nil,List.nil_append,List.getD_eq_getElem?_getD,List.getElem?_replicate];split<;>rfl
  rw[this];simp only[aq]
 |cons p ps ih=>
  intro vs h n i;simp only[a7]at h;obtain⟨v,r,rfl,h1,h2⟩:=h
  cases i with
  |zero=>
   have e:((v::r).toArray++Array.replicate n undef).getD 0 undef=v:=by simp[Array.getD_eq_getD_getElem?,Array.getElem?_append]
   rw[e];simp only[List.map_cons,List.cons_append,List.getD_cons_zero,aq];exact h1
  |succ i=>
   have:=ih h2 n i
   have e:((v::r).toArray++Array.replicate n undef).getD (i+1) undef=(r.toArray++Array.replicate n undef).getD i undef:=by
    rw[Array.getD_eq_getD_getElem?,Array.getD_eq_getD_getElem?];simp only[←Array.getElem?_toList,Array.toList_append,List.cons_append,List.getElem?_cons_succ]
   rw[e];simpa only[List.map_cons,List.cons_append,List.getD_cons_succ]using this
theorem a7.Gi {S:Nat→Prop} {w:World} {ps:List PV} {vs:List Value} (h:a7 S w ps vs):vs.length=ps.length:=by
 have:=a7.length h;omega
theorem CS (hm:P.follows .mixedOrders=true) {f:FuncId} {fn:Func} {c:Code} {ac:cT} {cN:List RD} {nt:Nat} (hf:P.funcs[f]? =some fn) (hb:fn.body=some c) (hn:(fn.name== "runtime.NumGoroutine")=false)
  (hc:dn P G accs c=some ac) (hr:ja P fn.results.toList=some cN) (RG:fn.ntmps=nt) {ps:List PV} {res:PV} (rj:ps.length≤nt)
  (h:bA (ar P G) aG (bB P G) [.code ac] (tj cN res) .normal (start nt ps)):ar P G f ps res:=by
 intro S w vs hS hG jV;have hlen:=a7.Gi jV;unfold fM
 have bJ:(callFunc f vs.toArray).run P w=.ok (.enter f vs.toArray) w:=by
  have rG:¬fn.name= "runtime.NumGoroutine" :=by simpa using hn
  simp[callFunc,run_program,hf,rG,hb]
 rw[bJ];simp only;refine calls_of_wp hf hb ?_
 have th:ie w (fun _=>False) [] G S (start nt ps) {tmps:=vs.toArray++Array.replicate (fn.ntmps-vs.toArray.size) undef,defers:=[]} w:=by
  have CQ:∀id,aA (start nt ps).mem id=none:=by
   intro id;simp only[start,aA,List.getD_eq_getElem?_getD,List.getElem?_replicate];split<;>rfl
  refine⟨fun _=>none,S,fun _ h=>h,fun _ h=>.inl h,{size:=?_,slot:=?_,held:=?_,defers:=rfl,mem:=?_,qQ:=?_,inj:=?_,own:=?_,bound:=hS,dx:=?_,nR:=hG,kept:=fun _ _ _=>rfl,os:=rfl,tape:=rfl,output:=rfl,eF:=Nat.le_refl _}⟩
  ·simp[start,hlen,RG]
  ·intro i;have:=xr (nt:=nt) (ρ:=Ref (fun _=>none) S w (start nt ps).mem) jV (nt-ps.length) i;rw[RG];simpa[start,St.slot,hlen]using this
  ·simp only[start,aF]
  ·intro id ob bH;rw[CQ id]at bH;cases bH
  ·intro i b hb;cases hb
  ·intro i j b hb;cases hb
  ·intro i b hb;cases hb
  ·intro i b hb;cases hb
 refine A1 hm c hc th (Qa:=tj cN res) h ?_;intro e st' a' w' gX hq;obtain⟨γ,S',bm,bd,pS⟩:=gX
 have key:eV cN st'=some res→a'.defers=[]∧∃v,(results fn a'.tmps).run P w'=.ok v w'∧∃v',Ending.returned v=.returned v'∧(RowKit.Below w.heap.size w w'∧aJ (fun b=>S b∨(w.heap.size≤b∧b<w'.heap.size)) w' res v'):=by
  intro hq;obtain⟨v,b,h1,h2⟩:=xq pS hr hq;refine⟨pS.defers,v,h1,v,rfl,⟨pS.os,pS.tape,pS.output,pS.eF,fun k hk=>pS.kept k hk (fun h=>h)⟩,?_⟩;refine aJ.later (fun k hk=>⟨?_,rfl,rfl⟩) _ h2
  rcases hk with hk|⟨_,i,hk⟩
  ·rcases bd k hk with h3|h3|h3
   ·exact .inl h3
   ·exact .inr ⟨h3,pS.bound k hk⟩
   ·exact h3.elim
  ·rcases(pS.own i k hk).2 with h3|h3
   ·exact .inr ⟨h3,pS.dx i k hk⟩
   ·exact h3.elim
 cases e with
 |normal=>exact key hq
 |ret=>exact key hq
 |exit id=>exact hq.elim
def Gj (cN:List RD) (res:PV) (e:Ex) (st:St):Prop:=∃s',Fg st s'∧tj cN res e s'
theorem A2 (hm:P.follows .mixedOrders=true) {f:FuncId} {fn:Func} {c:Code} {ac:cT} {cN:List RD} {nt:Nat} (hf:P.funcs[f]? =some fn) (hb:fn.body=some c) (hn:(fn.name== "runtime.NumGoroutine")=false)
  (hc:dn P G accs c=some ac) (hr:ja P fn.results.toList=some cN) (RG:fn.ntmps=nt) {ps:List PV} {res:PV} (rj:ps.length≤nt)
  (h:bA (ar P G) aG (bB P G) [.code ac] (Gj cN res) .normal (start nt ps)):ar P G f ps res:=by
 intro S w vs hS hG jV;have hlen:=a7.Gi jV;unfold fM
 have bJ:(callFunc f vs.toArray).run P w=.ok (.enter f vs.toArray) w:=by
  have rG:¬fn.name= "runtime.NumGoroutine" :=by simpa using hn
  simp[callFunc,run_program,hf,rG,hb]
 rw[bJ];simp only;refine calls_of_wp hf hb ?_
 have th:ie w (fun _=>False) [] G S (start nt ps) {tmps:=vs.toArray++Array.replicate (fn.ntmps-vs.toArray.size) undef,defers:=[]} w:=by
  have CQ:∀id,aA (start nt ps).mem id=none:=by
   intro id;simp only[start,aA,List.getD_eq_getElem?_getD,List.getElem?_replicate];split<;>rfl
  refine⟨fun _=>none,S,fun _ h=>h,fun _ h=>.inl h,{size:=?_,slot:=?_,held:=?_,defers:=rfl,mem:=?_,qQ:=?_,inj:=?_,own:=?_,bound:=hS,dx:=?_,nR:=hG,kept:=fun _ _ _=>rfl,os:=rfl,tape:=rfl,output:=rfl,eF:=Nat.le_refl _}⟩
  ·simp[start,hlen,RG]
  ·intro i;have:=xr (nt:=nt) (ρ:=Ref (fun _=>none) S w (start nt ps).mem) jV (nt-ps.length) i;rw[RG];simpa[start,St.slot,hlen]using this
  ·simp only[start,aF]
  ·intro id ob bH;rw[CQ id]at bH;cases bH
  ·intro i b hb;cases hb
  ·intro i j b hb;cases hb
  ·intro i b hb;cases hb
  ·intro i b hb;cases hb
 refine A1 hm c hc th (Qa:=Gj cN res) h ?_;intro e st' a' w' gX hq;obtain⟨s2,Ul,hq⟩:=hq;obtain⟨γ,S',bm,bd,pS⟩:=AR Ul gX
 have key:eV cN s2=some res→a'.defers=[]∧∃v,(results fn a'.tmps).run P w'=.ok v w'∧∃v',Ending.returned v=.returned v'∧(RowKit.Below w.heap.size w w'∧aJ (fun b=>S b∨(w.heap.size≤b∧b<w'.heap.size)) w' res v'):=by
  intro hq;obtain⟨v,b,h1,h2⟩:=xq pS hr hq;refine⟨pS.defers,v,h1,v,rfl,⟨pS.os,pS.tape,pS.output,pS.eF,fun k hk=>pS.kept k hk (fun h=>h)⟩,?_⟩;refine aJ.later (fun k hk=>⟨?_,rfl,rfl⟩) _ h2
  rcases hk with hk|⟨_,i,hk⟩
  ·rcases bd k hk with h3|h3|h3
   ·exact .inl h3
   ·exact .inr ⟨h3,pS.bound k hk⟩
   ·exact h3.elim
  ·rcases(pS.own i k hk).2 with h3|h3
   ·exact .inr ⟨h3,pS.dx i k hk⟩
   ·exact h3.elim
 cases e with
 |normal=>exact key hq
 |ret=>exact key hq
 |exit id=>exact hq.elim
end
end Go.Am
end
section
namespace Go.Am
theorem tk:∀{mem:List (Option Obj)},qN mem=true→∀i,aA mem i=none
 |[],_,i=>by simp[aA]
 |none::r,h,i=>by
  cases i with
  |zero=>simp[aA]
  |succ i=>have:=tk (mem:=r) (by simpa only[qN]using h) i;simpa[aA]using this
 |some _::_,h,_=>by simp[qN]at h
theorem qd (n:Nat) (mem:List (Option Obj)) (i:Nat):aA (Cj n mem) i=aA mem i:=by
 unfold Cj;split
 ·rename_i h;unfold aA
  by_cases hi:i<n
  ·simp[List.getD_eq_getElem?_getD,List.getElem?_take,hi]
  ·have:=tk h (i-n);unfold aA at this;simp only[List.getD_eq_getElem?_getD,List.getElem?_drop,show n+(i-n)=i by omega]at this;simp[List.getD_eq_getElem?_getD,List.getElem?_take,hi];rw[this]
 ·rfl
section
variable {S:Nat→Prop} {w:World} {ρ:AV→Value→Prop}
theorem aF.CT:∀{xs:List AV} {vs:List Value},xs.length=vs.length→(∀i,aq S w ρ (xs.getD i .dead) (vs.getD i undef))→aF S w ρ xs vs
 |[],[],_,_=>by simp only[aF]
 |x::xs,v::vs,hl,h=>by
  simp only[aF];exact⟨v,vs,rfl,by simpa using h 0,aF.CT (by simpa using hl) (fun i=>by simpa using h (i+1))⟩
 |[],_::_,hl,_=>by simp at hl
 |_::_,[],hl,_=>by simp at hl
theorem aF.cY:∀{xs:List AV} {vs:List Value},aF S w ρ xs vs→∀i,aq S w ρ (xs.getD i .dead) (vs.getD i undef)
 |[],vs,h,i=>by simp only[aF]at h;subst h;simp only[List.getD_nil,aq]
 |x::xs,vs,h,i=>by
  simp only[aF]at h;obtain⟨v,r,rfl,h1,h2⟩:=h
  cases i with
  |zero=>simpa using h1
  |succ i=>simpa using aF.cY h2 i
theorem aF.YH (n:Nat):aF S w ρ (List.replicate n .dead) (List.replicate n undef):=by
 induction n with
 |zero=>simp only[List.replicate_zero,aF]
 |succ n ih=>simp only[List.replicate_succ,aF];exact⟨_,_,rfl,by simp only[aq],ih⟩
theorem aF.cut {xs:List AV} {us vs:List Value} (h:aF S w ρ xs (us++vs)):aF S w ρ (xs.take us.length) us∧aF S w ρ (xs.drop us.length) vs:=by
 have hl:=aF.length h
 have h':aF S w ρ (xs.take us.length++xs.drop us.length) (us++vs):=by rw[List.take_append_drop];exact h
 obtain⟨u,v,he,h1,h2⟩:=aF.split h';have XG:=aF.length h1;simp only[List.length_append]at hl
 have:u.length=us.length:=by rw[XG,List.length_take];omega
 obtain⟨rfl,rfl⟩:=List.append_inj he this.symm;exact⟨h1,h2⟩
end
def gW (P:Program) (G:Nat→Option (List PV)) (accs:List Nat) (f:FuncId):Option (cT×List RD×Nat):=
 match P.funcs[f]? with
 |none=>none
 |some fn=>match fn.body with
  |none=>none
  |some c=>match fn.name== "runtime.NumGoroutine" with
   |true=>none
   |false=>match dn P G accs c with
    |none=>none
    |some ac=>match ja P fn.results.toList with
     |none=>none
     |some cN=>some (ac,cN,fn.ntmps)
theorem qe {P:Program} {G:Nat→Option (List PV)} {accs:List Nat} {f:FuncId} {ac:cT} {cN:List RD} {nt:Nat} (h:gW P G accs f=some (ac,cN,nt)):
  ∃fn c,P.funcs[f]? =some fn∧fn.body=some c∧(fn.name== "runtime.NumGoroutine")=false∧dn P G accs c=some ac∧ja P fn.results.toList=some cN∧fn.ntmps=nt:=by
 unfold gW at h;split at h
 ·cases h
 ·rename_i fn RA;split at h
  ·cases h
  ·rename_i c hc;split at h
   ·cases h
   ·rename_i hn;split at h
    ·cases h
    ·rename_i ac' hac;split at h
     ·cases h
     ·rename_i rds' hr;simp only[Option.some.injEq,Prod.mk.injEq]at h;obtain⟨rfl,rfl,rfl⟩:=h;exact⟨fn,c,RA,hc,hn,hac,hr,rfl⟩
theorem Gk {P:Program} {G:Nat→Option (List PV)} {accs:List Nat} {f:FuncId} {ac:cT} {cN:List RD} {nt:Nat} (hm:P.follows .mixedOrders=true) (h:gW P G accs f=some (ac,cN,nt)) {ps:List PV} {res:PV} (rj:ps.length≤nt)
  (hw:bA (ar P G) aG (bB P G) [.code ac] (tj cN res) .normal (start nt ps)):ar P G f ps res:=by
 obtain⟨fn,c,h1,h2,h3,h4,h5,h6⟩:=qe h;exact CS hm h1 h2 h3 h4 h5 h6 rj hw
theorem J7 {P:Program} {G:Nat→Option (List PV)} {accs:List Nat} {f:FuncId} {ac:cT} {cN:List RD} {nt:Nat} (hm:P.follows .mixedOrders=true) (h:gW P G accs f=some (ac,cN,nt)) {ps:List PV} {res:PV} (rj:ps.length≤nt)
  (hw:bA (ar P G) aG (bB P G) [.code ac] (Gj cN res) .normal (start nt ps)):ar P G f ps res:=by
 obtain⟨fn,c,h1,h2,h3,h4,h5,h6⟩:=qe h;exact A2 hm h1 h2 h3 h4 h5 h6 rj hw
theorem J8 {P:Program} {G:Nat→Option (List PV)} {accs:List Nat} {f:FuncId} {ac:cT} {cN:List RD} {nt:Nat} (hm:P.follows .mixedOrders=true) (h:gW P G accs f=some (ac,cN,nt)) {args:List AV} {st:St} {K:AV→St→Prop}
  (hw:fw (ar P G) aG (bB P G) ac (enter nt args st) (wG cN st.cY.length st.base K)):bB P G f args st K:=by
 obtain⟨fn,c,hf,hb,hn,hc,hr,RG⟩:=qe h;intro w0 own0 hvs S0 γ S a w vs bm bd th jV;have hlen:=aF.length jV;unfold fM
 have bJ:(callFunc f vs.toArray).run P w=.ok (.enter f vs.toArray) w:=by
  have rG:¬fn.name= "runtime.NumGoroutine" :=by simpa using hn
  simp[callFunc,run_program,hf,rG,hb]
 rw[bJ];simp only;refine calls_of_wp hf hb ?_
 have hmg:∀i,aA (st.mem++List.replicate nt none) i=aA st.mem i:=by
  intro i;unfold aA
  by_cases hi:i<st.mem.length
  ·simp[List.getD_eq_getElem?_getD,List.getElem?_append_left hi]
  ·simp[List.getD_eq_getElem?_getD,List.getElem?_append_right (Nat.le_of_not_lt hi),List.getElem?_eq_none (Nat.le_of_not_lt hi),List.getElem?_replicate];split<;>rfl
 have hρ:∀x v,Ref γ S w st.mem x v→Ref γ S w (st.mem++List.replicate nt none) x v:=
  Ref.later (cA.refl S w) (fun id ob hm=>⟨by rw[hmg];exact hm,rfl,fun _ _=>⟨rfl,rfl⟩⟩)
 have xm:aF S w (Ref γ S w st.mem) st.cY a.tmps.toList:=aF.CT (by simpa using th.size) (fun i=>by
  have:=th.slot i
  simpa only[St.slot,Array.getD_eq_getD_getElem?,List.getD_eq_getElem?_getD,Array.getElem?_toList]using this)
 have hE:ie w0 own0 (a.tmps.toList++hvs) G S0 (enter nt args st) {tmps:=vs.toArray++Array.replicate (fn.ntmps-vs.toArray.size) undef,defers:=[]} w:=by
  refine⟨γ,S,bm,bd,{th with size:=?_,slot:=?_,held:=?_,defers:=rfl,mem:=?_,qQ:=?_}⟩
  ·simp[enter,hlen,RG]
  ·intro i;have h1:aF S w (Ref γ S w (enter nt args st).mem) (args++List.replicate (nt-args.length) .dead) (vs++List.replicate (nt-args.length) undef):=aF.append (aF.later (cA.refl S w) hρ _ jV) (aF.YH _);have:=aF.cY h1 i;simpa[enter,St.slot,hlen,RG,List.getD_eq_getElem?_getD,Array.getD_eq_getD_getElem?,←Array.getElem?_toList]using this
  ·exact aF.later (cA.refl S w) hρ _ (aF.append xm th.held)
  ·intro id ob hm;simp only[enter]at hm;rw[hmg]at hm;exact fU.later (cA.refl S w) hρ rfl (fun _ _=>rfl) (th.mem id ob hm)
  ·intro i b hb;simp only[enter];rw[hmg];exact th.qQ i b hb
 refine A1 hm c hc hE hw ?_;intro e st' a' w' gX hq;obtain⟨γ',S',hs0',Nl,pS⟩:=gX
 have key:(match mU cN st' with|some v=>K v (leave st.cY.length st.base st')|none=>False)→a'.defers=[]∧∃v,(results fn a'.tmps).run P w'=.ok v w'∧∃v',Ending.returned v=.returned v'∧
   ∃r UX γ' S',K r UX∧(∀b,S0 b→S' b)∧(∀b,S' b→S0 b∨w0.heap.size≤b∨own0 b)∧dj w0 own0 hvs G γ' S' UX a w'∧aq S' w' (Ref γ' S' w' UX.mem) r v':=by
  intro hq;split at hq
  ·rename_i v hv;obtain⟨u,h1,h2⟩:=xp pS hr hv
   have hρ':∀x v,Ref γ' S' w' st'.mem x v→Ref γ' S' w' (Cj st'.base st'.mem) x v:=
    Ref.later (cA.refl S' w') (fun id ob hm=>⟨by rw[qd];exact hm,rfl,fun _ _=>⟨rfl,rfl⟩⟩)
   have YI:=aF.later (cA.refl S' w') hρ' _ pS.held;obtain⟨c1,c2⟩:=aF.cut YI
   have YJ:a.tmps.toList.length=st.cY.length:=by simpa using th.size.symm
   rw[YJ]at c1 c2;have XG:=aF.length c1;refine⟨pS.defers,u,h1,u,rfl,v,_,γ',S',hq,hs0',Nl,{pS with size:=?_,slot:=?_,held:=c2,defers:=th.defers,mem:=?_,qQ:=?_},aq.later (cA.refl S' w') hρ' _ h2⟩
   ·simp only[leave];simpa using XG.symm
   ·intro i;have:=aF.cY c1 i;simpa only[leave,St.slot,Array.getD_eq_getD_getElem?,List.getD_eq_getElem?_getD,Array.getElem?_toList]using this
   ·intro id ob hm;simp only[leave]at hm;rw[qd]at hm;exact fU.later (cA.refl S' w') hρ' rfl (fun _ _=>rfl) (pS.mem id ob hm)
   ·intro i b hb;simp only[leave];rw[qd];exact pS.qQ i b hb
  ·exact hq.elim
 cases e with
 |normal=>exact key hq
 |ret=>exact key hq
 |exit id=>exact hq.elim
theorem eJ {P:Program} {G:Nat→Option (List PV)} (hm:P.follows .mixedOrders=true) {T:yC} (hT:∀f ac cN nt,T f=some (ac,cN,nt)→∃accs,gW P G accs f=some (ac,cN,nt)):pR (ar P G) aG (bB P G) T:=by
 intro f ac cN nt ht args st K hw;obtain⟨accs,h⟩:=hT f ac cN nt ht;exact J8 hm h hw
def xu:yC:=fun _=>none
theorem YK {P:Program} {G:Nat→Option (List PV)}:pR (ar P G) aG (bB P G) xu:=by
 intro f ac cN nt ht;cases ht
end Go.Am
end
section
namespace Go.Am
theorem zR {C:FuncId→List PV→PV→Prop} {A:Ar} {I:IC}:pR C A I xu:=by
 intro f ac cN nt ht;cases ht
theorem YL {C:FuncId→List PV→PV→Prop} {A:Ar} {I:IC} {Q:Ex→St→Prop} {x r:bl} (h:x=r) (hr:r.holds C A I Q):x.holds C A I Q:=h▸hr
theorem go {P:Program} {G:Nat→Option (List PV)} {A:Ar} {Q:Ex→St→Prop} {is:List Item} {st:St} (n:Nat) {r:bl} (h:run A xu false n is st=r) (hr:r.holds (ar P G) A (bB P G) Q):
  bA (ar P G) A (bB P G) is Q .normal st:=qP (bB.mono P G) zR n r h hr
theorem go1 {P:Program} {G:Nat→Option (List PV)} {A:Ar} {Q:Ex→St→Prop} {b:cT} {st:St} (n:Nat) {r:bl} (h:run A xu false n [.code b] st=r) (hr:r.holds (ar P G) A (bB P G) Q):
  fw (ar P G) A (bB P G) b st Q:=qP (bB.mono P G) zR (is:=[.code b]) n r h hr
theorem rH (P:Program) (G:Nat→Option (List PV)):HU (bB P G):=bB.mono P G
theorem RH {P:Program} {G:Nat→Option (List PV)} {A:Ar} {Q:Ex→St→Prop} {b:cT} {st0:St} {α:Type} (dw:α→St→St) (J:α→Prop) (μ:α→Nat) (a0:α) (hf:Fg st0 (dw a0 st0)) (hj:J a0)
  (h:∀a,J a→fw (ar P G) A (bB P G) b (dw a st0) (fun e s'=>match e with|.normal=>∃a',J a'∧μ a'<μ a∧Fg s' (dw a' st0)|e=>Q e s')):
  fw (ar P G) A (bB P G) (.loop b) st0 Q:=by
 refine Jo (rH P G) (fun n s=>∃a,J a∧n=μ a∧s=dw a st0) ⟨_,_,hf,a0,hj,rfl,rfl⟩ ?_;rintro n s ⟨a,ha,rfl,rfl⟩;refine e9 (rH P G) b ?_ (h a ha);intro e s' gX
 cases e with
 |normal=>
  obtain⟨a',h1,h2,h3⟩:=gX;exact⟨_,_,h2,h3,a',h1,rfl,rfl⟩
 |ret=>exact gX
 |exit id=>exact gX
theorem YM {P:Program} {G:Nat→Option (List PV)} {A:Ar} {Q:Ex→St→Prop} {b:cT} {st0:St} (dw:Nat→St→St) (n:Nat) (ok:Nat→Prop) (hf:Fg st0 (dw 0 st0))
  (h:∀v:Nat,v≤n→(∀k,k<v→ok k)→fw (ar P G) A (bB P G) b (dw v st0) (fun e s'=>match e with|.normal=>v<n∧ok v∧Fg s' (dw (v+1) st0)|e=>Q e s')):
  fw (ar P G) A (bB P G) (.loop b) st0 Q:=by
 refine RH (α:=Nat) dw (fun v=>v≤n∧∀k,k<v→ok k) (fun v=>n-v) 0 hf ⟨Nat.zero_le _,fun k hk=>absurd hk (Nat.not_lt_zero _)⟩ ?_;rintro v ⟨hv,hk⟩;refine e9 (rH P G) b ?_ (h v hv hk);intro e s' gX
 cases e with
 |normal=>
  obtain⟨h1,h2,h3⟩:=gX;refine⟨v+1,⟨by omega,fun k eZ=>?_⟩,by omega,h3⟩
  by_cases e:k=v
  ·subst e;exact h2
  ·exact hk k (by omega)
 |ret=>exact gX
 |exit id=>exact gX
def cO (C:FuncId→List PV→PV→Prop) (A:Ar) (I:IC) (is:List Item) (Q:Ex→St→Prop) (N:St→Prop):Ex→St→Prop
 |.normal,s=>N s
 |.ret,s=>match kW is with
  |some ((cN,n,base,d),r)=>wG cN n base (fun v s'=>bA C A I r Q .normal (s'.put d v)) .ret s
  |none=>Q .ret s
 |.exit id,s=>match exitTo id is with
  |some r=>bA C A I r Q .normal s
  |none=>rz id is=true∧Q (.exit id) s
theorem cO.norm {C:FuncId→List PV→PV→Prop} {A:Ar} {I:IC} {is:List Item} {Q:Ex→St→Prop} {N:St→Prop} {s:St} (h:N s):cO C A I is Q N .normal s:=h
theorem cO.ml {C:FuncId→List PV→PV→Prop} {A:Ar} {I:IC} {is:List Item} {Q:Ex→St→Prop} {N:St→Prop} {s:St} (hr:kW is=none) (h:Q .ret s):cO C A I is Q N .ret s:=by
 simp only[cO,hr];exact h
theorem cO.YN {C:FuncId→List PV→PV→Prop} {A:Ar} {I:IC} {is r:List Item} {Q:Ex→St→Prop} {N:St→Prop} {s:St} {id:Nat} (hr:exitTo id is=some r) (h:bA C A I r Q .normal s):cO C A I is Q N (.exit id) s:=by
 simp only[cO,hr];exact h
theorem ai {C:FuncId→List PV→PV→Prop} {A:Ar} {I:IC} {is:List Item} {Q:Ex→St→Prop} {N:St→Prop} {s:St} (h:N s):(bl.fin .normal s).holds C A I (cO C A I is Q N):=h
theorem dS {C:FuncId→List PV→PV→Prop} {A:Ar} {I:IC} {is:List Item} {Q:Ex→St→Prop} {N:St→Prop} {s:St} (hr:kW is=none) (h:Q .ret s):(bl.fin .ret s).holds C A I (cO C A I is Q N):=cO.ml (N:=N) hr h
theorem au {C:FuncId→List PV→PV→Prop} {A:Ar} {I:IC} {is r:List Item} {Q:Ex→St→Prop} {N:St→Prop} {s:St} {id:Nat} (hr:exitTo id is=some r) (h:bA C A I r Q .normal s):(bl.fin (.exit id) s).holds C A I (cO C A I is Q N):=cO.YN (N:=N) hr h
theorem aQ {α:Type} {enc:α→List PV} {l:List α} {v:Nat} (h:v<l.length):aG.rat (l.map enc) (Int.ofNat v)=enc l[v]:=by
 simp[aG,h]
theorem aR {α:Type} {enc:α→List PV} {l:List α} {v:Nat} (h:v<l.length) {sz:Nat} (hs:(enc l[v]).length=sz):aG.wx (Int.ofNat v) (l.map enc) sz:=by
 have:=aQ (enc:=enc) h;simp only[aG]at this ⊢;refine⟨by simp,by simpa using h,by rw[this];exact hs⟩
theorem qf {P:Program} {G:Nat→Option (List PV)} {A:Ar} {Q:Ex→St→Prop} {b:cT} {st0:St} {is:List Item} (dw:Nat→St→St) (n:Nat) (ok:Nat→Prop) (hf:Fg st0 (dw 0 st0))
  (h:∀v:Nat,v≤n→(∀k,k<v→ok k)→fw (ar P G) A (bB P G) b (dw v st0) (cO (ar P G) A (bB P G) is Q (fun s'=>v<n∧ok v∧Fg s' (dw (v+1) st0)))):
  (bl.loop b st0 is).holds (ar P G) A (bB P G) Q:=by
 refine YM dw n ok hf ?_;intro v hv hk;refine e9 (rH P G) b ?_ (h v hv hk);intro e s' gX
 cases e with
 |normal=>exact gX
 |ret=>show bA _ _ _ is Q .ret s';rw[jS];simp only[cO]at gX;exact gX
 |exit id=>
  simp only[cO]at gX;split at gX
  ·rename_i r hr;exact iD id is Q s' r hr gX
  ·exact kX id is Q s' gX.1 gX.2
theorem bl.af {C:FuncId→List PV→PV→Prop} {A:Ar} {I:IC} {Q:Ex→St→Prop} {c:Bool} {a b:bl} (ht:c=true→a.holds C A I Q) (hf:c=false→b.holds C A I Q):(match c with|true=>a|false=>b).holds C A I Q:=by
 cases c
 ·exact hf rfl
 ·exact ht rfl
@[simp] theorem oK {a b:Int}:aG.lt a b=decide (a<b):=rfl
@[simp] theorem J9 {a b:Int}:aG.le a b=decide (a≤b):=rfl
@[simp] theorem std_eq {a b:Int}:aG.eq a b=decide (a=b):=rfl
@[simp] theorem il {r:List (List PV)}:aG.nk r=r.length:=rfl
@[simp] theorem CU {r:List UInt8}:aG.yH r=r.length:=rfl
theorem Fg.keepTo {s s':St} (ks:List Nat) (h:s.ui ks=s'):Fg s s':=h▸Fg.ui s ks
theorem an {P:Program} {G:Nat→Option (List PV)} {A:Ar} {Q:Ex→St→Prop} {f:FuncId} {args:List AV} {d:Option Nat} {st:St} {is:List Item} {ps:List PV} {b:Bool} {res:PV} (h:et st.mem args=some (ps,b)) (hc:ar P G f ps res) (hb:b=true→res.jB=true)
  (hk:bA (ar P G) A (bB P G) is Q .normal (st.put d (.pv res))):(bl.call f args d st is).holds (ar P G) A (bB P G) Q:=.inl ⟨ps,b,res,h,hc,hb,hk⟩
theorem ao {P:Program} {G:Nat→Option (List PV)} {A:Ar} {Q:Ex→St→Prop} {f:FuncId} {args:List AV} {d:Option Nat} {st:St} {is:List Item} {ps:List PV} {b:Bool} {res:PV} (h:et st.mem args=some (ps,b)) (hc:ar P G f ps res) (hb:b=true→res.jB=true)
  (hk:bA (ar P G) A (bB P G) is Q .normal (st.put d (.pv res))):(bl.u5 f args d st is).holds (ar P G) A (bB P G) Q:=⟨ps,b,res,h,hc,hb,hk⟩
theorem ae {C:FuncId→List PV→PV→Prop} {A:Ar} {I:IC} {Q:Ex→St→Prop} {p:Prop} {st:St} {is:List Item} (hp:p) (h:bA C A I is Q .normal st):(bl.pre p st is).holds C A I Q:=⟨hp,h⟩
def ints (ps:List Int):List (List PV):=ps.map fun p=>[.int .i64 p]
theorem jb {ps:List Int} {j:Int} (h0:0≤j) (h1:j<ps.length):aG.rat (ints ps) j=[.int .i64 (ps.getD j.toNat 0)]:=by
 have:j.toNat<ps.length:=by omega
 simp[aG,ints,List.getD_eq_getElem?_getD,this]
theorem XH {ps:List Int}:aG.nk (ints ps)=ps.length:=by simp[aG,ints]
theorem jW {ps:List Int} {j:Int} (h0:0≤j) (h1:j<ps.length):aG.wx j (ints ps) 1:=by
 have:=jb h0 h1;simp only[aG]at this ⊢;refine⟨h0,by simpa[ints]using h1,by rw[this];rfl⟩
theorem wrap64 {n:Int} (h0: -9223372036854775808≤n) (h1:n<9223372036854775808):aG.wrap .i64 n=n:=by
 have e1:(2:Int)^IntKind.i64.bits=18446744073709551616:=by decide
 have e2:(2:Int)^(IntKind.i64.bits-1)=9223372036854775808:=by decide
 simp only[aG];unfold IntKind.wrap;simp only[e1,e2];have hs:IntKind.i64.signed=true:=rfl
 by_cases hn:0≤n
 ·rw[Int.emod_eq_of_lt hn (by omega),if_neg (by simp[hs];omega)]
 ·have:n%18446744073709551616=n+18446744073709551616:=by omega
  rw[this,if_pos (by simp[hs];omega)];omega
theorem fZ {v:Nat} (h:v<2^62):aG.wrap .i64 (aG.add (Int.ofNat v) 1)=Int.ofNat (v+1):=by
 rw[wrap64]<;>simp[aG]<;>omega
def St.tidy (s:St) (ks:List Nat) (src:List (Option Nat)):St:=(s.norm.nq src).ui ks
theorem Fg.b8 {s s':St} (ks:List Nat) (src:List (Option Nat)) (hn:lx src=true) (h:s.tidy ks src=s'):Fg s s':=h▸Fg.trans (Fg.norm s) (Fg.trans (Fg.nq _ src hn) (Fg.ui _ ks))
theorem run_eq {C:FuncId→List PV→PV→Prop} {A:Ar} {I:IC} {Q:Ex→St→Prop} {B:Ar} {T:yC} {U:Bool} {n:Nat} {is:List Item} {st:St} {r:bl} (h:run B T U n is st=r) (hr:r.holds C A I Q):(run B T U n is st).holds C A I Q:=h▸hr
@[simp] theorem jk {a b:Int}:aG.add a b=a+b:=rfl
@[simp] theorem kP {a b:Int}:aG.sub a b=a-b:=rfl
@[simp] theorem Gl {a b:Int}:aG.mul a b=a*b:=rfl
@[simp] theorem Nn {a b:Int}:aG.quo a b=a.tdiv b:=rfl
@[simp] theorem A3 {a b:Int}:aG.rem a b=a.tmod b:=rfl
@[simp] theorem ct {k:IntKind} {a:Int}:aG.wrap k a=k.wrap a:=rfl
@[simp] theorem std_not {a:Bool}:aG.not a= !a:=rfl
@[simp] theorem std_nz {a:Int}:aG.nz a=(a≠0):=rfl
@[simp] theorem YO {a:Int}:aG.D9 a=(0≤a):=rfl
@[simp] theorem XI {a:Nat}:aG.ofNat a=a:=rfl
@[simp] theorem fg {a b:List UInt8}:aG.Mu a b=a++b:=rfl
@[simp] theorem db {a b:List UInt8}:aG.Mv a b=(a.length+b.length≤9223372036854775807):=rfl
@[simp] theorem std_seq {a b:List UInt8}:aG.seq a b=decide (a=b):=rfl
@[simp] theorem bK {a b:List (List PV)}:aG.re a b=a++b:=rfl
@[simp] theorem cU {a b:List (List PV)} {n sz:Nat}:aG.po a b n sz=((a.length+b.length+256)*n≤2^46∧a.length+b.length≤2^46∧cr sz b∧aS sz a):=rfl
@[simp] theorem lN {a b:List (List PV)}:aG.Rk a b=(a=[]∨b≠[]):=rfl
@[simp] theorem std_mkp {l c:Int} {b:Nat}:aG.Xt l c b=(0≤l∧l≤c∧c*b≤2^47∧c≤2^47):=rfl
@[simp] theorem YP {n:Int} {z:List PV}:aG.Ce n z=List.replicate n.toNat z:=rfl
@[simp] theorem k8 {r:List (List PV)} {l h:Int}:aG.wy r l h=(r.drop l.toNat).take (h.toNat-l.toNat):=rfl
@[simp] theorem std_rbd {l h:Int} {r s:List (List PV)} {sz:Nat}:aG.XY l h r s sz=(0≤l∧l≤h∧h≤r.length+s.length∧(l=0∨aS sz (r++s))):=rfl
@[simp] theorem YQ {l h:Int} {r:List (List PV)} {sz:Nat}:aG.yI l h r sz=(0≤l∧l≤h∧h≤r.length∧(l=0∨aS sz r)):=rfl
theorem dh {n:Int} (h0: -9223372036854775808≤n) (h1:n<9223372036854775808):IntKind.i64.wrap n=n:=wrap64 h0 h1
@[simp] theorem one_int {k:IntKind} {n:Int}:(AV.pv (.int k n)).one=true:=rfl
@[simp] theorem YR {b:Bool}:(AV.pv (.bool b)).one=true:=rfl
@[simp] theorem one_str {b:List UInt8}:(AV.pv (.str b)).one=true:=rfl
@[simp] theorem one_sl {r s:List (List PV)}:(AV.pv (.sl r s)).one=true:=rfl
@[simp] theorem UY {n:Nat}:aS n []:=by simp[aS]
@[simp] theorem dI {n:Nat} {r:List PV} {rs:List (List PV)}:aS n (r::rs)↔r.length=n∧aS n rs:=by simp[aS]
@[simp] theorem Mf {n:Nat} {a b:List (List PV)}:aS n (a++b)↔aS n a∧aS n b:=by
 simp only[aS,List.mem_append];exact⟨fun h=>⟨fun r hr=>h r (.inl hr),fun r hr=>h r (.inr hr)⟩,fun h r hr=>hr.elim (h.1 r) (h.2 r)⟩
@[simp] theorem UZ {n:Nat}:cr n []:=by simp[cr]
@[simp] theorem RI {n:Nat} {r:List PV} {rs:List (List PV)}:cr n (r::rs)↔(r.length=n∧∀p∈r,(AV.pv p).one=true)∧cr n rs:=by simp[cr]
theorem bj {α:Type} {enc:α→List PV} {n:Nat} (h:∀x,(enc x).length=n) (l:List α):aS n (l.map enc):=by
 intro r hr;obtain⟨x,_,rfl⟩:=List.mem_map.1 hr;exact h x
theorem fh {α:Type} {enc:α→List PV} {n:Nat} (h:∀x,(enc x).length=n∧∀p∈enc x,(AV.pv p).one=true) (l:List α):cr n (l.map enc):=by
 intro r hr;obtain⟨x,_,rfl⟩:=List.mem_map.1 hr;exact h x
@[simp] theorem RJ {l:List Int}:aS 1 (ints l):=bj (enc:=fun p=>[.int .i64 p]) (fun _=>rfl) l
@[simp] theorem RL {l:List Int}:cr 1 (ints l):=fh (enc:=fun p=>[.int .i64 p]) (fun _=>⟨rfl,by simp⟩) l
@[simp] theorem RN {l:List Int}:(ints l).length=l.length:=by simp[ints]
@[simp] theorem YS:ints []=[]:=rfl
@[simp] theorem RO {a b:List Int}:ints (a++b)=ints a++ints b:=by simp[ints]
theorem xv {P:Program} {G:Nat→Option (List PV)} {A:Ar} {Q:Ex→St→Prop} {f:FuncId} {args:List AV} {d:Option Nat} {st:St} {is:List Item} {ps:List PV} {b:Bool} {k:IntKind} {x0:Int} (h:et st.mem args=some (ps,b)) (hc:ar P G f ps (.int k x0)) (hb:b=true→(.int k x0:PV).jB=true)
  (hk:∀(x:Int),x0=x→bA (ar P G) A (bB P G) is Q .normal (st.put d (.pv (.int k x)))):(bl.call f args d st is).holds (ar P G) A (bB P G) Q:=an h hc hb (hk x0 rfl)
theorem zS {P:Program} {G:Nat→Option (List PV)} {A:Ar} {Q:Ex→St→Prop} {f:FuncId} {args:List AV} {d:Option Nat} {st:St} {is:List Item} {ps:List PV} {b:Bool} {k:IntKind} {x0:Int} (h:et st.mem args=some (ps,b)) (hc:ar P G f ps (.int k x0)) (hb:b=true→(.int k x0:PV).jB=true)
  (hk:∀(x:Int),x0=x→bA (ar P G) A (bB P G) is Q .normal (st.put d (.pv (.int k x)))):(bl.u5 f args d st is).holds (ar P G) A (bB P G) Q:=ao h hc hb (hk x0 rfl)
theorem XJ {P:Program} {G:Nat→Option (List PV)} {A:Ar} {Q:Ex→St→Prop} {f:FuncId} {args:List AV} {d:Option Nat} {st:St} {is:List Item} {ps:List PV} {b:Bool} {x0:Bool} (h:et st.mem args=some (ps,b)) (hc:ar P G f ps (.bool x0)) (hb:b=true→(.bool x0:PV).jB=true)
  (hk:∀x:Bool,x0=x→bA (ar P G) A (bB P G) is Q .normal (st.put d (.pv (.bool x)))):(bl.call f args d st is).holds (ar P G) A (bB P G) Q:=an h hc hb (hk x0 rfl)
theorem U0 {P:Program} {G:Nat→Option (List PV)} {A:Ar} {Q:Ex→St→Prop} {f:FuncId} {args:List AV} {d:Option Nat} {st:St} {is:List Item} {ps:List PV} {b:Bool} {x0:Bool} (h:et st.mem args=some (ps,b)) (hc:ar P G f ps (.bool x0)) (hb:b=true→(.bool x0:PV).jB=true)
  (hk:∀x:Bool,x0=x→bA (ar P G) A (bB P G) is Q .normal (st.put d (.pv (.bool x)))):(bl.u5 f args d st is).holds (ar P G) A (bB P G) Q:=ao h hc hb (hk x0 rfl)
theorem YT {P:Program} {G:Nat→Option (List PV)} {A:Ar} {Q:Ex→St→Prop} {f:FuncId} {args:List AV} {d:Option Nat} {st:St} {is:List Item} {ps:List PV} {b:Bool} {x0:List UInt8} (h:et st.mem args=some (ps,b)) (hc:ar P G f ps (.str x0)) (hb:b=true→(.str x0:PV).jB=true)
  (hk:∀x:List UInt8,x0=x→bA (ar P G) A (bB P G) is Q .normal (st.put d (.pv (.str x)))):(bl.call f args d st is).holds (ar P G) A (bB P G) Q:=an h hc hb (hk x0 rfl)
theorem XK {P:Program} {G:Nat→Option (List PV)} {A:Ar} {Q:Ex→St→Prop} {f:FuncId} {args:List AV} {d:Option Nat} {st:St} {is:List Item} {ps:List PV} {b:Bool} {x0:List UInt8} (h:et st.mem args=some (ps,b)) (hc:ar P G f ps (.str x0)) (hb:b=true→(.str x0:PV).jB=true)
  (hk:∀x:List UInt8,x0=x→bA (ar P G) A (bB P G) is Q .normal (st.put d (.pv (.str x)))):(bl.u5 f args d st is).holds (ar P G) A (bB P G) Q:=ao h hc hb (hk x0 rfl)
theorem call_sl {P:Program} {G:Nat→Option (List PV)} {A:Ar} {Q:Ex→St→Prop} {f:FuncId} {args:List AV} {d:Option Nat} {st:St} {is:List Item} {ps:List PV} {b:Bool} {x0 y0:List (List PV)} (h:et st.mem args=some (ps,b)) (hc:ar P G f ps (.sl x0 y0)) (hb:b=true→(.sl x0 y0:PV).jB=true)
  (hk:∀x y:List (List PV),x0=x→y0=y→bA (ar P G) A (bB P G) is Q .normal (st.put d (.pv (.sl x y)))):(bl.call f args d st is).holds (ar P G) A (bB P G) Q:=an h hc hb (hk x0 y0 rfl rfl)
theorem YU {P:Program} {G:Nat→Option (List PV)} {A:Ar} {Q:Ex→St→Prop} {f:FuncId} {args:List AV} {d:Option Nat} {st:St} {is:List Item} {ps:List PV} {b:Bool} {x0 y0:List (List PV)} (h:et st.mem args=some (ps,b)) (hc:ar P G f ps (.sl x0 y0)) (hb:b=true→(.sl x0 y0:PV).jB=true)
  (hk:∀x y:List (List PV),x0=x→y0=y→bA (ar P G) A (bB P G) is Q .normal (st.put d (.pv (.sl x y)))):(bl.u5 f args d st is).holds (ar P G) A (bB P G) Q:=ao h hc hb (hk x0 y0 rfl rfl)
end Go.Am
namespace Go.Am
@[simp] theorem std_peq {a b:List PV}:aG.XX a b=bw a b:=rfl
@[simp] theorem YV {sh:List Nat} {a b:List PV}:aG.Jh sh a b=aX sh a b:=rfl
@[simp] theorem std_rat {r:List (List PV)} {n:Int}:aG.rat r n=r.getD n.toNat []:=rfl
@[simp] theorem std_slt {a b:List UInt8}:aG.slt a b=Op.bytesLess a b:=rfl
@[simp] theorem std_min {a b:Int}:aG.min a b=if b<a then b else a:=rfl
@[simp] theorem std_max {a b:Int}:aG.max a b=if b>a then b else a:=rfl
@[simp] theorem std_sat {s:List UInt8} {j:Int}:aG.sat s j=((s.getD j.toNat 0).toNat:Nat):=rfl
@[simp] theorem std_sin {s:List UInt8} {j:Int}:aG.sin j s=(0≤j∧j<s.length):=rfl
@[simp] theorem xw {s:List UInt8} {l h:Int}:aG.Mw s l h=(s.drop l.toNat).take (h.toNat-l.toNat):=rfl
@[simp] theorem std_sbd {s:List UInt8} {l h:Int}:aG.sbd l h s=(0≤l∧l≤h∧h≤s.length):=rfl
theorem k9 {a b:List (List PV)} {v:Nat} (h:v<a.length) {sz:Nat} (hs:aG.wx (Int.ofNat v) a sz):aG.wx (Int.ofNat v) (a++b) sz:=by
 simp only[aG]at hs ⊢;obtain⟨h1,h2,h3⟩:=hs;refine⟨h1,by simp;omega,?_⟩;rw[←h3];simp[List.getElem?_append_left h]
theorem lb {a b:List (List PV)} {v:Nat} (h:v<a.length):aG.rat (a++b) (Int.ofNat v)=aG.rat a (Int.ofNat v):=by
 simp[aG,List.getElem?_append_left h]
theorem jF {a b:List (List PV)} {v:Nat} (h:a.length≤v):aG.rat (a++b) (Int.ofNat v)=aG.rat b (Int.ofNat (v-a.length)):=by
 simp[aG,List.getElem?_append_right h]
theorem jG {a b:List (List PV)} {v:Nat} (h:a.length≤v) {sz:Nat} (hs:aG.wx (Int.ofNat (v-a.length)) b sz):aG.wx (Int.ofNat v) (a++b) sz:=by
 simp only[aG]at hs ⊢;obtain⟨h1,h2,h3⟩:=hs;refine⟨by simp,by simp at h2 ⊢;omega,?_⟩;rw[←h3];simp[List.getElem?_append_right h]
theorem bX {P:Program} {G:Nat→Option (List PV)} {A:Ar} {Q:Ex→St→Prop} {f:FuncId} {args:List AV} {d:Option Nat} {st:St} {is:List Item} {ps:List PV} {b:Bool} {x0:Bool} (h:et st.mem args=some (ps,b)) (hc:ar P G f ps (.bool x0))
  (ht:x0=true→bA (ar P G) A (bB P G) is Q .normal (st.put d (.pv (.bool true)))) (hf:x0=false→bA (ar P G) A (bB P G) is Q .normal (st.put d (.pv (.bool false)))):(bl.call f args d st is).holds (ar P G) A (bB P G) Q:=an h hc (fun _=>rfl) (by cases x0;exact hf rfl;exact ht rfl)
theorem im {P:Program} {G:Nat→Option (List PV)} {A:Ar} {Q:Ex→St→Prop} {f:FuncId} {args:List AV} {d:Option Nat} {st:St} {is:List Item} {ps:List PV} {b:Bool} {x0:Bool} (h:et st.mem args=some (ps,b)) (hc:ar P G f ps (.bool x0))
  (ht:x0=true→bA (ar P G) A (bB P G) is Q .normal (st.put d (.pv (.bool true)))) (hf:x0=false→bA (ar P G) A (bB P G) is Q .normal (st.put d (.pv (.bool false)))):(bl.u5 f args d st is).holds (ar P G) A (bB P G) Q:=ao h hc (fun _=>rfl) (by cases x0;exact hf rfl;exact ht rfl)
theorem U1 {C:FuncId→List PV→PV→Prop} {A:Ar} {I:IC} {cN:List RD} {res:PV} {s:St} (h:eV cN s=some res):(bl.fin .ret s).holds C A I (tj cN res):=h
end Go.Am
end
section
namespace Go.Am
theorem goT {P:Program} {G:Nat→Option (List PV)} {A:Ar} {T:yC} {U:Bool} {Q:Ex→St→Prop} {is:List Item} {st:St} (hT:pR (ar P G) A (bB P G) T) (n:Nat) {r:bl} (h:run A T U n is st=r) (hr:r.holds (ar P G) A (bB P G) Q):
  bA (ar P G) A (bB P G) is Q .normal st:=qP (bB.mono P G) hT n r h hr
theorem Ka {P:Program} {G:Nat→Option (List PV)} {A:Ar} {T:yC} {U:Bool} {Q:Ex→St→Prop} {b:cT} {st:St} (hT:pR (ar P G) A (bB P G) T) (n:Nat) {r:bl} (h:run A T U n [.code b] st=r) (hr:r.holds (ar P G) A (bB P G) Q):
  fw (ar P G) A (bB P G) b st Q:=qP (bB.mono P G) hT (is:=[.code b]) n r h hr
end Go.Am
end
section
namespace Go.Am
def St.Kb (s:St) (d id sz:Nat):St:=(s.aC id (.rows sz [] 0)).put (some d) (.dB id 0)
theorem Fg.wc {s s':St} (ks:List Nat) (src:List (Option Nat)) (d id sz:Nat) (hn:lx src=true) (h1:(s.tidy ks src).slot d=.full []) (h2:aA (s.tidy ks src).mem id=none) (h3:id≤(s.tidy ks src).mem.length) (h:(s.tidy ks src).Kb d id sz=s'):Fg s s':=
 h▸Fg.trans (Fg.b8 ks src hn rfl) (Fg.own h1 h2 h3)
end Go.Am
namespace Go.Am
theorem gL {P:Program} {G:Nat→Option (List PV)} {A:Ar} {Q:Ex→St→Prop} {b:cT} {st:St} {is:List Item} (h:fw (ar P G) A (bB P G) b st (cO (ar P G) A (bB P G) is Q (fun s'=>(bl.loop b s' is).holds (ar P G) A (bB P G) Q))):
  (bl.loop b st is).holds (ar P G) A (bB P G) Q:=by
 refine lZ (rH P G) (.refl _) (e9 (rH P G) b ?_ h);intro e s' gX
 cases e with
 |normal=>exact gX
 |ret=>show bA _ _ _ is Q .ret s';rw[jS];simp only[cO]at gX;exact gX
 |exit id=>
  simp only[cO]at gX;show bA _ _ _ is Q (.exit id) s';split at gX
  ·rename_i r hr;exact iD id is Q s' r hr gX
  ·exact kX id is Q s' gX.1 gX.2
end Go.Am
namespace Go.Am
theorem Kc {P:Program} {G:Nat→Option (List PV)} {A:Ar} {Q:Ex→St→Prop} {b:cT} {st0:St} {is:List Item} {α:Type} (dw:α→St→St) (J:α→Prop) (μ:α→Nat) (a0:α) (hf:Fg st0 (dw a0 st0)) (hj:J a0)
  (h:∀a,J a→fw (ar P G) A (bB P G) b (dw a st0) (cO (ar P G) A (bB P G) is Q (fun s'=>∃a',J a'∧μ a'<μ a∧Fg s' (dw a' st0)))):
  (bl.loop b st0 is).holds (ar P G) A (bB P G) Q:=by
 refine RH dw J μ a0 hf hj ?_;intro a ha;refine e9 (rH P G) b ?_ (h a ha);intro e s' gX
 cases e with
 |normal=>exact gX
 |ret=>show bA _ _ _ is Q .ret s';rw[jS];simp only[cO]at gX;exact gX
 |exit id=>
  simp only[cO]at gX;split at gX
  ·rename_i r hr;exact iD id is Q s' r hr gX
  ·exact kX id is Q s' gX.1 gX.2
end Go.Am
namespace Go.Am
theorem oL (φ:AV→AV):∀(m:List (Option Obj)) (i:Nat),aA (mapM φ m) i=(aA m i).map (nM φ)
 |[],i=>by simp[mapM,aA]
 |none::r,0=>by simp[mapM,aA]
 |some o::r,0=>by simp[mapM,aA]
 |none::r,i+1=>by have:=oL φ r i;simpa[mapM,aA]using this
 |some o::r,i+1=>by have:=oL φ r i;simpa[mapM,aA]using this
theorem Ia (φ:AV→AV) (W:List (List PV)):(W.map (·.map AV.pv)).map (·.map (lX φ))=W.map (·.map AV.pv):=by
 rw[List.map_map]
 congr 1
 funext r
 simp[Function.comp_def,lX,jR]
theorem Fg.Kd {s:St} {id oid sz osz ver over:Nat} {rs Wd:List (List PV)} (dW:oid≠id) (h1:aA s.mem id=some (.rows sz rs ver)) (h2:aA s.mem oid=some (.cf osz (Wd.map (·.map AV.pv)++[[AV.dB id ver]]) over)):
  Fg s ((s.Ci id (jj rs ver)).aC oid (.rows osz (Wd++[[.sl rs []]]) over)):=by
 refine Fg.trans (Fg.ze h1) (Fg.plain (rs':=Wd++[[PV.sl rs []]]) ?_ rfl)
 have hn:aA (ow s.mem id) oid=aA s.mem oid:=by
  unfold ow aA;simp[List.getD_eq_getElem?_getD,List.getElem?_set,dW.symm]
 simp only[St.Ci,St.Ec,oL,hn,h2,Option.map_some,nM,List.map_append,Ia];simp[lX,jR,nN,jj]
end Go.Am
namespace Go.Am
theorem Fg.YW {s:St} {id sz ver:Nat} {rs:List (List PV)} {W:List (List AV)} (h:aA s.mem id=some (.rows sz rs ver)) (hW:W=rs.map (·.map AV.pv)):Fg s (s.aC id (.cf sz W ver)):=by
 subst hW;exact Fg.X0 h
theorem Fg.Ib {s:St} {id oid sz osz ver over:Nat} {rs Wd Z:List (List PV)} {V:List (List AV)} (dW:oid≠id) (h1:aA s.mem id=some (.rows sz rs ver)) (h2:aA s.mem oid=some (.cf osz V over)) (hV:V=Wd.map (·.map AV.pv)++[[AV.dB id ver]]) (hZ:Z=Wd++[[.sl rs []]]):
  Fg s ((s.Ci id (jj rs ver)).aC oid (.rows osz Z over)):=by
 subst hV hZ;exact Fg.Kd dW h1 h2
end Go.Am
namespace Go.Am
theorem U2 {C:FuncId→List PV→PV→Prop} {A:Ar} {I:IC} {x:AI} {xs:List AI} {a b:cT} {st s0:St} {Q:Ex→St→Prop} (hf:Fg st s0) (h:fw C A I (.seq (.seq (.vJ (x::xs) none) a) b) s0 Q):fw C A I (.seq (.seq (.vJ (x::xs) none) a) b) st Q:=by
 simp only[fw,bC]at h ⊢;obtain⟨s1,h1,h2⟩:=h;exact⟨s1,Fg.trans hf h1,h2⟩
end Go.Am
namespace Go.Am
theorem Ke {C:FuncId→List PV→PV→Prop} {A:Ar} {I:IC} {ops:List AI} {lt:List (List Nat)} {r:List Item} {st s0:St} {Q:Ex→St→Prop} (hf:Fg st s0) (h:bA C A I (.code (.vJ ops (some lt))::r) Q .normal s0):bA C A I (.code (.vJ ops (some lt))::r) Q .normal st:=by
 simp only[bA,fw]at h ⊢;obtain⟨s1,h1,h2⟩:=h;exact⟨s1,Fg.trans hf h1,h2⟩
end Go.Am
end
section
namespace Go.Am
mutual
def uz {H:Type}:DataW H→List PV
 |.lit (.bool b)=>[.bool b]
 |.lit (.int k n)=>[.int k n]
 |.lit (.string s)=>[.str s]
 |.lit _=>[]
 |.nil=>[.sl [] []]
 |.ptr _=>[]
 |.slice es sp=>[.sl (jr es) (jr sp)]
 |.agg parts=>pe parts
 |.iface _ _=>[]
 |.map _=>[]
 |.held _=>[]
def jr {H:Type}:List (DataW H)→List (List PV)
 |[]=>[]
 |d::ds=>uz d::jr ds
def pe {H:Type}:List (DataW H)→List PV
 |[]=>[]
 |d::ds=>uz d++pe ds
end
theorem kz {H:Type}:∀(l:List (DataW H)),jr l=l.map uz
 |[]=>by simp[jr]
 |d::ds=>by simp[jr,kz ds]
structure EI (H:Type) where
 bk:DataW H→Nat
 al:List (DataW H)→Nat
 one:∀d,1≤bk d
 cons:∀x r,al (x::r)=bk x+al r
 slice:∀es sp,al es+al sp+1≤bk (.slice es sp)
 agg:∀ps,al ps≤bk (.agg ps)
 str:∀s,s.length≤bk (.lit (.string s))
theorem EI.le {H:Type} (k:EI H):∀{l:List (DataW H)} {d:DataW H},d∈l→k.bk d≤k.al l
 |[],_,h=>by cases h
 |x::r,d,h=>by
  rw[k.cons]
  cases h with
  |head=>omega
  |tail _ h=>have:=k.le h;omega
theorem EI.len {H:Type} (k:EI H):∀(l:List (DataW H)),l.length≤k.al l
 |[]=>by simp
 |x::r=>by
  rw[k.cons];have:=k.len r;have:=k.one x;simp only[List.length_cons];omega
inductive Sh where
 |b
 |i (k:IntKind)
 |s
 |l (row:List Sh)
mutual
def Mg (B:Nat):Sh→PV→Prop
 |.b,p=>∃x,p=.bool x
 |.i k,p=>∃n,p=.int k n∧(Lit.int k n).wf=true
 |.s,p=>∃x,p=.str x∧x.length≤B
 |.l row,p=>∃rows spare,p=.sl rows spare∧rows.length+spare.length≤B∧(∀r∈rows,ki B row r)∧(∀r∈spare,ki B row r)
def ki (B:Nat):List Sh→List PV→Prop
 |[],ps=>ps=[]
 |s::ss,ps=>∃p r,ps=p::r∧Mg B s p∧ki B ss r
end
theorem ki.length {B:Nat}:∀{ss:List Sh} {ps:List PV},ki B ss ps→ps.length=ss.length
 |[],ps,h=>by simp only[ki]at h;simp[h]
 |s::ss,ps,h=>by
  simp only[ki]at h;obtain⟨p,r,rfl,_,h⟩:=h;simp[ki.length h]
theorem ki.append {B:Nat}:∀{ss tt:List Sh} {ps qs:List PV},ki B ss ps→ki B tt qs→ki B (ss++tt) (ps++qs)
 |[],tt,ps,qs,h,h'=>by simp only[ki]at h;simpa[h]using h'
 |s::ss,tt,ps,qs,h,h'=>by
  simp only[ki]at h;obtain⟨p,r,rfl,hp,h⟩:=h;simp only[List.cons_append,ki];exact⟨p,r++qs,rfl,hp,ki.append h h'⟩
def Kf (P:Program) (f:TypeId→Option (List Sh)):Nat→List Field→Option (List Sh)
 |_,[]=>some []
 |off,x::xs=>match f x.type with
  |none=>none
  |some row=>match x.offset==off&&row.length==P.cellsOf x.type with
   |false=>none
   |true=>match Kf P f (off+row.length) xs with
    |none=>none
    |some r=>some (row++r)
def pD (P:Program):Nat→TypeId→Option (List Sh)
 |0,_=>none
 |n+1,t=>match P.underlying t with
  |some .bool=>some [.b]
  |some (.int k)=>some [.i k]
  |some .string=>some [.s]
  |some (.slice e)=>match pD P n e with
   |none=>none
   |some row=>match row.length==P.cellsOf e&&decide (0<row.length)with
    |false=>none
    |true=>some [.l row]
  |some (.struct fs)=>match Kf P (pD P n) 0 fs.toList with
   |none=>none
   |some row=>match row.length==P.cellsOf t with
    |false=>none
    |true=>some row
  |some (.array m e)=>match pD P n e with
   |none=>none
   |some row=>match row.length==P.cellsOf e&&m*row.length==P.cellsOf t with
    |false=>none
    |true=>some (List.replicate m row).flatten
  |_=>none
section
variable {H:Type} {enc:TypeId×Value→H} {P:Program} {w:World} {held:Bool}
theorem xx {w:World} {a:Addr} {v:Value} (h:w.cell? a=some v):a.spot=none∧a.block<w.heap.size∧∃c,ag w a.block=some c∧c[a.off]? =some v:=by
 unfold World.cell? at h;unfold ag;split at h
 ·rename_i c t f hc;split at h
  ·cases h
  ·rename_i hs;refine⟨by simpa using hs,?_,c,by rw[hc],h⟩;exact(Array.getElem?_eq_some_iff.1 hc).1
 ·cases h
theorem xy (k:EI H) (B:Nat):∀(fuel n:Nat) (t:TypeId) (row:List Sh) (cs:List Value) (d:DataW H) (ps:List MemPlace),pD P n t=some row→DataW.trod enc P w 0 (fun _=>true) held fuel t cs=some (d,ps)→k.bk d≤B→
  a7 (fun b=>b<w.heap.size) w (uz d) cs∧ki B row (uz d):=by
 intro fuel
 induction fuel with
 |zero=>intro n t row cs d ps _ h;simp[DataW.trod]at h
 |succ fuel ih=>
  intro n t row cs d ps hs h hb
  cases n with
  |zero=>simp[pD]at hs
  |succ n=>
   unfold pD at hs;split at hs
   ·rename_i hu;obtain⟨b,rfl,hx⟩:=DataW.trod_bool hu h;simp only[Prod.mk.injEq]at hx;obtain⟨rfl,rfl⟩:=hx
    cases hs
    simp[uz,a7,aJ,ki,Mg]
   ·rename_i kk hu;obtain⟨b,rfl,hx,hw⟩:=DataW.trod_int hu h;simp only[Prod.mk.injEq]at hx;obtain⟨rfl,rfl⟩:=hx
    cases hs
    simp[uz,a7,aJ,ki,Mg,hw]
   ·rename_i hu;obtain⟨b,rfl,hx,hw⟩:=DataW.trod_string hu h;simp only[Prod.mk.injEq]at hx;obtain⟨rfl,rfl⟩:=hx
    cases hs
    have:=k.str b.data.toList;simp only[uz,a7,aJ,ki,Mg];exact⟨⟨_,_,rfl,by simp,rfl⟩,_,_,rfl,⟨_,rfl,by omega⟩,rfl⟩
   ·rename_i e hu;split at hs
    ·cases hs
    ·rename_i CV bM;split at hs
     ·cases hs
     ·rename_i hc
      cases hs
      simp only[Bool.and_eq_true,beq_iff_eq,decide_eq_true_eq]at hc;obtain⟨yD,vY⟩:=hc
      rcases DataW.trod_slice hu h with⟨rfl,hx⟩|⟨a,len,cap,elems,rest,m,hm,rfl,hx,_,hlc,_,hel,h1,h2,_⟩
      ·simp only[Prod.mk.injEq]at hx;obtain⟨rfl,rfl⟩:=hx;simp only[uz,a7,aJ,ki,Mg];exact⟨⟨_,_,rfl,⟨none,0,rfl,by simp,by simp⟩,rfl⟩,_,_,rfl,⟨[],[],rfl,by simp,by simp,by simp⟩,rfl⟩
      ·obtain rfl:fuel=m:=by omega
       simp only[Prod.mk.injEq]at hx;obtain⟨rfl,rfl⟩:=hx;obtain⟨px,h2⟩:=h2 rfl;have hbk:=k.slice (elems.map (·.1)) (rest.map (·.1));have hln:=k.len (elems.map (·.1));have hlr:=k.len (rest.map (·.1))
       have bP:∀i x,(elems++rest)[i]? =some x→k.bk x.1≤B∧∃c,ag w a.block=some c∧(i=0→a.spot=none)∧a.block<w.heap.size∧∃cs,cs.length=P.cellsOf e∧(∀j v,cs[j]? =some v→c[a.off+i*P.cellsOf e+j]? =some v)∧a7 (fun b=>b<w.heap.size) w (uz x.1) cs∧ki B CV (uz x.1):=by
        intro i x hi
        have rq:x∈elems∨x∈rest:=by simpa using List.mem_of_getElem? hi
        have hxb:k.bk x.1≤B:=by
         rcases rq with hm|hm
         ·have:=k.le (List.mem_map_of_mem (f:=(·.1)) hm);omega
         ·have:=k.le (List.mem_map_of_mem (f:=(·.1)) hm);omega
        have YX:(w.cells? 0 (a.add (i*P.cellsOf e)) (P.cellsOf e)).bind (DataW.trod enc P w 0 (fun _=>true) held fuel e)=some x:=by
         by_cases bL:i<elems.length
         ·rw[List.getElem?_append_left bL]at hi;rw[h1 i (by omega),hi]
         ·rw[List.getElem?_append_right (by omega)]at hi
          have hj:i-elems.length<rest.length:=by
           rcases Nat.lt_or_ge (i-elems.length) rest.length with h|h
           ·exact h
           ·rw[List.getElem?_eq_none h]at hi;cases hi
          have:=h2 (i-elems.length) (by omega);rw[hi,show len+(i-elems.length)=i by omega]at this;exact this
        obtain⟨cs,kh,xl⟩:=Option.bind_eq_some_iff.1 YX;obtain⟨YY,YZ⟩:=ih n e CV cs x.1 x.2 bM xl hxb;obtain⟨_,gE,o9⟩:=World.cells?_some kh;have h0:=o9 0 (by omega);obtain⟨v0,lU⟩:∃v0,cs[0]? =some v0:=⟨_,List.getElem?_eq_getElem (by omega)⟩;rw[lU]at h0
        have MJ:∀n,(a.add n).block=a.block:=by intro n;unfold Addr.add;split<;>rfl
        have RP:∀n m,((a.add n).add m).block=a.block:=by intro n m;unfold Addr.add;split<;>(split<;>rfl)
        have Eo:∀n m,((a.add n).add m).off=a.off+n+m:=by
         intro n m;unfold Addr.add
         by_cases hn:n=0<;>by_cases hm:m=0<;>simp[hn,hm]<;>omega
        obtain⟨hsp0,bL,c,hc,_⟩:=xx h0;rw[RP]at bL hc;refine⟨hxb,c,hc,?_,bL,cs,gE,?_,YY,YZ⟩
        ·intro Xz;subst Xz;simpa[Addr.add]using hsp0
        ·intro j v hj
         have vP:j<P.cellsOf e:=by
          rcases Nat.lt_or_ge j cs.length with h|h
          ·omega
          ·rw[List.getElem?_eq_none h]at hj;cases hj
         have:=o9 j vP;rw[hj]at this;obtain⟨_,_,c',Me,hv⟩:=xx this;rw[RP]at Me;rw[Eo]at hv;obtain rfl:c=c':=Option.some.inj (hc.symm.trans Me);exact hv
       have Np:(∀r∈jr (elems.map (·.1)),ki B CV r)∧(∀r∈jr (rest.map (·.1)),ki B CV r):=by
        constructor
        ·intro r hr;rw[kz,List.map_map]at hr;obtain⟨x,hx,rfl⟩:=List.mem_map.1 hr;obtain⟨i,hi⟩:=List.mem_iff_getElem?.1 (List.mem_append_left rest hx);obtain⟨_,c,_,_,_,cs,_,_,_,h⟩:=bP i x hi;exact h
        ·intro r hr;rw[kz,List.map_map]at hr;obtain⟨x,hx,rfl⟩:=List.mem_map.1 hr;obtain⟨i,hi⟩:=List.mem_iff_getElem?.1 (List.mem_append_right elems hx);obtain⟨_,c,_,_,_,cs,_,_,_,h⟩:=bP i x hi;exact h
       have zU:(jr (elems.map (·.1))).length=elems.length∧(jr (rest.map (·.1))).length=rest.length:=by simp[kz]
       simp only[List.length_map]at hln hlr;refine⟨?_,?_⟩
       ·simp only[uz,a7,aJ];refine⟨_,_,rfl,⟨some a,cap,by rw[zU.1,hel],by omega,?_⟩,rfl⟩
        by_cases he:elems++rest=[]
        ·left
         simp at he;simp[he.1,he.2,jr]
        ·right
         obtain⟨x0,hx0⟩:∃x0,(elems++rest)[0]? =some x0:=by
          cases hh:elems++rest with
          |nil=>exact absurd hh he
          |cons y ys=>exact⟨y,rfl⟩
         obtain⟨_,c,hc,Kg,bL,_⟩:=bP 0 x0 hx0
         have Y0:aS (P.cellsOf e) (jr (elems.map (·.1))):=fun r hr=>by rw[(Np.1 r hr).length,yD]
         have Y1:aS (P.cellsOf e) (jr (rest.map (·.1))):=fun r hr=>by rw[(Np.2 r hr).length,yD]
         refine⟨a.block,a.off,c,P.cellsOf e,by rw[←Kg rfl],bL,hc,Y0,Y1,?_,?_⟩
         ·refine bI.mV Y0 fun i hi=>?_
          rw[zU.1]at hi;obtain⟨_,c',Me,_,_,cs,_,h5,h6,_⟩:=bP i elems[i] (by rw[List.getElem?_append_left hi];exact List.getElem?_eq_getElem hi);obtain rfl:c=c':=Option.some.inj (hc.symm.trans Me)
          have:(jr (elems.map (·.1))).getD i []=uz elems[i].1:=by simp[kz,hi]
          rw[this];exact b7.eG h6 h5
         ·rw[zU.1]
          refine bI.mV Y1 fun i hi=>?_
          rw[zU.2]at hi;obtain⟨_,c',Me,_,_,cs,_,h5,h6,_⟩:=bP (elems.length+i) rest[i] (by rw[List.getElem?_append_right (by omega)];simp[hi]);obtain rfl:c=c':=Option.some.inj (hc.symm.trans Me)
          have:(jr (rest.map (·.1))).getD i []=uz rest[i].1:=by simp[kz,hi]
          rw[this]
          refine b7.eG h6 fun j v hj=>?_
          have:=h5 j v hj;rw[Nat.add_mul,←Nat.add_assoc]at this;exact this
       ·simp only[uz,ki,Mg];exact⟨_,_,rfl,⟨_,_,rfl,by omega,Np.1,Np.2⟩,rfl⟩
   ·rename_i fs hu;split at hs
    ·cases hs
    ·rename_i CV bM;split at hs
     ·cases hs
     ·rename_i hc
      cases hs
      simp only[beq_iff_eq]at hc;obtain⟨xs,m,hm,hx,gE,yN,hfs⟩:=DataW.trod_struct hu h
      obtain rfl:fuel=m:=by omega
      simp only[Prod.mk.injEq]at hx;obtain⟨rfl,rfl⟩:=hx;have hbk:=k.agg (xs.map (·.1))
      have key:∀(fl:List Field) (ys:List (DataW H×List MemPlace)) (off:Nat) (row:List Sh),Kf P (pD P n) off fl=some row→ys.length=fl.length→k.al (ys.map (·.1))≤B→off+row.length≤cs.length→
        (∀(i:Nat) (f:Field),fl[i]? =some f→DataW.trod enc P w 0 (fun _=>true) held fuel f.type ((cs.drop f.offset).take (P.cellsOf f.type))=ys[i]?)→
        a7 (fun b=>b<w.heap.size) w (pe (ys.map (·.1))) ((cs.drop off).take row.length)∧ki B row (pe (ys.map (·.1))):=by
       intro fl
       induction fl with
       |nil=>
        intro ys off row hs hl _ _ _;simp only[Kf,Option.some.injEq]at hs;subst hs
        obtain rfl:ys=[]:=by simpa using hl
        simp[pe,a7,ki]
       |cons f fl Yh=>
        intro ys off row hs hl hb hle xl
        cases ys with
        |nil=>simp at hl
        |cons y ys=>
         unfold Kf at hs;split at hs
         ·cases hs
         ·rename_i r1 YY;split at hs
          ·cases hs
          ·rename_i mY;split at hs
           ·cases hs
           ·rename_i r2 YZ
            cases hs
            simp only[Bool.and_eq_true,beq_iff_eq]at mY;obtain⟨Eo,hlen⟩:=mY;simp only[List.map_cons,k.cons]at hb;have h0:=xl 0 f rfl;simp only[List.getElem?_cons_zero]at h0;rw[Eo,←hlen]at h0;obtain⟨a1,a2⟩:=ih n f.type r1 _ y.1 y.2 YY h0 (by omega);simp only[List.length_append]at hle;obtain⟨b1,b2⟩:=Yh ys (off+r1.length) r2 YZ (by simpa using hl) (by omega) (by omega) (fun i g hg=>by simpa using xl (i+1) g (by simpa using hg))
            refine⟨?_,?_⟩
            ·simp only[List.map_cons,pe]
             have e:(cs.drop off).take (r1++r2).length=(cs.drop off).take r1.length++(cs.drop (off+r1.length)).take r2.length:=by
              rw[List.length_append,List.take_add,List.drop_drop]
             rw[e];exact a7.append a1 b1
            ·simp only[List.map_cons,pe];exact ki.append a2 b2
      obtain⟨k1,k2⟩:=key fs.toList xs 0 row bM (by simpa using yN) (by omega) (by omega) (fun i f hf=>hfs i f (by simpa using hf));refine⟨?_,?_⟩
      ·simp only[uz]
       have:(cs.drop 0).take row.length=cs:=by rw[List.drop_zero,List.take_of_length_le (by omega)]
       rw[this]at k1;exact k1
      ·simp only[uz];exact k2
   ·rename_i m e hu;split at hs
    ·cases hs
    ·rename_i CV bM;split at hs
     ·cases hs
     ·rename_i hc
      cases hs
      simp only[Bool.and_eq_true,beq_iff_eq]at hc;obtain⟨yD,vY⟩:=hc;obtain⟨xs,m',hm,hx,gE,yN,hfs⟩:=DataW.trod_array hu h
      obtain rfl:fuel=m':=by omega
      simp only[Prod.mk.injEq]at hx;obtain⟨rfl,rfl⟩:=hx;have hbk:=k.agg (xs.map (·.1))
      have key:∀(ys:List (DataW H×List MemPlace)) (i:Nat),(∀j,j<ys.length→DataW.trod enc P w 0 (fun _=>true) held fuel e ((cs.drop ((i+j)*P.cellsOf e)).take (P.cellsOf e))=ys[j]?)→k.al (ys.map (·.1))≤B→
        a7 (fun b=>b<w.heap.size) w (pe (ys.map (·.1))) ((cs.drop (i*P.cellsOf e)).take (ys.length*P.cellsOf e))∧ki B (List.replicate ys.length CV).flatten (pe (ys.map (·.1))):=by
       intro ys
       induction ys with
       |nil=>intro i _ _;simp[pe,a7,ki]
       |cons y ys YE=>
        intro i xl hb;simp only[List.map_cons,k.cons]at hb;have h0:=xl 0 (by simp);simp only[List.getElem?_cons_zero,Nat.add_zero]at h0;obtain⟨a1,a2⟩:=ih n e CV _ y.1 y.2 bM h0 (by omega)
        obtain⟨b1,b2⟩:=YE (i+1) (fun j hj=>by
         have:=xl (j+1) (by simp;omega);rw[show i+(j+1)=i+1+j by omega]at this
         simpa using this) (by omega)
        refine⟨?_,?_⟩
        ·simp only[List.map_cons,pe,List.length_cons]
         have e':(cs.drop (i*P.cellsOf e)).take ((ys.length+1)*P.cellsOf e)=(cs.drop (i*P.cellsOf e)).take (P.cellsOf e)++(cs.drop ((i+1)*P.cellsOf e)).take (ys.length*P.cellsOf e):=by
          rw[Nat.add_mul,Nat.one_mul,Nat.add_comm,List.take_add,List.drop_drop,Nat.add_mul,Nat.one_mul]
         rw[e'];exact a7.append a1 b1
        ·simp only[List.map_cons,pe,List.length_cons,List.replicate_succ,List.flatten_cons];exact ki.append a2 b2
      obtain⟨k1,k2⟩:=key xs 0 (fun j hj=>by simpa using hfs j (by omega)) (by omega);rw[yN]at k1 k2;refine⟨?_,?_⟩
      ·simp only[uz]
       have:(cs.drop (0*P.cellsOf e)).take (m*P.cellsOf e)=cs:=by rw[Nat.zero_mul,List.drop_zero,List.take_of_length_le (by rw[gE,←vY,yD];exact Nat.le_refl _)]
       rw[this]at k1;exact k1
      ·simp only[uz];exact k2
   ·cases hs
theorem rI (hl:laidOutB P=true) {W W':World} (hb:RowKit.Below W.heap.size W W') {sp:Nat→Bool}:∀{ts:List TypeId} {vs:List Value} {ds:List (DataW H)} {ps:List MemPlace},(ts.all fun t=>P.readableRec t&&decide (t<P.types.size))=true→
  DataW.TrodAll enc P W 0 (fun _=>true) true ts vs ds ps→(∀x∈ps,x.block<W.heap.size)→(∀x∈ps,sp x.block=true)→DataW.TrodAll enc P W' 0 sp true ts vs ds ps
 |[],vs,ds,ps,_,h,_,_=>by
  obtain⟨rfl,rfl,rfl⟩:=ChangeShapes.trodAll_nil h;exact ChangeShapes.trodAll_mk0
 |t::ts,vs,ds,ps,hr,h,bL,Kg=>by
  obtain⟨v,vs,d,ds,p,q,rfl,rfl,rfl,h1,h2⟩:=ChangeShapes.trodAll_cons h;simp only[List.all_cons,Bool.and_eq_true,decide_eq_true_eq]at hr
  exact⟨p,q,WideElems.Trod_stays hl hr.1.1 hr.1.2 h1 (fun x hx=>hb.same (bL x (by simp[hx]))) (fun x hx=>Kg x (by simp[hx])),
   rI hl hb (by simpa using hr.2) h2 (fun x hx=>bL x (by simp[hx])) (fun x hx=>Kg x (by simp[hx])),rfl⟩
theorem qg (hl:laidOutB P=true) {W W':World} (hb:RowKit.Below W.heap.size W W') {sp:Nat→Bool}:∀{ns:List String} {gs:List (DataW H)} {ps:List MemPlace},RowKit.varsRowed P ns=true→
  DataW.TrodVars enc P W (fun _=>true) ns gs ps→(∀x∈ps,sp x.block=true)→DataW.TrodVars enc P W' sp ns gs ps
 |[],[],_,_,h,_=>h
 |[],_::_,_,_,h,_=>h.elim
 |_::_,[],_,_,h,_=>h.elim
 |n::ns,d::ds,ps,hv,h,Kg=>by
  have bL:=h.lt;obtain⟨g,t,cs,fuel,p,q,h1,h2,h3,h4,hs,e⟩:=h;simp only[RowKit.varsRowed,List.all_cons,Bool.and_eq_true]at hv
  have ht:P.readableRec t=true∧t<P.types.size:=by
   have:=hv.1;rw[h1]at this
   cases hg:P.globals[g]? with
   |none=>rw[hg]at h2;cases h2
   |some gl=>
    rw[hg]at h2;obtain rfl:gl.type=t:=Option.some.inj h2;simpa[hg]using this
  have hp:∀x∈p,x.block<W.heap.size:=fun x hx=>bL x (by rw[e];simp[hx])
  have h3':W'.var? P n=some cs:=by
   unfold World.var? at h3 ⊢;rw[h1]at h3 ⊢;simp only[Option.bind_some]at h3 ⊢
   have hg:g<W.heap.size:=by
    cases hh:W.heap[g]? with
    |none=>rw[hh]at h3;cases h3
    |some o=>exact(Array.getElem?_eq_some_iff.1 hh).1
   rw[hb.block g hg];exact h3
  exact⟨g,t,cs,fuel,p,q,h1,h2,h3',DataW.trod_stays (kids_book hl ht.1) (book_sized ht.1) (fun h=>by cases h) ⟨ht.2,book_self t⟩ h4 (fun x hx=>hb.same (hp x hx)) (fun x hx=>Kg x (by rw[e];simp[hx])),
   qg hl hb (by simpa[RowKit.varsRowed]using hv.2) hs (fun x hx=>Kg x (by rw[e];simp[hx])),e⟩
end
end Go.Am
end
section
namespace Go.Am
open Go.ChangeShapes Go.RowKit
theorem yO {P:Program} {G:Nat→Option (List PV)} {f:FuncId} {fn:Func} {c:Code} {ps:List PV} {res:PV} {args:Array Value} {w:World} {S:Nat→Prop} (hf:P.funcs[f]? =some fn) (hb:fn.body=some c) (hn:(fn.name== "runtime.NumGoroutine")=false)
  (hp:ar P G f ps res) (hs:∀b,S b→b<w.heap.size) (hg:uq G S w) (hr:a7 S w ps args.toList):
  Calls P f args w fun e w'=>∃v,e=.returned v∧RowKit.Below w.heap.size w w'∧aJ (fun b=>S b∨(w.heap.size≤b∧b<w'.heap.size)) w' res v:=by
 have h:=hp S w args.toList hs hg hr;unfold fM at h
 have bJ:(callFunc f args.toList.toArray).run P w=.ok (.enter f args.toList.toArray) w:=by
  have rG:¬fn.name= "runtime.NumGoroutine" :=by simpa using hn
  simp[callFunc,run_program,hf,rG,hb]
 rw[bJ]at h;simpa using h
theorem EJ {H:Type} {enc:TypeId×Value→H} {P:Program} {f:Func} {s:ChangeSpec} {apart fresh handsOn again:Bool} {W W':World} {args:Array Value} {v:Value} {ds gs:List (DataW H)} {before pa pv:List MemPlace}
  (hW:DataW.Whole enc P f.params.toList s.vars apart W args.toList ds gs before)
  (mO:∀(b:Nat) (sp:Nat→Bool) (hd:Bool),DataW.TrodAll enc P W' b sp hd f.resultTypes.toList (v.resultList f.resultTypes.size) (s.fn H (ds++gs)).results [])
  (jV:∀sp:Nat→Bool,(∀p∈before,sp p.block=true)→DataW.TrodAll enc P W' 0 sp true f.params.toList args.toList (s.fn H (ds++gs)).args pa)
  (RQ:∀sp:Nat→Bool,(∀p∈before,sp p.block=true)→DataW.TrodVars enc P W' sp s.vars (s.fn H (ds++gs)).vars pv)
  (rj:before=pa++pv) (hb:Below W.heap.size W W')
  (e6:∀(j:Nat) (t:TypeId) (r:Value),f.resultTypes[j]? =some t→(v.resultList f.resultTypes.size)[j]? =some r→Value.okWide P W' .any 0 t r):
  s.post enc P f apart fresh handsOn again W args v W':=by
 have bL:∀p∈before,p.block<W.heap.size:=fun p hp=>hW.lt p hp
 have hold:∀p∈before,(fun b=>decide (b<W.heap.size)) p.block=true:=fun p hp=>by simpa using bL p hp
 refine⟨ds,gs,before,[],pa,pv,hW,mO _ _ _,jV _ hold,RQ _ hold,World.keptBut_mono (fun p hp=>⟨hp,?_⟩) (hb.frame (·∈before)),fun _=>?_⟩
 ·rw[rj,List.mem_append]at hp;exact Or.inr hp
 ·obtain⟨_,_,_,_,_,hz,hn⟩:=hW;refine⟨e6,_,_,([]++pa)++pv,⟨[]++pa,pv,trodAll_append (jV _ (fun _ _=>rfl)) (mO _ _ _),RQ _ (fun _ _=>rfl),rfl,?_,?_⟩,?_⟩
  ·intro b off hp
   have XB:MemPlace.cell b off∈before:=by rw[rj];simpa using hp
   rw[hb.frozen (bL _ XB)];exact hz b off XB
  ·intro ha;have:=hn ha;rw[rj]at this;simpa using this
  ·intro p hp _;rw[rj];simpa using hp
theorem Kh {H:Type} {enc:TypeId×Value→H} {P:Program} {f:FuncId} {fn:Func} {c:Code} {G:Nat→Option (List PV)} {s:ChangeSpec} {apart fresh handsOn again:Bool} {W:World} {args:Array Value} {ds gs:List (DataW H)} {before:List MemPlace} {tb:TypeId} {ps:List PV}
  (hl:laidOutB P=true) (hf:P.funcs[f]? =some fn) (hb:fn.body=some c) (hn:(fn.name== "runtime.NumGoroutine")=false) (hp:ar P G f ps (.bool true)) (hg:uq G (fun b=>b<W.heap.size) W) (hr:a7 (fun b=>b<W.heap.size) W ps args.toList)
  (hW:DataW.Whole enc P fn.params.toList s.vars apart W args.toList ds gs before)
  (hrd:(fn.params.toList.all fun t=>P.readableRec t&&decide (t<P.types.size))=true) (s6:RowKit.varsRowed P s.vars=true) (hrt:fn.resultTypes=#[tb]) (htb:P.underlying tb=some .bool)
  (hs:s.fn H (ds++gs)=⟨[.lit (.bool true)],ds,gs⟩):
  Calls P f args W fun e W'=>∃v,e=.returned v∧s.post enc P fn apart fresh handsOn again W args v W':=by
 refine(yO hf hb hn hp (fun _ h=>h) hg hr).mono fun e W' ⟨v,he,U3,hv⟩=>⟨v,he,?_⟩
 simp only[aJ]at hv;subst hv;have hW':=hW;obtain⟨p,q,hA,hV,rfl,hfz,hnd⟩:=hW
 have bL:∀x∈p++q,x.block<W.heap.size:=fun x hx=>hW'.lt x hx
 refine EJ (pa:=p) (pv:=q) hW' ?_ ?_ ?_ rfl U3 ?_
 ·intro b sp hd;rw[hrt,hs];exact trodAll_mk1 (shut_bool htb true)
 ·intro sp Kg;rw[hs];exact rI hl U3 hrd hA (fun x hx=>bL x (by simp[hx])) (fun x hx=>Kg x (by simp[hx]))
 ·intro sp Kg;rw[hs];exact qg hl U3 s6 hV (fun x hx=>Kg x (by simp[hx]))
 ·exact ok_one hrt rfl (okWide_bool_mk htb true)
theorem A4 {P:Program} {W:World} {G:Nat→Option (List PV)} {l:List (String×DataW Unit)} {ps:List MemPlace} (k:EI Unit) (B:Nat) (h:DataW.LaidVars P W l ps)
  (hG:∀g row,G g=some row→∃n d t sh m,(n,d)∈l∧P.globalNamed n=some g∧(P.globals[g]?).map (·.type)=some t∧pD P m t=some sh∧uz d=row∧k.bk d≤B):uq G (fun b=>b<W.heap.size) W:=by
 intro g row hg;obtain⟨n,d,t,sh,m,rq,h1,h2,h3,h4,h5⟩:=hG g row hg
 have key:∀{l:List (String×DataW Unit)} {ps:List MemPlace},DataW.LaidVars P W l ps→(n,d)∈l→∃cs fuel p,W.var? P n=some cs∧DataW.trod (fun _=>()) P W 0 (fun _=>true) false fuel t cs.toList=some (d,p):=by
  intro l
  induction l with
  |nil=>intro ps _ hm;cases hm
  |cons x l ih=>
   intro ps hl hm;obtain⟨n',d'⟩:=x;obtain⟨g',t',cs,fuel,p,q,e1,e2,e3,e4,e5,_⟩:=hl
   cases hm with
   |head=>
    obtain rfl:g=g':=Option.some.inj (h1.symm.trans e1);obtain rfl:t=t':=Option.some.inj (h2.symm.trans e2);exact⟨cs,fuel,p,e3,e4⟩
   |tail _ hm=>exact ih e5 hm
 obtain⟨cs,fuel,p,e3,e4⟩:=key h rq;obtain⟨r1,_⟩:=xy k B fuel m t sh cs.toList d p h3 e4 h5;unfold World.var? at e3;rw[h1]at e3;simp only[Option.bind_some]at e3
 have hc:ag W g=some cs∧g<W.heap.size:=by
  unfold ag
  cases hh:W.heap[g]? with
  |none=>rw[hh]at e3;cases e3
  |some o=>
   rw[hh]at e3;refine⟨?_,(Array.getElem?_eq_some_iff.1 hh).1⟩
   cases o<;>simp_all
 refine⟨hc.2,cs,hc.1,?_,?_⟩
 ·rw[←h4];exact b7.eG r1 (fun j v hj=>by simpa using hj)
 ·rw[←h4,←a7.length r1,Array.length_toList]
end Go.Am
end
section
open Go Go.Am
namespace Go.bW
structure aM where
 jH:Int
 row:Int
 js:Bool
 dk:Int
 di:Int
 vt:Int
 vu:Int
 lf:Int
 b9:List Int
 D0:List (List PV)
 x:Int
 y:Int
 z:Int
def aM.enc (c:aM):List PV:=[.int .i64 c.jH,.int .i64 c.row,.bool c.js,.int .i64 c.dk,.int .i64 c.di,.int .i64 c.vt,.int .i64 c.vu,.int .i64 c.lf,.sl (ints c.b9) c.D0,.int .i64 c.x,.int .i64 c.y,.int .i64 c.z]
structure bq where
 jH:Int
 rows:List Int
 rsp:List (List PV)
def bq.enc (c:bq):List PV:=[.int .i64 c.jH,.sl (ints c.rows) c.rsp]
structure Row where
 a:Int
 b:Int
 c:Int
 d:Int
 e:Int
def Row.enc (c:Row):List PV:=[.int .i64 c.a,.int .i64 c.b,.int .i64 c.c,.int .i64 c.d,.int .i64 c.e]
structure eb where
 ca:Int
 x:Int
 y:Int
 z:Int
 iE:Int
 steps:List Int
 U4:List (List PV)
def eb.enc (c:eb):List PV:=[.int .i64 c.ca,.int .i64 c.x,.int .i64 c.y,.int .i64 c.z,.int .i64 c.iE,.sl (ints c.steps) c.U4]
structure cE where
 id:Int
 number:List UInt8
 size:Int
 high:Bool
 ca:Int
 load:Int
 discharge:Int
 cls:Int
 bS:Bool
def cE.enc (c:cE):List PV:=[.int .i64 c.id,.str c.number,.int .u8 c.size,.bool c.high,.int .i64 c.ca,.int .i64 c.load,.int .i64 c.discharge,.int .u8 c.cls,.bool c.bS]
structure Slot where
 column:Int
 gG:Int
 half:Int
def Slot.enc (c:Slot):List PV:=[.int .i64 c.column,.int .i64 c.gG,.int .u8 c.half]
structure aT where
 box:Int
 slot:Slot
def aT.enc (c:aT):List PV:=[.int .i64 c.box,.int .i64 c.slot.column,.int .i64 c.slot.gG,.int .u8 c.slot.half]
structure Rest where
 l1:Int
 l2:Int
 l3:Int
 l4:Int
 r:List (List PV)
 rsp:List (List PV)
 f:List (List PV)
 fsp:List (List PV)
 t:List (List PV)
 tsp:List (List PV)
 m1:Int
 m2:Int
 m3:Int
 m4:Int
def Y2 (c csp v vsp:List (List PV)) (q:Rest):List PV:=[.sl c csp,.sl v vsp,.int .i64 q.l1,.int .i64 q.l2,.int .i64 q.l3,.int .i64 q.l4,.sl q.r q.rsp,.sl q.f q.fsp,.sl q.t q.tsp,.int .i64 q.m1,.int .i64 q.m2,.int .i64 q.m3,.int .i64 q.m4]
def shipV (c csp v vsp:List (List PV)) (q:Rest):PV:=.agg (Y2 c csp v vsp q)
def Mh (i:Nat):Int:=8000024+(i:Int)
def marks:List Int:=(List.range 12).map Mh
def aM.gF (c:aM):aM:={c with D0:=ints marks}
def bq.gF (c:bq):bq:={c with rsp:=ints marks}
def eb.gF (c:eb):eb:={c with U4:=ints marks}
def aM.mark (i:Nat):aM:=⟨Mh i,0,false,0,0,0,0,0,[],[],0,0,0⟩
def bq.mark (i:Nat):bq:=⟨Mh i,[],[]⟩
def Row.rJ (i:Nat):Row:=⟨0,Mh i,0,0,0⟩
def Row.rK (i:Nat):Row:=⟨Mh i,0,0,0,0⟩
def eb.mark (i:Nat):eb:=⟨Mh i,0,0,0,0,[],[]⟩
def cE.mark (i:Nat):cE:=⟨Mh i,[],0,false,0,0,0,0,false⟩
def aT.mark (i:Nat):aT:=⟨Mh i,⟨0,0,0⟩⟩
end Go.bW
end
section
open Go Go.Am Go.Proofs
namespace Go.bW
def g0:List PV:=[.str [78,76,82,84,77],.str [68,69,72,65,77],.str [83,69,71,79,84],.str [71,66,70,88,84],.str [70,82,76,69,72],.str [66,69,65,78,82]]
def g1:List PV:=[.int .i64 2,.int .i64 1,.int .i64 3]
def CW:List (List PV):=[[.str [50,50,71,49],.int .u8 20,.bool false,.bool false],[.str [50,50,82,49],.int .u8 20,.bool false,.bool true],[.str [52,50,71,49],.int .u8 40,.bool false,.bool false],[.str [52,50,82,49],.int .u8 40,.bool false,.bool true],[.str [52,53,71,49],.int .u8 40,.bool true,.bool false],[.str [52,53,82,49],.int .u8 40,.bool true,.bool true]]
def g2:List PV:=[.sl CW []]
def g4:List PV:=[.int .u8 240,.int .u8 240,.int .u8 240,.int .u8 240,.int .u8 240,.int .u8 240,.int .u8 240,.int .u8 240,.int .u8 240,.int .u8 240,.int .u8 240,.int .u8 240,.int .u8 240,.int .u8 240,.int .u8 240,.int .u8 240,.int .u8 240,.int .u8 240,.int .u8 240,.int .u8 240,.int .u8 240,.int .u8 240,.int .u8 240,.int .u8 240,.int .u8 240,.int .u8 240,.int .u8 240,.int .u8 240,.int .u8 240,.int .u8 240,.int .u8 240,.int .u8 240,.int .u8 240,.int .u8 240,.int .u8 240,.int .u8 240,.int .u8 240,.int .u8 240,.int .u8 240,.int .u8 240,.int .u8 240,.int .u8 240,.int .u8 240,.int .u8 240,.int .u8 240,.int .u8 240,.int .u8 240,.int .u8 240,.int .u8 240,.int .u8 240,.int .u8 240,.int .u8 240,.int .u8 240,.int .u8 240,.int .u8 240,.int .u8 240,.int .u8 240,.int .u8 240,.int .u8 240,.int .u8 240,.int .u8 240,.int .u8 240,.int .u8 240,.int .u8 240,.int .u8 240,.int .u8 240,.int .u8 240,.int .u8 240,.int .u8 240,.int .u8 240,.int .u8 240,.int .u8 240,.int .u8 240,.int .u8 240,.int .u8 240,.int .u8 240,.int .u8 240,.int .u8 240,.int .u8 240,.int .u8 240,.int .u8 240,.int .u8 240,.int .u8 240,.int .u8 240,.int .u8 240,.int .u8 240,.int .u8 240,.int .u8 240,.int .u8 240,.int .u8 240,.int .u8 240,.int .u8 240,.int .u8 240,.int .u8 240,.int .u8 240,.int .u8 240,.int .u8 240,.int .u8 240,.int .u8 240,.int .u8 240,.int .u8 240,.int .u8 240,.int .u8 240,.int .u8 240,.int .u8 240,.int .u8 240,.int .u8 240,.int .u8 240,.int .u8 240,.int .u8 240,.int .u8 240,.int .u8 240,.int .u8 240,.int .u8 240,.int .u8 240,.int .u8 240,.int .u8 240,.int .u8 240,.int .u8 240,.int .u8 240,.int .u8 240,.int .u8 240,.int .u8 240,.int .u8 240,.int .u8 240,.int .u8 240,.int .u8 240,.int .u8 240,.int .u8 241,.int .u8 241,.int .u8 241,.int .u8 241,.int .u8 241,.int .u8 241,.int .u8 241,.int .u8 241,.int .u8 241,.int .u8 241,.int .u8 241,.int .u8 241,.int .u8 241,.int .u8 241,.int .u8 241,.int .u8 241,.int .u8 241,.int .u8 241,.int .u8 241,.int .u8 241,.int .u8 241,.int .u8 241,.int .u8 241,.int .u8 241,.int .u8 241,.int .u8 241,.int .u8 241,.int .u8 241,.int .u8 241,.int .u8 241,.int .u8 241,.int .u8 241,.int .u8 241,.int .u8 241,.int .u8 241,.int .u8 241,.int .u8 241,.int .u8 241,.int .u8 241,.int .u8 241,.int .u8 241,.int .u8 241,.int .u8 241,.int .u8 241,.int .u8 241,.int .u8 241,.int .u8 241,.int .u8 241,.int .u8 241,.int .u8 241,.int .u8 241,.int .u8 241,.int .u8 241,.int .u8 241,.int .u8 241,.int .u8 241,.int .u8 241,.int .u8 241,.int .u8 241,.int .u8 241,.int .u8 241,.int .u8 241,.int .u8 241,.int .u8 241,.int .u8 241,.int .u8 241,.int .u8 2,.int .u8 2,.int .u8 2,.int .u8 2,.int .u8 2,.int .u8 2,.int .u8 2,.int .u8 2,.int .u8 2,.int .u8 2,.int .u8 2,.int .u8 2,.int .u8 2,.int .u8 2,.int .u8 2,.int .u8 2,.int .u8 2,.int .u8 2,.int .u8 2,.int .u8 2,.int .u8 2,.int .u8 2,.int .u8 2,.int .u8 2,.int .u8 2,.int .u8 2,.int .u8 2,.int .u8 2,.int .u8 2,.int .u8 2,.int .u8 19,.int .u8 3,.int .u8 3,.int .u8 3,.int .u8 3,.int .u8 3,.int .u8 3,.int .u8 3,.int .u8 3,.int .u8 3,.int .u8 3,.int .u8 3,.int .u8 3,.int .u8 35,.int .u8 3,.int .u8 3,.int .u8 52,.int .u8 4,.int .u8 4,.int .u8 4,.int .u8 68,.int .u8 241,.int .u8 241,.int .u8 241,.int .u8 241,.int .u8 241,.int .u8 241,.int .u8 241,.int .u8 241,.int .u8 241,.int .u8 241,.int .u8 241]
def g5:List PV:=[.int .u8 128,.int .u8 191,.int .u8 160,.int .u8 191,.int .u8 128,.int .u8 159,.int .u8 144,.int .u8 191,.int .u8 128,.int .u8 143,.int .u8 0,.int .u8 0,.int .u8 0,.int .u8 0,.int .u8 0,.int .u8 0,.int .u8 0,.int .u8 0,.int .u8 0,.int .u8 0,.int .u8 0,.int .u8 0,.int .u8 0,.int .u8 0,.int .u8 0,.int .u8 0,.int .u8 0,.int .u8 0,.int .u8 0,.int .u8 0,.int .u8 0,.int .u8 0]
def g6:List PV:=[.int .u64 1,.int .u64 10,.int .u64 100,.int .u64 1000,.int .u64 10000,.int .u64 100000,.int .u64 1000000,.int .u64 10000000,.int .u64 100000000,.int .u64 1000000000,.int .u64 10000000000,.int .u64 100000000000,.int .u64 1000000000000,.int .u64 10000000000000,.int .u64 100000000000000,.int .u64 1000000000000000,.int .u64 10000000000000000,.int .u64 100000000000000000,.int .u64 1000000000000000000,.int .u64 10000000000000000000]
def g7:List PV:=[.iface 403 (.ptr [.str [105,110,118,97,108,105,100,32,115,121,110,116,97,120]])]
def g8:List PV:=[.iface 403 (.ptr [.str [118,97,108,117,101,32,111,117,116,32,111,102,32,114,97,110,103,101]])]
def g9:List PV:=[.int .u8 0,.int .u8 1,.int .u8 28,.int .u8 2,.int .u8 29,.int .u8 14,.int .u8 24,.int .u8 3,.int .u8 30,.int .u8 22,.int .u8 20,.int .u8 15,.int .u8 25,.int .u8 17,.int .u8 4,.int .u8 8,.int .u8 31,.int .u8 27,.int .u8 13,.int .u8 23,.int .u8 21,.int .u8 19,.int .u8 16,.int .u8 7,.int .u8 26,.int .u8 12,.int .u8 18,.int .u8 6,.int .u8 11,.int .u8 5,.int .u8 10,.int .u8 9]
def g10:List PV:=[.int .u8 0,.int .u8 1,.int .u8 56,.int .u8 2,.int .u8 57,.int .u8 49,.int .u8 28,.int .u8 3,.int .u8 61,.int .u8 58,.int .u8 42,.int .u8 50,.int .u8 38,.int .u8 29,.int .u8 17,.int .u8 4,.int .u8 62,.int .u8 47,.int .u8 59,.int .u8 36,.int .u8 45,.int .u8 43,.int .u8 51,.int .u8 22,.int .u8 53,.int .u8 39,.int .u8 33,.int .u8 30,.int .u8 24,.int .u8 18,.int .u8 12,.int .u8 5,.int .u8 63,.int .u8 55,.int .u8 48,.int .u8 27,.int .u8 60,.int .u8 41,.int .u8 37,.int .u8 16,.int .u8 46,.int .u8 35,.int .u8 44,.int .u8 21,.int .u8 52,.int .u8 32,.int .u8 23,.int .u8 11,.int .u8 54,.int .u8 26,.int .u8 40,.int .u8 15,.int .u8 34,.int .u8 20,.int .u8 31,.int .u8 10,.int .u8 25,.int .u8 14,.int .u8 19,.int .u8 9,.int .u8 13,.int .u8 8,.int .u8 7,.int .u8 6]
def GG (mx:Int):Nat→Option (List PV)
 |1=>some g1
 |2=>some g2
 |3=>some [.int .i64 mx]
 |4=>some g4
 |5=>some g5
 |6=>some g6
 |9=>some g9
 |10=>some g10
 |_=>none
theorem mixed:Tryz.prog.follows .mixedOrders=true:=by kernel_rfl
end Go.bW
end
section
open Go Go.Am Go.Proofs
namespace Go.bW
variable {mx:Int}
abbrev cF (mx:Int) (accs:List Nat) (f:FuncId) (ac:cT) (cN:List RD) (nt:Nat):Prop:=gW Tryz.prog (GG mx) accs f=some (ac,cN,nt)
theorem kC {accs:List Nat} {f:FuncId} {ac:cT} {cN:List RD} {nt:Nat} (h:gW Tryz.prog (GG mx) accs f=some (ac,cN,nt):=by kernel_rfl):cF mx accs f ac cN nt:=h
abbrev pC (mx:Int) (f:FuncId) (ps:List PV) (res:PV):Prop:=ar Tryz.prog (GG mx) f ps res
def AZ (F:Ar→Prop):Prop:=∀Ki:BinOp→IntKind→Int→Int→Int,∀CX:IntKind→Int→Int→Int,∀RR:IntKind→Int→Int→Int,∀Nq:Int→Int→Bool,∀Y3:Int→Int→Bool,∀Y4:Int→Int→Bool,∀RS:Bool→Bool,∀RT:Int→Int→Int,∀RU:Int→Int→Int,∀Y5:Int→Prop,∀Kj:Int→Prop,∀Gm:Nat→Int,∀uA:List UInt8→Int,∀Kk:List UInt8→List UInt8→Prop,∀RV:Int→Int→List UInt8→Prop,∀RW:List UInt8→List UInt8→Bool,∀RX:List UInt8→List UInt8→Bool,∀A5:List (List PV)→List (List PV)→Nat→Nat→Prop,∀RY:List (List PV)→List (List PV)→Prop,∀RZ:List PV→List PV→Bool,∀Kl:List Nat→List PV→List PV→Prop,∀we:List UInt8→List (List PV),∀A6:List (List PV)→Prop,∀R0:Int→Int→List (List PV)→List (List PV)→Nat→Prop,∀Km:Int→Int→List (List PV)→Nat→Prop,∀R1:Int→Int→Nat→Prop,∀R2:List (List AV)→Int→List AV,∀R3:Int→List (List AV)→Nat→Prop,∀Kn:List (List AV)→Int→Nat→List AV→List (List AV),∀A7:List (List AV)→List (List AV)→List (List AV),∀Ko:List (List AV)→List (List AV)→Nat→Nat→Prop,∀Kp:List (List AV)→Int,∀R4:Int→Nat→Prop,∀A8:Nat→List (List PV)→List PV→Bool,∀Kq:Nat→List (List PV)→List PV→List PV→List PV,∀CY:Nat→List (List PV)→List PV→Int,∀D4:Nat→List (List PV)→List PV→List PV→List (List PV),∀A9:Nat→List (List PV)→Int→List PV→List (List PV),∀Ba:Int→List (List PV)→Prop,∀Gn:List Nat→List (List PV)→Nat→Prop,∀wg:List Nat→List (List PV)→Bool,∀Kr:Bool→Nat→List (List PV)→Nat→PV,∀Bb:Bool→Nat→List (List PV)→Nat→PV,∀Bc:List UInt8→Int→Int,∀Bd:List UInt8→Int→Int,∀Be:Int→Int→Int,aG.bits=Ki→aG.shl=CX→aG.shr=RR→aG.min=RT→aG.max=RU→aG.D9=Kj→aG.ofNat=Gm→aG.slt=RX→aG.bytes=we→aG.aat=R2→aG.ain=R3→aG.My=Kn→aG.Au=A7→aG.Cf=Ko→aG.Mz=Kp→aG.Av=A8→aG.Jj=Kq→aG.mix=CY→aG.ug=D4→aG.Jl=A9→aG.MA=Ba→aG.mleft=Gn→aG.Cg=wg→aG.MB=Kr→aG.MC=Bb→aG.rune=Bc→aG.Eb=Bd→aG.MD=Be→∀uB:Nat→List (List PV)→List PV→List PV→List (List PV),aG.Jk=uB→∀oM:Nat→List (List PV)→List PV→List PV→PV,aG.zb=oM→aG.Ji=R4→∀qh:Int→Nat→Nat,aG.off=qh→aG.Xt=R1→∀fu:Int→List PV→List (List PV),aG.Ce=fu→∀oN:List (List PV)→Int→Nat→List PV→List (List PV),aG.Mx=oN→aG.Jh=Kl→aG.XX=RZ→∀tq:List Nat→Nat→List (List PV)→List PV→Prop,aG.Ea=tq→aG.sbd=RV→∀lD:List UInt8→Int→Int→List UInt8,aG.Mw=lD→∀dy:List UInt8→List UInt8→List UInt8,aG.yI=Km→aG.Mv=Kk→aG.Mu=dy→∀eg:List (List PV)→List UInt8,aG.rW=A6→aG.gB=eg→aG.XY=R0→aG.nz=Y5→∀ga:Int→List UInt8→Prop,∀eW:Int→Int→Int,aG.mul=eW→aG.Rk=RY→∀fS:Int→Int→Int,aG.quo=fS→∀fj:List (List PV)→Int→Int→List (List PV),aG.sin=ga→∀fE:List UInt8→Int→Int,aG.sat=fE→∀eO:Int→Int→Int,aG.rem=eO→aG.wy=fj→∀cv:List (List PV)→Int,aG.po=A5→∀bs:List (List PV)→List (List PV)→List (List PV),aG.re=bs→∀b5:Int→Int→Int,aG.sub=b5→∀bg:Int→Int→Int,aG.add=bg→∀aw:IntKind→Int→Int,aG.wrap=aw→∀aI:List (List PV)→Int→List PV,aG.rat=aI→∀aL:Int→List (List PV)→Nat→Prop,aG.wx=aL→aG.yH=uA→aG.seq=RW→aG.not=RS→aG.le=Y3→aG.eq=Y4→aG.nk=cv→aG.lt=Nq→F ⟨aw,bg,b5,eW,fS,eO,Ki,CX,RR,Nq,Y3,Y4,RS,RT,RU,Y5,Kj,Gm,uA,fE,ga,dy,Kk,lD,RV,RW,RX,cv,aI,aL,bs,A5,RY,RZ,Kl,we,eg,A6,fj,R0,Km,oN,fu,R1,R2,R3,Kn,A7,Ko,Kp,qh,R4,tq,A8,Kq,oM,CY,uB,D4,A9,Ba,Gn,wg,Kr,Bb,Bc,Bd,Be⟩
theorem az {F:Ar→Prop} (h:AZ F):F aG:=h _ _ _ _ _ _ _ _ _ _ _ _ _ _ _ _ _ _ _ _ _ _ _ _ _ _ _ _ _ _ _ _ _ _ _ _ _ _ _ _ _ _ _ _ _ _ rfl rfl rfl rfl rfl rfl rfl rfl rfl rfl rfl rfl rfl rfl rfl rfl rfl rfl rfl rfl rfl rfl rfl rfl rfl rfl rfl rfl _ rfl _ rfl rfl _ rfl rfl _ rfl _ rfl rfl rfl _ rfl rfl _ rfl _ rfl rfl rfl _ rfl rfl rfl rfl _ _ rfl rfl _ rfl _ rfl _ rfl _ rfl rfl _ rfl _ rfl _ rfl _ rfl _ rfl _ rfl _ rfl rfl rfl rfl rfl rfl rfl rfl
theorem pZ {f:FuncId} {ac:cT} {cN:List RD} {nt:Nat} {ps:List PV} {res:PV} {accs:List Nat} (hc:cF mx accs f ac cN nt) (h:AZ fun A=>bA (ar Tryz.prog (GG mx)) A (bB Tryz.prog (GG mx)) [.code ac] (tj cN res) .normal (Am.start nt ps)) (hle:Nat.ble ps.length nt=true:=by exact rfl):pC mx f ps res:=
 Gk mixed hc (Nat.le_of_ble_eq_true hle) (az h:)
theorem pT {f:FuncId} {ac:cT} {cN:List RD} {nt:Nat} {ps:List PV} {res:PV} {accs:List Nat} {T:yC} (hT:∀f ac cN nt,T f=some (ac,cN,nt)→∃accs,gW Tryz.prog (GG mx) accs f=some (ac,cN,nt)) (hc:cF mx accs f ac cN nt) (h:AZ fun A=>pR (ar Tryz.prog (GG mx)) A (bB Tryz.prog (GG mx)) T→bA (ar Tryz.prog (GG mx)) A (bB Tryz.prog (GG mx)) [.code ac] (tj cN res) .normal (Am.start nt ps)) (hle:Nat.ble ps.length nt=true:=by exact rfl):pC mx f ps res:=
 Gk mixed hc (Nat.le_of_ble_eq_true hle) ((az h:) (eJ mixed hT))
end Go.bW
end
section
open Go Go.Am
namespace Go.Am
abbrev Pz (α:Type):=List Nat→α×List Nat
def dV:Pz Nat:=fun l=>match l with|[]=>(0,[])|x::r=>(x,r)
def tu:Pz Bool:=fun l=>match l with|[]=>(false,[])|x::r=>((match x with|0=>false|_=>true),r)
def Y6 {α:Type} (p:Pz α):Nat→Pz (List α)
 |0,l=>([],l)
 |n+1,l=>match p l with|(x,r)=>match Y6 p n r with|(xs,r)=>(x::xs,r)
def gb {α:Type} (p:Pz α):Pz (List α):=fun l=>match dV l with|(n,r)=>Y6 p n r
def EK {α:Type} (p:Pz α):Pz (Option α):=fun l=>match dV l with|(0,r)=>(none,r)|(_+1,r)=>match p r with|(x,r)=>(some x,r)
def R5:Pz IntKind:=fun l=>match dV l with|(0,r)=>(.i64,r)|(1,r)=>(.u8,r)|(_,r)=>(.i32,r)
def Ic:Pz BinOp:=fun l=>match dV l with|(0,r)=>(.add,r)|(1,r)=>(.mul,r)|(2,r)=>(.lss,r)|(3,r)=>(.neq,r)|(4,r)=>(.eql,r)|(5,r)=>(.geq,r)|(6,r)=>(.sub,r)|(7,r)=>(.gtr,r)|(8,r)=>(.leq,r)|(9,r)=>(.quo,r)|(10,r)=>(.shl,r)|(_,r)=>(.rem,r)
def zUn:Pz UnOp:=fun l=>match dV l with|(_,r)=>(.not,r)
def Y7:List Int:=[0,1,-1,2,7,1000003,12,65,90,5,100000000,500000,999999,85,74,48,57,11,10,9,30,31,40,20,32000,40000,2000,60,2896,2591,6,14,3,32,126,100,80,4,5000,63,43,58,39,65536,390,391,-500000,500000000,1000000000000,200,19,15,3000,393,392,52,9000,82,41,42,51,50,255,13,53]
def U5:List UInt8:=[72,69,68,78,50,71,49,82,52,53,86,79,89,66,65,80,76,67,81,77,70,83,32,39,43,58,63,48,56,85,51,57,55]
def CZ {α:Type} (z:α):List α→Nat→α
 |[],_=>z
 |x::r,n=>match n with|0=>x|m+1=>CZ z r m
def zBy:List Nat→List UInt8
 |[]=>[]
 |n::r=>CZ 0 U5 n::zBy r
def U6:Nat→Pz PV
 |0,l=>(.nj,l)
 |f+1,l=>match dV l with
  |(0,r)=>match tu r with|(b,r)=>(.bool b,r)
  |(1,r)=>match R5 r with|(k,r)=>match dV r with|(n,r)=>(.int k (CZ 0 Y7 n),r)
  |(2,r)=>match gb dV r with|(s,r)=>(.str (zBy s),r)
  |(3,r)=>(.nj,r)
  |(4,r)=>(.At,r)
  |(5,r)=>(.kT,r)
  |(6,r)=>(.pn,r)
  |(7,r)=>match dV r with|(g,r)=>match gb (U6 f) r with|(c,r)=>(.gZ g c,r)
  |(8,r)=>match gb (U6 f) r with|(c,r)=>(.agg c,r)
  |(9,r)=>(.sl [] [],r)
  |(10,r)=>match gb (gb (U6 f)) r with|(a,r)=>match gb (gb (U6 f)) r with|(b,r)=>(.sl a b,r)
  |(11,r)=>match dV r with|(t,r)=>match U6 f r with|(v,r)=>(.iface t v,r)
  |(_,r)=>match gb (U6 f) r with|(c,r)=>(.ptr c,r)
def zP:Pz PV:=U6 9
def cB (p:Nat):Pz bN:=fun l=>match dV l with
 |(0,r)=>match zP r with|(p,r)=>(.k p,r)
 |(1,r)=>match gb zP r with|(p,r)=>(.g p,r)
 |(2,r)=>(.t p,r)
 |(3,r)=>(.t (p-1),r)
 |(4,r)=>(.t (p-2),r)
 |(5,r)=>(.t (p-3),r)
 |(n+6,r)=>(.t n,r)
def Y8 (p:Nat):Pz (Nat×Nat×bN):=fun l=>match dV l with|(a,r)=>match dV r with|(b,r)=>match cB p r with|(x,r)=>((a,b,x),r)
def zOp (p:Nat):Nat→Pz yB:=fun t r=>match t with
 |0=>match cB p r with|(x0,r)=>(.mv x0,r)
 |1=>match cB p r with|(x0,r)=>match EK dV r with|(x1,r)=>(.ld x0 x1,r)
 |2=>match cB p r with|(x0,r)=>(.Xi x0,r)
 |3=>match cB p r with|(x0,r)=>match dV r with|(x1,r)=>(.pad x0 x1,r)
 |4=>match Ic r with|(x0,r)=>match cB p r with|(x1,r)=>match cB p r with|(x2,r)=>(.bin x0 x1 x2,r)
 |5=>match cB p r with|(x0,r)=>match dV r with|(x1,r)=>(.ext x0 x1,r)
 |6=>match cB p r with|(x0,r)=>(.len x0,r)
 |7=>match cB p r with|(x0,r)=>match cB p r with|(x1,r)=>match dV r with|(x2,r)=>(.idx x0 x1 x2,r)
 |8=>match dV r with|(x0,r)=>match gb (cB p) r with|(x1,r)=>(.call x0 x1,r)
 |9=>match cB p r with|(x0,r)=>match cB p r with|(x1,r)=>match dV r with|(x2,r)=>(.st x0 x1 x2,r)
 |10=>match dV r with|(x0,r)=>match gb (cB p) r with|(x1,r)=>(.TK x0 x1,r)
 |11=>match gb zP r with|(x0,r)=>match gb (Y8 p) r with|(x1,r)=>(.mk x0 x1,r)
 |12=>match dV r with|(x0,r)=>match cB p r with|(x1,r)=>match EK (cB p) r with|(x2,r)=>match EK (cB p) r with|(x3,r)=>(.Mr x0 x1 x2 x3,r)
 |13=>match dV r with|(x0,r)=>match dV r with|(x1,r)=>match cB p r with|(x2,r)=>match cB p r with|(x3,r)=>(.app x0 x1 x2 x3,r)
 |14=>match R5 r with|(x0,r)=>match cB p r with|(x1,r)=>(.Xj x0 x1,r)
 |15=>match cB p r with|(x0,r)=>match dV r with|(x1,r)=>(.box x0 x1,r)
 |16=>match gb zP r with|(x0,r)=>(.alloc x0,r)
 |17=>match cB p r with|(x0,r)=>match dV r with|(x1,r)=>match EK dV r with|(x2,r)=>(.TV x0 x1 x2,r)
 |18=>match zUn r with|(x0,r)=>match cB p r with|(x1,r)=>(.un x0 x1,r)
 |19=>match cB p r with|(x0,r)=>(.lens x0,r)
 |20=>match cB p r with|(x0,r)=>match cB p r with|(x1,r)=>match cB p r with|(x2,r)=>(.pick x0 x1 x2,r)
 |21=>match dV r with|(x0,r)=>match gb (cB p) r with|(x1,r)=>(.dB x0 x1,r)
 |22=>match Ic r with|(x0,r)=>match gb dV r with|(x1,r)=>match cB p r with|(x2,r)=>match cB p r with|(x3,r)=>(.beq x0 x1 x2 x3,r)
 |23=>match Ic r with|(x0,r)=>match cB p r with|(x1,r)=>match cB p r with|(x2,r)=>(.D5 x0 x1 x2,r)
 |24=>match Ic r with|(x0,r)=>match cB p r with|(x1,r)=>match cB p r with|(x2,r)=>(.D6 x0 x1 x2,r)
 |25=>match cB p r with|(x0,r)=>(.XW x0,r)
 |26=>match cB p r with|(x0,r)=>(.Xk x0,r)
 |27=>match cB p r with|(x0,r)=>(.Ri x0,r)
 |28=>match dV r with|(x0,r)=>match cB p r with|(x1,r)=>(.Xl x0 x1,r)
 |29=>match dV r with|(x0,r)=>match gb (cB p) r with|(x1,r)=>(.TL x0 x1,r)
 |30=>match dV r with|(x0,r)=>match dV r with|(x1,r)=>match gb zP r with|(x2,r)=>match cB p r with|(x3,r)=>match cB p r with|(x4,r)=>(.TN x0 x1 x2 x3 x4,r)
 |31=>match cB p r with|(x0,r)=>match EK (cB p) r with|(x1,r)=>match EK (cB p) r with|(x2,r)=>(.ud x0 x1 x2,r)
 |32=>match cB p r with|(x0,r)=>match cB p r with|(x1,r)=>match dV r with|(x2,r)=>match dV r with|(x3,r)=>(.TO x0 x1 x2 x3,r)
 |33=>match cB p r with|(x0,r)=>match cB p r with|(x1,r)=>(.TP x0 x1,r)
 |34=>match cB p r with|(x0,r)=>match gb (cB p) r with|(x1,r)=>(.Ca x0 x1,r)
 |35=>match tu r with|(x0,r)=>match cB p r with|(x1,r)=>match cB p r with|(x2,r)=>(.TQ x0 x1 x2,r)
 |36=>match dV r with|(x0,r)=>match gb (cB p) r with|(x1,r)=>(.D7 x0 x1,r)
 |37=>match dV r with|(x0,r)=>match gb (cB p) r with|(x1,r)=>(.TR x0 x1,r)
 |38=>match dV r with|(x0,r)=>match cB p r with|(x1,r)=>match cB p r with|(x2,r)=>(.Ms x0 x1 x2,r)
 |39=>match cB p r with|(x0,r)=>(.TS x0,r)
 |40=>match cB p r with|(x0,r)=>match dV r with|(x1,r)=>(.TT x0 x1,r)
 |41=>match cB p r with|(x0,r)=>match cB p r with|(x1,r)=>match dV r with|(x2,r)=>(.TU x0 x1 x2,r)
 |42=>match tu r with|(x0,r)=>match Ic r with|(x1,r)=>match cB p r with|(x2,r)=>match cB p r with|(x3,r)=>(.Cb x0 x1 x2 x3,r)
 |43=>match tu r with|(x0,r)=>match tu r with|(x1,r)=>match dV r with|(x2,r)=>(.TW x0 x1 x2,r)
 |44=>(.Xm,r)
 |45=>match tu r with|(x0,r)=>match gb dV r with|(x1,r)=>match dV r with|(x2,r)=>match cB p r with|(x3,r)=>match cB p r with|(x4,r)=>match cB p r with|(x5,r)=>(.Rj x0 x1 x2 x3 x4 x5,r)
 |46=>match tu r with|(x0,r)=>match gb dV r with|(x1,r)=>match zP r with|(x2,r)=>match cB p r with|(x3,r)=>match cB p r with|(x4,r)=>(.uC x0 x1 x2 x3 x4,r)
 |47=>match dV r with|(x0,r)=>match cB p r with|(x1,r)=>match cB p r with|(x2,r)=>match cB p r with|(x3,r)=>(.Cc x0 x1 x2 x3,r)
 |48=>match tu r with|(x0,r)=>match gb dV r with|(x1,r)=>match zP r with|(x2,r)=>match tu r with|(x3,r)=>match cB p r with|(x4,r)=>match cB p r with|(x5,r)=>(.Mt x0 x1 x2 x3 x4 x5,r)
 |49=>match cB p r with|(x0,r)=>(.Xn x0,r)
 |50=>match cB p r with|(x0,r)=>(.Xo x0,r)
 |51=>match cB p r with|(x0,r)=>(.Xp x0,r)
 |52=>match cB p r with|(x0,r)=>(.Xq x0,r)
 |53=>match cB p r with|(x0,r)=>(.HR x0,r)
 |54=>match cB p r with|(x0,r)=>(.HS x0,r)
 |55=>match cB p r with|(x0,r)=>(.D8 x0,r)
 |56=>match dV r with|(x0,r)=>match gb zP r with|(x1,r)=>(.uf x0 x1,r)
 |57=>match cB p r with|(x0,r)=>(.Xr x0,r)
 |58=>match dV r with|(x0,r)=>match dV r with|(x1,r)=>match cB p r with|(x2,r)=>(.Xs x0 x1 x2,r)
 |59=>match Ic r with|(x0,r)=>match cB p r with|(x1,r)=>match cB p r with|(x2,r)=>(.pp x0 x1 x2,r)
 |60=>match cB p r with|(x0,r)=>(.TX x0,r)
 |61=>match dV r with|(x0,r)=>match cB p r with|(x1,r)=>match cB p r with|(x2,r)=>(.TY x0 x1 x2,r)
 |_=>match dV r with|(x0,r)=>match cB p r with|(x1,r)=>match cB p r with|(x2,r)=>(.Cd x0 x1 x2,r)
def zAI (prev:Nat):Pz AI:=fun l=>match dV l with
 |(h,r)=>match h%3 with
  |0=>match zOp prev (h/3) r with|(o,r)=>(⟨some (prev+1),o,none⟩,r)
  |1=>match zOp prev (h/3) r with|(o,r)=>(⟨none,o,none⟩,r)
  |_=>match dV r with|(d,r)=>match dV r with|(g,r)=>match zOp prev (h/3) r with|(o,r)=>(⟨(match d with|0=>none|n+1=>some n),o,(match g with|0=>none|n+1=>some (n/2,(match n%2 with|0=>false|_=>true)))⟩,r)
def Y9:Nat→Nat→Pz (List AI)
 |0,_,l=>([],l)
 |n+1,prev,l=>match zAI prev l with|(x,r)=>match Y9 n (match x.d with|some d=>d|none=>prev) r with|(xs,r)=>(x::xs,r)
def xA:Nat→Pz cT
 |0,l=>(.skip,l)
 |f+1,l=>match dV l with
  |(0,r)=>(.skip,r)
  |(1,r)=>match dV r with|(n,r)=>match Y9 n 0 r with|(o,r)=>match EK (gb (gb dV)) r with|(t,r)=>(.vJ o t,r)
  |(2,r)=>match xA f r with|(a,r)=>match xA f r with|(b,r)=>(.seq a b,r)
  |(3,r)=>match cB 0 r with|(c,r)=>match xA f r with|(a,r)=>match xA f r with|(b,r)=>(.cond c a b,r)
  |(4,r)=>match dV r with|(i,r)=>match xA f r with|(b,r)=>(.block i b,r)
  |(5,r)=>match xA f r with|(b,r)=>(.loop b,r)
  |(6,r)=>match dV r with|(i,r)=>(.exit i,r)
  |(_,r)=>(.ret,r)
def zT1:List (List Nat):=[[2],[0,2],[3],[5]]
def zT2:List (List (List Nat)):=[[[0],[9],[11],[14],[4],[1],[12],[7],[8],[6],[3,2],[23],[13],[24],[4,2],[0,0,1]],[[17],[1,2],[0,7],[10],[2,1],[0,2,1],[26],[22],[15],[0,3],[18],[16],[2,2],[60],[20],[0,1]],[[0,1,0],[0,0],[30],[21],[0,0,2],[0,9],[19],[5,2],[27],[6,2],[0,2,0,7],[6,5],[0,0,1,0,0],[2,0],[29],[33]],[[56],[3,2,1],[0,11],[31],[32],[0,2,2,1],[28],[47],[50],[0,2,2],[0,6],[36],[90],[0,1,2],[0,1,1],[0,2,0,2,1]],[[18,2,12],[7,2],[7,6],[2,1,1,2,5],[35],[3,2,0],[39],[4,5],[16,15],[0,1,0,0],[45],[10,9],[4,3,2],[12,11],[25],[2,5]],[[0,0,1,0,0,1],[37],[0,12],[4,3,2,0,1],[54],[28,2],[0,0,0,0,0,7],[0,2,3],[2,1,0],[4,3],[8,7],[2,0,0],[2,1,1,2,3],[8,7,6,5],[0,1,3,2],[19,18]],[[18,2],[34],[28,27],[14,13],[4,1],[2,4,2],[2,1,3],[0,0,0,1],[25,24],[8,7,6],[1,1],[0,0,1,0,0,0,4,0],[4,0,2],[0,10],[2,1,2,2],[2,1,1,2]],[[9,2],[42],[2,1,1],[5,4],[2,0,14],[2,3,2],[11,10],[57],[11,10,9],[0,1,0,1,2],[0,0,0,0],[38],[5,6],[79],[0,15],[12,0,2,0,1,0,1,2]],[[1,5],[0,0,0,0,0,2,1],[40],[41],[48],[22,21,20,17,16,15,4,3,0,2,1,14,13,8,7,5,6,12,11,9,10,19,18],[3,2,0,0],[2,1,2],[3,2,0,12],[5,4,3,0,2,1],[2,0,2],[2,0,11],[0,1,0,1],[21,20],[5,4,3],[62]],[[21,3,2],[4,3,1,0,2],[43],[2,0,3],[7,6,5],[9,8,7],[5,2,2,1],[46],[64],[9,8],[3,2,1,0,9],[1,1,2],[52],[11,12],[13,12,11],[2,14]],[[0,8],[13,12],[63],[3,2,0,24],[0,6,0,2,4,1,2,1],[44],[9,1],[5,4,3,1,0,2],[53],[14,13,12],[55],[51],[21,20,17,16,15,4,3,0,2,1,14,13,8,7,5,6,12,11,9,10,19,18],[17,16,15],[49],[4,3,0,2,1]]]
def zT3:List (List (List Nat)):=[[[68],[102],[0,4],[9,10],[4,3,0,2,1,14,13,8,7,5,6,12,11,9,10],[66],[78],[87],[59],[80],[67],[12,0,2],[58],[93],[136],[12,11,9,10]],[[83],[65],[72],[0,6,0,2,4,1],[92],[106],[85],[74],[76],[99],[61],[77],[84],[71],[104],[69]],[[73],[75],[131],[81],[96],[101],[8,7,5,6],[17,16,15,4,3,0,2,1,14,13,8,7,5,6,12,11,9,10],[1,0,2],[86],[186],[302],[240],[147],[82],[108]],[[121],[98],[91],[94],[170],[244],[135],[120],[134],[162],[0,0,1,0,0,0,4],[103],[124],[70],[89],[227]],[[149],[112],[122],[329],[144],[95],[17,16,15,4,3,0,2,1,14,13,8,7,5,6,12,11,9,10,19,18],[125],[88],[168],[117],[213],[137],[105],[126],[155]],[[97],[0,6,0,2],[109],[110],[258],[160],[114],[129],[115],[212],[179],[148],[123],[128],[127],[150]],[[237],[171],[146],[197],[243],[154],[153],[107],[119],[140],[194],[141],[185],[180],[100],[132]],[[133],[142],[156],[285],[111],[139],[145],[118],[190],[254],[166],[167],[163],[261],[169],[161]],[[217],[116],[283],[138],[183],[178],[276],[309],[204],[187],[228],[189],[275],[164],[165],[159]],[[172],[157],[259],[130],[216],[287],[206],[113],[177],[175],[176],[195],[278],[311],[305],[268]],[[293],[330],[331],[332],[328],[319],[320],[292],[230],[233],[229],[231],[232],[234],[235],[236]],[[269],[306],[271],[270],[307],[273],[272],[274],[308],[188],[191],[192],[193],[255],[256],[262]],[[196],[314],[279],[257],[260],[295],[239],[241],[152],[158],[242],[286],[219],[218],[220],[221]],[[205],[207],[208],[214],[215],[327],[316],[284],[209],[210],[211],[238],[294],[174],[151],[173]],[[181],[182],[198],[199],[250],[249],[184],[277],[310],[312],[313],[326]]]
def zW (k:List Nat):Nat→Nat→List Nat
 |0,_=>k
 |_,1=>k
 |f+1,n=>match Nat.blt (n%16) 4 with
  |true=>CZ [] zT1 (n%16)++zW k f (n/16)
  |false=>match Nat.blt (n%16) 15 with
   |true=>CZ [] (CZ [] zT2 (n%16-4)) (n/16%16)++zW k f (n/256)
   |false=>CZ [] (CZ [] zT3 (n/16%16)) (n/256%16)++zW k f (n/4096)
def Za:List Nat→List Nat
 |[]=>[]
 |n::r=>zW (Za r) 9999 n
def dc (n:List Nat):cT:=(xA 300 (Za n)).1
def dL (n:List Nat) {c:cT} (_:dc n=c:=by cbv):cT:=c
end Go.Am
end
