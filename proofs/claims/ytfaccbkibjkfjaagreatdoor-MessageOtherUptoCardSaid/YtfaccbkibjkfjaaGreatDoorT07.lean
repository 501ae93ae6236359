import Derived.ChangeShapes
import Derived.OpenShut
import Derived.OpenVars
import Derived.Carry
import Derived.ChangeSame
import Derived.RowKit
import Derived.Test.YtfaccbkibjkfjaaGreatDoorProg
import Derived.Test.YtfaccbkibjkfjaaGreatDoorT06
set_option linter.all false
set_option maxRecDepth 100000
set_option maxHeartbeats 1000000
section
namespace Go.Am
def uD (P:Program):ResultVar→Option RD
 |.tmp t=>some (.tmp t)
 |.cell a t=>match ey P t with
  |some true=>match dK P t with|some n=>some (.cell a (some n))|none=>none
  |some false=>some (.cell a none)
  |none=>none
def fe (P:Program):List ResultVar→Option (List RD)
 |[]=>some []
 |x::r=>match uD P x with
  |some d=>match fe P r with|some ds=>some (d::ds)|none=>none
  |none=>none
def fN (eF:List RD) (st:St):Option PV:=
 match mN st eF with
 |some vs=>match lS st.mem (one? vs)with|some (p,_)=>some p|none=>none
 |none=>none
def rQ (eF:List RD) (res:PV):Ex→St→Prop
 |.exit _,_=>False
 |_,st=>fN eF st=some res
def start (nt:Nat) (ps:List PV):St:=⟨ps.map .pv++List.replicate (nt-ps.length) .dead,[],0,List.replicate nt none⟩
section
variable {P:Program} {w0:World} {own0:Nat→Prop} {hvs:List Value×List Deferred} {G:Nat→Option (List PV)} {S0:Nat→Prop} {γ:Nat→Option Nat} {S:Nat→Prop} {st:St} {a:Act} {w:World}
 (h:dW w0 own0 hvs G γ S st a w)
include h
theorem L9 {r:ResultVar} {d:RD} {v:AV} (hd:uD P r=some d) (hv:Lx st d=some v):
  ∃u,((match r with|.tmp t=>pure (a.tmps.getD t undef)|.cell x t=>do loadVar t (←asAddr (a.tmps.getD x undef)):Sem Value)).run P w=.ok u w∧lF S w (Ref γ S w st.mem) v u:=by
 cases r with
 |tmp t=>
  simp only[uD,qaa]at hd;subst hd;simp only[Lx,qaa]at hv;subst hv;exact⟨_,Sem.run_pure _ _ _,h.slot t⟩
 |cell x t=>
  simp only[uD]at hd
  have hx:∃g n,d=.cell x n∧ey P t=some g∧(match g with|true=>∃m,dK P t=some m∧n=some m|false=>n=none):=by
   split at hd
   ·rename_i hg;split at hd
    ·rename_i n hn;simp only[qaa]at hd;exact⟨true,some n,hd.symm,hg,n,hn,rfl⟩
    ·cases hd
   ·rename_i hg;simp only[qaa]at hd;exact⟨false,none,hd.symm,hg,rfl⟩
   ·cases hd
  obtain⟨g,n,rfl,hg,hn⟩:=hx;simp only[Lx]at hv;split at hv
  ·rename_i id off hs;split at hv
   ·rename_i cs hm;have hp:=h.slot x;rw[hs]at hp;simp only[lF,Ref,hm]at hp;obtain⟨b,hb,hp⟩:=hp;obtain⟨b',c,e,fP,hc,dH,WG⟩:=h.mem id _ hm;rw[hb]at fP;cases fP
    have hca:At w b=some c:=by simp[At,hc]
    simp only[hp,asAddr,Sem.run_bind,Sem.run_pure,Result.andThen_ok]
    cases g with
    |false=>
     simp only at hn;subst hn;simp only[js]at hv;split at hv
     ·rename_i v' hl;split at hl
      ·rename_i p WO;simp only[Out.val.injEq]at hl;subst hl;simp only[qaa]at hv;subst hv;obtain⟨u,hu,LQ⟩:=bB.get WG.1 WO;rw[qaA]at hu;exact⟨u,kH hg hca hu,LQ⟩
      ·cases hl
     ·cases hv
    |true=>
     simp only at hn;obtain⟨m,yi,rfl⟩:=hn;simp only[js]at hv;split at hv
     ·rename_i v' hl;split at hl
      ·rename_i hle;simp only[Out.val.injEq]at hl;subst hl;simp only[qaa]at hv;subst hv;obtain⟨vs,h1,h2,h3⟩:=bB.list ((WG.1.drop off).take m);rw[qaA]at h3
       have hlen:vs.length=m:=by rw[h2];simp;omega
       exact⟨_,kI hg yi hca hlen h3,by simp only[lF];exact⟨vs,rfl,h1⟩⟩
      ·cases hl
     ·cases hv
   ·cases hv
  ·cases hv
theorem vM:∀{l:List ResultVar} {ds:List RD} {vs:List AV},fe P l=some ds→mN st ds=some vs→
  ∃us:List Value,(l.mapM fun r=>(match r with|.tmp t=>pure (a.tmps.getD t undef)|.cell x t=>do loadVar t (←asAddr (a.tmps.getD x undef)):Sem Value)).run P w=.ok us w∧au S w (Ref γ S w st.mem) vs us
 |[],ds,vs,hd,hv=>by
  simp only[fe,qaa]at hd;subst hd;simp only[mN,qaa]at hv;subst hv;exact⟨[],by simp,by simp only[au]⟩
 |r::l,ds,vs,hd,hv=>by
  simp only[fe]at hd;split at hd
  ·rename_i d hd1;split at hd
   ·rename_i ds' um;simp only[qaa]at hd;subst hd;simp only[mN]at hv;split at hv
    ·rename_i v Ma;split at hv
     ·rename_i vs' gh;simp only[qaa]at hv;subst hv;obtain⟨u,h1,h2⟩:=L9 h hd1 Ma;obtain⟨us,h3,h4⟩:=vM um gh;refine⟨u::us,?_,by simp only[au];exact⟨u,us,rfl,h2,h4⟩⟩;simp only[List.mapM_cons,Sem.run_bind,h1,Result.andThen_ok,h3,Sem.run_pure]
     ·cases hv
    ·cases hv
   ·cases hd
  ·cases hd
theorem vN {fn:Func} {ds:List RD} {v:AV} (hd:fe P fn.results.toList=some ds) (hv:lT ds st=some v):
  ∃u,(results fn a.tmps).run P w=.ok u w∧lF S w (Ref γ S w st.mem) v u:=by
 unfold lT at hv;split at hv
 ·rename_i vs hvs;simp only[qaa]at hv;subst hv;obtain⟨us,h1,h2⟩:=vM h hd hvs
  have dD:(results fn a.tmps).run P w=.ok (if hh:us.toArray.size=1 then us.toArray[0]else .tuple us.toArray) w:=by
   have e:fn.results=fn.results.toList.toArray:=by simp
   unfold results;rw[e,List.mapM_toArray];simp only[Sem.run_bind,Sem.run_map,Sem.run_pure,map_eq_pure_bind];exact congrArg (fun r=>Result.andThen (Result.andThen r (fun(a:List Value) w'=>.ok a.toArray w')) (fun a w'=>.ok (if h:a.size=1 then a[0]else Value.tuple a) w')) h1
  rcases vs with _|⟨x,_|⟨y,z⟩⟩
  ·simp only[au]at h2;subst h2;exact⟨.tuple #[],by rw[dD];simp,by simp only[one?,lF];exact⟨[],by simp,by simp only[au]⟩⟩
  ·simp only[au]at h2;obtain⟨u,r,rfl,h3,rfl⟩:=h2;exact⟨u,by rw[dD];simp,h3⟩
  ·have hlen:us.length≠1:=by
    simp only[au]at h2;obtain⟨_,_,rfl,_,_,_,rfl,_⟩:=h2;simp
   exact⟨.tuple us.toArray,by rw[dD];simp[hlen],by simp only[one?,lF];exact⟨us,rfl,h2⟩⟩
 ·cases hv
theorem vO {fn:Func} {ds:List RD} {res:PV} (hd:fe P fn.results.toList=some ds) (hv:fN ds st=some res):
  ∃v b,(results fn a.tmps).run P w=.ok v w∧aD (cV γ S b) w res v:=by
 unfold fN at hv;split at hv
 ·rename_i vs hvs;split at hv
  ·rename_i p b hl;simp only[qaa]at hv;subst hv;obtain⟨u,h1,h2⟩:=vN h hd (v:=one? vs) (by unfold lT;rw[hvs]);exact⟨u,b,h1,x9 h hl h2⟩
  ·cases hv
 ·cases hv
end
section
variable {P:Program} {G:Nat→Option (List PV)} {accs:List Nat}
theorem xD {nt:Nat} {ps:List PV} {S:Nat→Prop} {w:World} {ρ:AV→Value→Prop}:∀{vs:List Value},aM S w ps vs→∀(n i:Nat),lF S w ρ ((ps.map AV.pv++List.replicate n AV.dead).getD i AV.dead) ((vs.toArray++Array.replicate n undef).getD i undef):=by
 induction ps with
 |nil=>
  intro vs h n i;simp only[aM]at h;subst h
  have:(List.map AV.pv []++List.replicate n AV.dead).getD i .dead=.dead:=by
   simp only[qaF,qbi,qab,qbD];split<;>rfl
  rw[this];simp only[lF]
 |cons p ps ih=>
  intro vs h n i;simp only[aM]at h;obtain⟨v,r,rfl,h1,h2⟩:=h
  cases i with
  |zero=>
   have e:((v::r).toArray++Array.replicate n undef).getD 0 undef=v:=by simp[qaJ,Array.getElem?_append]
   rw[e];simp only[qaj,qaN,qc7,lF];exact h1
  |succ i=>
   have:=ih h2 n i
   have e:((v::r).toArray++Array.replicate n undef).getD (i+1) undef=(r.toArray++Array.replicate n undef).getD i undef:=by
    rw[qaJ,qaJ];simp only[←qbc,Array.toList_append,qaN,qcF]
   rw[e];simpa only[qaj,qaN,List.getD_cons_succ]using this
theorem aM.uE {S:Nat→Prop} {w:World} {ps:List PV} {vs:List Value} (h:aM S w ps vs):vs.length=ps.length:=by
 have:=aM.length h;omega
theorem Bq (hm:P.follows .mixedOrders=true) {f:FuncId} {fn:Func} {c:Code} {ac:cf} {eF:List RD} {nt:Nat} (hf:P.funcs[f]? =some fn) (hb:fn.body=some c) (hn:(fn.name== "runtime.NumGoroutine")=false)
  (hc:bD P G accs c=some ac) (hr:fe P fn.results.toList=some eF) (Ds:fn.ntmps=nt) {ps:List PV} {res:PV} (mE:ps.length≤nt)
  (h:bH (CC P G) aF (Hf P G) [.code ac] (rQ eF res) .normal (start nt ps)):bE P G f ps res:=by
 intro S w vs hS hG eQ;have hlen:=aM.uE eQ;unfold dN
 have bN:(callFunc f vs.toArray).run P w=.ok (.enter f vs.toArray) w:=by
  have uF:¬fn.name= "runtime.NumGoroutine" :=by simpa using hn
  simp[callFunc,run_program,hf,uF,hb]
 rw[bN];simp only;refine qdc hf hb ?_
 have jq:ft w (fun _=>False) ([],[]) G S (start nt ps) {tmps:=vs.toArray++Array.replicate (fn.ntmps-vs.toArray.size) undef,defers:=[]} w:=by
  have vJ:∀id,aj (start nt ps).mem id=none:=by
   intro id;simp only[start,aj,qab,qbD];split<;>rfl
  refine⟨fun _=>none,S,fun _ h=>h,fun _ h=>.inl h,{size:=?_,slot:=?_,held:=?_,defers:=rfl,mem:=?_,lU:=?_,inj:=?_,own:=?_,bound:=hS,eJ:=?_,jn:=hG,kept:=fun _ _ _=>rfl,os:=rfl,tape:=rfl,output:=rfl,eY:=qak _}⟩
  ·simp[start,hlen,Ds]
  ·intro i;have:=xD (nt:=nt) (ρ:=Ref (fun _=>none) S w (start nt ps).mem) eQ (nt-ps.length) i;rw[Ds];simpa[start,St.slot,hlen]using this
  ·simp only[start,au]
  ·intro id ob bL;rw[vJ id]at bL;cases bL
  ·intro i b hb;cases hb
  ·intro i j b hb;cases hb
  ·intro i b hb;cases hb
  ·intro i b hb;cases hb
 refine nH hm c hc jq (Qa:=rQ eF res) h ?_;intro e st' a' w' er hq;obtain⟨γ,S',bg,Cy,ke⟩:=er
 have key:fN eF st'=some res→a'.defers=[]∧∃v,(results fn a'.tmps).run P w'=.ok v w'∧∃v',Ending.returned v=.returned v'∧(RowKit.Below w.heap.size w w'∧aD (fun b=>S b∨(w.heap.size≤b∧b<w'.heap.size)) w' res v'):=by
  intro hq;obtain⟨v,b,h1,h2⟩:=vO ke hr hq;refine⟨ke.defers,v,h1,v,rfl,⟨ke.os,ke.tape,ke.output,ke.eY,fun k hk=>ke.kept k hk (fun h=>h)⟩,?_⟩;refine aD.later (fun k hk=>⟨?_,rfl,rfl⟩) _ h2
  rcases hk with hk|⟨_,i,hk⟩
  ·rcases Cy k hk with h3|h3|h3
   ·exact .inl h3
   ·exact .inr ⟨h3,ke.bound k hk⟩
   ·exact h3.elim
  ·rcases(ke.own i k hk).2 with h3|h3
   ·exact .inr ⟨h3,ke.eJ i k hk⟩
   ·exact h3.elim
 cases e with
 |normal=>exact key hq
 |ret=>exact key hq
 |exit id=>exact hq.elim
def E1 (eF:List RD) (res:PV) (e:Ex) (st:St):Prop:=∃s',Fg st s'∧rQ eF res e s'
theorem zj (hm:P.follows .mixedOrders=true) {f:FuncId} {fn:Func} {c:Code} {ac:cf} {eF:List RD} {nt:Nat} (hf:P.funcs[f]? =some fn) (hb:fn.body=some c) (hn:(fn.name== "runtime.NumGoroutine")=false)
  (hc:bD P G accs c=some ac) (hr:fe P fn.results.toList=some eF) (Ds:fn.ntmps=nt) {ps:List PV} {res:PV} (mE:ps.length≤nt)
  (h:bH (CC P G) aF (Hf P G) [.code ac] (E1 eF res) .normal (start nt ps)):bE P G f ps res:=by
 intro S w vs hS hG eQ;have hlen:=aM.uE eQ;unfold dN
 have bN:(callFunc f vs.toArray).run P w=.ok (.enter f vs.toArray) w:=by
  have uF:¬fn.name= "runtime.NumGoroutine" :=by simpa using hn
  simp[callFunc,run_program,hf,uF,hb]
 rw[bN];simp only;refine qdc hf hb ?_
 have jq:ft w (fun _=>False) ([],[]) G S (start nt ps) {tmps:=vs.toArray++Array.replicate (fn.ntmps-vs.toArray.size) undef,defers:=[]} w:=by
  have vJ:∀id,aj (start nt ps).mem id=none:=by
   intro id;simp only[start,aj,qab,qbD];split<;>rfl
  refine⟨fun _=>none,S,fun _ h=>h,fun _ h=>.inl h,{size:=?_,slot:=?_,held:=?_,defers:=rfl,mem:=?_,lU:=?_,inj:=?_,own:=?_,bound:=hS,eJ:=?_,jn:=hG,kept:=fun _ _ _=>rfl,os:=rfl,tape:=rfl,output:=rfl,eY:=qak _}⟩
  ·simp[start,hlen,Ds]
  ·intro i;have:=xD (nt:=nt) (ρ:=Ref (fun _=>none) S w (start nt ps).mem) eQ (nt-ps.length) i;rw[Ds];simpa[start,St.slot,hlen]using this
  ·simp only[start,au]
  ·intro id ob bL;rw[vJ id]at bL;cases bL
  ·intro i b hb;cases hb
  ·intro i j b hb;cases hb
  ·intro i b hb;cases hb
  ·intro i b hb;cases hb
 refine nH hm c hc jq (Qa:=E1 eF res) h ?_;intro e st' a' w' er hq;obtain⟨s2,K5,hq⟩:=hq;obtain⟨γ,S',bg,Cy,ke⟩:=mo K5 er
 have key:fN eF s2=some res→a'.defers=[]∧∃v,(results fn a'.tmps).run P w'=.ok v w'∧∃v',Ending.returned v=.returned v'∧(RowKit.Below w.heap.size w w'∧aD (fun b=>S b∨(w.heap.size≤b∧b<w'.heap.size)) w' res v'):=by
  intro hq;obtain⟨v,b,h1,h2⟩:=vO ke hr hq;refine⟨ke.defers,v,h1,v,rfl,⟨ke.os,ke.tape,ke.output,ke.eY,fun k hk=>ke.kept k hk (fun h=>h)⟩,?_⟩;refine aD.later (fun k hk=>⟨?_,rfl,rfl⟩) _ h2
  rcases hk with hk|⟨_,i,hk⟩
  ·rcases Cy k hk with h3|h3|h3
   ·exact .inl h3
   ·exact .inr ⟨h3,ke.bound k hk⟩
   ·exact h3.elim
  ·rcases(ke.own i k hk).2 with h3|h3
   ·exact .inr ⟨h3,ke.eJ i k hk⟩
   ·exact h3.elim
 cases e with
 |normal=>exact key hq
 |ret=>exact key hq
 |exit id=>exact hq.elim
end
end Go.Am
end
section
namespace Go.Am
theorem rR:∀{mem:List (Option Obj)},pD mem=true→∀i,aj mem i=none
 |[],_,i=>by simp[aj]
 |none::r,h,i=>by
  cases i with
  |zero=>simp[aj]
  |succ i=>have:=rR (mem:=r) (by simpa only[pD]using h) i;simpa[aj]using this
 |some _::_,h,_=>by simp[pD]at h
theorem oU (n:Nat) (mem:List (Option Obj)) (i:Nat):aj (AR n mem) i=aj mem i:=by
 unfold AR;split
 ·rename_i h;unfold aj
  by_cases hi:i<n
  ·simp[qab,qch,hi]
  ·have:=rR h (i-n);unfold aj at this;simp only[qab,List.getElem?_drop,show n+(i-n)=i by omega]at this;simp[qab,qch,hi];rw[this]
 ·rfl
section
variable {S:Nat→Prop} {w:World} {ρ:AV→Value→Prop}
theorem au.vP:∀{xs:List AV} {vs:List Value},xs.length=vs.length→(∀i,lF S w ρ (xs.getD i .dead) (vs.getD i undef))→au S w ρ xs vs
 |[],[],_,_=>by simp only[au]
 |x::xs,v::vs,hl,h=>by
  simp only[au];exact⟨v,vs,rfl,by simpa using h 0,au.vP (by simpa using hl) (fun i=>by simpa using h (i+1))⟩
 |[],_::_,hl,_=>by simp at hl
 |_::_,[],hl,_=>by simp at hl
theorem au.slots:∀{xs:List AV} {vs:List Value},au S w ρ xs vs→∀i,lF S w ρ (xs.getD i .dead) (vs.getD i undef)
 |[],vs,h,i=>by simp only[au]at h;subst h;simp only[List.getD_nil,lF]
 |x::xs,vs,h,i=>by
  simp only[au]at h;obtain⟨v,r,rfl,h1,h2⟩:=h
  cases i with
  |zero=>simpa using h1
  |succ i=>simpa using au.slots h2 i
theorem au.XZ (n:Nat):au S w ρ (List.replicate n .dead) (List.replicate n undef):=by
 induction n with
 |zero=>simp only[List.replicate_zero,au]
 |succ n ih=>simp only[qcZ,au];exact⟨_,_,rfl,by simp only[lF],ih⟩
theorem au.cut {xs:List AV} {us vs:List Value} (h:au S w ρ xs (us++vs)):au S w ρ (xs.take us.length) us∧au S w ρ (xs.drop us.length) vs:=by
 have hl:=au.length h
 have h':au S w ρ (xs.take us.length++xs.drop us.length) (us++vs):=by rw[qbR];exact h
 obtain⟨u,v,he,h1,h2⟩:=au.split h';have Zo:=au.length h1;simp only[qal]at hl
 have:u.length=us.length:=by rw[Zo,qaT];omega
 obtain⟨rfl,rfl⟩:=List.append_inj he this.symm;exact⟨h1,h2⟩
end
def gF (P:Program) (G:Nat→Option (List PV)) (accs:List Nat) (f:FuncId):Option (cf×List RD×Nat):=
 match P.funcs[f]? with
 |none=>none
 |some fn=>match fn.body with
  |none=>none
  |some c=>match fn.name== "runtime.NumGoroutine" with
   |true=>none
   |false=>match bD P G accs c with
    |none=>none
    |some ac=>match fe P fn.results.toList with
     |none=>none
     |some eF=>some (ac,eF,fn.ntmps)
theorem acy {P:Program} {G:Nat→Option (List PV)} {accs:List Nat} {f:FuncId} {ac:cf} {eF:List RD} {nt:Nat} (h:gF P G accs f=some (ac,eF,nt)):
  ∃fn c,P.funcs[f]? =some fn∧fn.body=some c∧(fn.name== "runtime.NumGoroutine")=false∧bD P G accs c=some ac∧fe P fn.results.toList=some eF∧fn.ntmps=nt:=by
 unfold gF at h;split at h
 ·cases h
 ·rename_i fn HL;split at h
  ·cases h
  ·rename_i c hc;split at h
   ·cases h
   ·rename_i hn;split at h
    ·cases h
    ·rename_i ac' hac;split at h
     ·cases h
     ·rename_i rds' hr;simp only[qaa,qas]at h;obtain⟨rfl,rfl,rfl⟩:=h;exact⟨fn,c,HL,hc,hn,hac,hr,rfl⟩
theorem E2 {P:Program} {G:Nat→Option (List PV)} {accs:List Nat} {f:FuncId} {ac:cf} {eF:List RD} {nt:Nat} (hm:P.follows .mixedOrders=true) (h:gF P G accs f=some (ac,eF,nt)) {ps:List PV} {res:PV} (mE:ps.length≤nt)
  (hw:bH (CC P G) aF (Hf P G) [.code ac] (rQ eF res) .normal (start nt ps)):bE P G f ps res:=by
 obtain⟨fn,c,h1,h2,h3,h4,h5,h6⟩:=acy h;exact Bq hm h1 h2 h3 h4 h5 h6 mE hw
theorem IM {P:Program} {G:Nat→Option (List PV)} {accs:List Nat} {f:FuncId} {ac:cf} {eF:List RD} {nt:Nat} (hm:P.follows .mixedOrders=true) (h:gF P G accs f=some (ac,eF,nt)) {ps:List PV} {res:PV} (mE:ps.length≤nt)
  (hw:bH (CC P G) aF (Hf P G) [.code ac] (E1 eF res) .normal (start nt ps)):bE P G f ps res:=by
 obtain⟨fn,c,h1,h2,h3,h4,h5,h6⟩:=acy h;exact zj hm h1 h2 h3 h4 h5 h6 mE hw
theorem IP {P:Program} {G:Nat→Option (List PV)} {accs:List Nat} {f:FuncId} {ac:cf} {eF:List RD} {nt:Nat} (hm:P.follows .mixedOrders=true) (h:gF P G accs f=some (ac,eF,nt)) {args:List AV} {st:St} {K:AV→St→Prop}
  (hw:fw (CC P G) aF (Hf P G) ac (enter nt args st) (u0 eF st.slots.length st.base K)):Hf P G f args st K:=by
 obtain⟨fn,c,hf,hb,hn,hc,hr,Ds⟩:=acy h;intro w0 own0 hvs S0 γ S a w vs bg Cy jq eQ;have hlen:=au.length eQ;unfold dN
 have bN:(callFunc f vs.toArray).run P w=.ok (.enter f vs.toArray) w:=by
  have uF:¬fn.name= "runtime.NumGoroutine" :=by simpa using hn
  simp[callFunc,run_program,hf,uF,hb]
 rw[bN];simp only;refine qdc hf hb ?_
 have W9:∀i,aj (st.mem++List.replicate nt none) i=aj st.mem i:=by
  intro i;unfold aj
  by_cases hi:i<st.mem.length
  ·simp[qab,qaQ hi]
  ·simp[qab,qaV (qby hi),qa0 (qby hi),qbD];split<;>rfl
 have hρ:∀x v,Ref γ S w st.mem x v→Ref γ S w (st.mem++List.replicate nt none) x v:=
  Ref.later (bf.refl S w) (fun id ob hm=>⟨by rw[W9];exact hm,rfl,fun _ _=>⟨rfl,rfl⟩⟩)
 have vK:au S w (Ref γ S w st.mem) st.slots a.tmps.toList:=au.vP (by simpa using jq.size) (fun i=>by
  have:=jq.slot i
  simpa only[St.slot,qaJ,qab,qbc]using this)
 have hE:ft w0 own0 (a.tmps.toList++hvs.1,[]) G S0 (enter nt args st) {tmps:=vs.toArray++Array.replicate (fn.ntmps-vs.toArray.size) undef,defers:=[]} w:=by
  refine⟨γ,S,bg,Cy,{jq with size:=?_,slot:=?_,held:=?_,defers:=rfl,mem:=?_,lU:=?_}⟩
  ·simp[enter,hlen,Ds]
  ·intro i;have h1:au S w (Ref γ S w (enter nt args st).mem) (args++List.replicate (nt-args.length) .dead) (vs++List.replicate (nt-args.length) undef):=au.append (au.later (bf.refl S w) hρ _ eQ) (au.XZ _);have:=au.slots h1 i;simpa[enter,St.slot,hlen,Ds,qab,qaJ,←qbc]using this
  ·exact au.later (bf.refl S w) hρ _ (au.append vK jq.held)
  ·intro id ob hm;simp only[enter]at hm;rw[W9]at hm;exact eK.later (bf.refl S w) hρ rfl (fun _ _=>rfl) (jq.mem id ob hm)
  ·intro i b hb;simp only[enter];rw[W9];exact jq.lU i b hb
 refine nH hm c hc hE hw ?_;intro e st' a' w' er hq;obtain⟨γ',S',Xa,Xd,ke⟩:=er
 have key:(match lT eF st' with|some v=>K v (leave st.slots.length st.base st')|none=>False)→a'.defers=[]∧∃v,(results fn a'.tmps).run P w'=.ok v w'∧∃v',Ending.returned v=.returned v'∧
   ∃r afW γ' S',K r afW∧(∀b,S0 b→S' b)∧(∀b,S' b→S0 b∨w0.heap.size≤b∨own0 b)∧dW w0 own0 hvs G γ' S' afW a w'∧lF S' w' (Ref γ' S' w' afW.mem) r v':=by
  intro hq;split at hq
  ·rename_i v hv;obtain⟨u,h1,h2⟩:=vN ke hr hv
   have hρ':∀x v,Ref γ' S' w' st'.mem x v→Ref γ' S' w' (AR st'.base st'.mem) x v:=
    Ref.later (bf.refl S' w') (fun id ob hm=>⟨by rw[oU];exact hm,rfl,fun _ _=>⟨rfl,rfl⟩⟩)
   have Br:=au.later (bf.refl S' w') hρ' _ ke.held;obtain⟨c1,c2⟩:=au.cut Br
   have X0:a.tmps.toList.length=st.slots.length:=by simpa using jq.size.symm
   rw[X0]at c1 c2;have Zo:=au.length c1;refine⟨ke.defers,u,h1,u,rfl,v,_,γ',S',hq,Xa,Xd,{ke with size:=?_,slot:=?_,held:=c2,defers:=jq.defers,mem:=?_,lU:=?_},lF.later (bf.refl S' w') hρ' _ h2⟩
   ·simp only[leave];simpa using Zo.symm
   ·intro i;have:=au.slots c1 i;simpa only[leave,St.slot,qaJ,qab,qbc]using this
   ·intro id ob hm;simp only[leave]at hm;rw[oU]at hm;exact eK.later (bf.refl S' w') hρ' rfl (fun _ _=>rfl) (ke.mem id ob hm)
   ·intro i b hb;simp only[leave];rw[oU];exact ke.lU i b hb
  ·exact hq.elim
 cases e with
 |normal=>exact key hq
 |ret=>exact key hq
 |exit id=>exact hq.elim
theorem eM {P:Program} {G:Nat→Option (List PV)} (hm:P.follows .mixedOrders=true) {T:Mj} (hT:∀f ac eF nt,T f=some (ac,eF,nt)→∃accs,gF P G accs f=some (ac,eF,nt)):oI (CC P G) aF (Hf P G) T:=by
 intro f ac eF nt ht args st K hw;obtain⟨accs,h⟩:=hT f ac eF nt ht;exact IP hm h hw
def vQ:Mj:=fun _=>none
end Go.Am
end
section
namespace Go.Am
theorem yt {C:CT} {A:Ar} {I:IC}:oI C A I vQ:=by
 intro f ac eF nt ht;cases ht
theorem aiZ {C:CT} {A:Ar} {I:IC} {Q:Ex→St→Prop} {x r:bp} (h:x=r) (hr:r.holds C A I Q):x.holds C A I Q:=h▸hr
theorem go {P:Program} {G:Nat→Option (List PV)} {A:Ar} {Q:Ex→St→Prop} {is:List Item} {st:St} (n:Nat) {r:bp} (h:run A vQ false n is st=r) (hr:r.holds (CC P G) A (Hf P G) Q):
  bH (CC P G) A (Hf P G) is Q .normal st:=pF (Hf.mono P G) yt n r h hr
theorem go1 {P:Program} {G:Nat→Option (List PV)} {A:Ar} {Q:Ex→St→Prop} {b:cf} {st:St} (n:Nat) {r:bp} (h:run A vQ false n [.code b] st=r) (hr:r.holds (CC P G) A (Hf P G) Q):
  fw (CC P G) A (Hf P G) b st Q:=pF (Hf.mono P G) yt (is:=[.code b]) n r h hr
theorem tS (P:Program) (G:Nat→Option (List PV)):Gv (Hf P G):=Hf.mono P G
theorem QH {P:Program} {G:Nat→Option (List PV)} {A:Ar} {Q:Ex→St→Prop} {b:cf} {st0:St} {α:Type} (dp:α→St→St) (J:α→Prop) (μ:α→Nat) (a0:α) (hf:Fg st0 (dp a0 st0)) (hj:J a0)
  (h:∀a,J a→fw (CC P G) A (Hf P G) b (dp a st0) (fun e s'=>match e with|.normal=>∃a',J a'∧μ a'<μ a∧Fg s' (dp a' st0)|e=>Q e s')):
  fw (CC P G) A (Hf P G) (.loop b) st0 Q:=by
 refine HW (tS P G) (fun n s=>∃a,J a∧n=μ a∧s=dp a st0) ⟨_,_,hf,a0,hj,rfl,rfl⟩ ?_;rintro n s ⟨a,ha,rfl,rfl⟩;refine fC (tS P G) b ?_ (h a ha);intro e s' er
 cases e with
 |normal=>
  obtain⟨a',h1,h2,h3⟩:=er;exact⟨_,_,h2,h3,a',h1,rfl,rfl⟩
 |ret=>exact er
 |exit id=>exact er
theorem X3 {P:Program} {G:Nat→Option (List PV)} {A:Ar} {Q:Ex→St→Prop} {b:cf} {st0:St} (dp:Nat→St→St) (n:Nat) (ok:Nat→Prop) (hf:Fg st0 (dp 0 st0))
  (h:∀v:Nat,v≤n→(∀k,k<v→ok k)→fw (CC P G) A (Hf P G) b (dp v st0) (fun e s'=>match e with|.normal=>v<n∧ok v∧Fg s' (dp (v+1) st0)|e=>Q e s')):
  fw (CC P G) A (Hf P G) (.loop b) st0 Q:=by
 refine QH (α:=Nat) dp (fun v=>v≤n∧∀k,k<v→ok k) (fun v=>n-v) 0 hf ⟨qcK _,fun k hk=>absurd hk (Nat.not_lt_zero _)⟩ ?_;rintro v ⟨hv,hk⟩;refine fC (tS P G) b ?_ (h v hv hk);intro e s' er
 cases e with
 |normal=>
  obtain⟨h1,h2,h3⟩:=er;refine⟨v+1,⟨by omega,fun k eR=>?_⟩,by omega,h3⟩
  by_cases e:k=v
  ·subst e;exact h2
  ·exact hk k (by omega)
 |ret=>exact er
 |exit id=>exact er
def de (C:CT) (A:Ar) (I:IC) (is:List Item) (Q:Ex→St→Prop) (N:St→Prop):Ex→St→Prop
 |.normal,s=>N s
 |.ret,s=>match kb is with
  |some ((eF,n,base,d),r)=>u0 eF n base (fun v s'=>bH C A I r Q .normal (s'.put d v)) .ret s
  |none=>Q .ret s
 |.exit id,s=>match exitTo id is with
  |some r=>bH C A I r Q .normal s
  |none=>qf id is=true∧Q (.exit id) s
theorem de.norm {C:CT} {A:Ar} {I:IC} {is:List Item} {Q:Ex→St→Prop} {N:St→Prop} {s:St} (h:N s):de C A I is Q N .normal s:=h
theorem de.oV {C:CT} {A:Ar} {I:IC} {is:List Item} {Q:Ex→St→Prop} {N:St→Prop} {s:St} (hr:kb is=none) (h:Q .ret s):de C A I is Q N .ret s:=by
 simp only[de,hr];exact h
theorem de.X4 {C:CT} {A:Ar} {I:IC} {is r:List Item} {Q:Ex→St→Prop} {N:St→Prop} {s:St} {id:Nat} (hr:exitTo id is=some r) (h:bH C A I r Q .normal s):de C A I is Q N (.exit id) s:=by
 simp only[de,hr];exact h
theorem ta {C:CT} {A:Ar} {I:IC} {is:List Item} {Q:Ex→St→Prop} {N:St→Prop} {s:St} (h:N s):(bp.fin .normal s).holds C A I (de C A I is Q N):=h
theorem ff {C:CT} {A:Ar} {I:IC} {is:List Item} {Q:Ex→St→Prop} {N:St→Prop} {s:St} (hr:kb is=none) (h:Q .ret s):(bp.fin .ret s).holds C A I (de C A I is Q N):=de.oV (N:=N) hr h
theorem wW {C:CT} {A:Ar} {I:IC} {is r:List Item} {Q:Ex→St→Prop} {N:St→Prop} {s:St} {id:Nat} (hr:exitTo id is=some r) (h:bH C A I r Q .normal s):(bp.fin (.exit id) s).holds C A I (de C A I is Q N):=de.X4 (N:=N) hr h
theorem aN {α:Type} {enc:α→List PV} {l:List α} {v:Nat} (h:v<l.length):aF.rat (l.map enc) (Int.ofNat v)=enc l[v]:=by
 simp[aF,h]
theorem aO {α:Type} {enc:α→List PV} {l:List α} {v:Nat} (h:v<l.length) {sz:Nat} (hs:(enc l[v]).length=sz):aF.tu (Int.ofNat v) (l.map enc) sz:=by
 have:=aN (enc:=enc) h;simp only[aF]at this ⊢;refine⟨by simp,by simpa using h,by rw[this];exact hs⟩
theorem jJ {P:Program} {G:Nat→Option (List PV)} {A:Ar} {Q:Ex→St→Prop} {b:cf} {st0:St} {is:List Item} (dp:Nat→St→St) (n:Nat) (ok:Nat→Prop) (hf:Fg st0 (dp 0 st0))
  (h:∀v:Nat,v≤n→(∀k,k<v→ok k)→fw (CC P G) A (Hf P G) b (dp v st0) (de (CC P G) A (Hf P G) is Q (fun s'=>v<n∧ok v∧Fg s' (dp (v+1) st0)))):
  (bp.loop b st0 is).holds (CC P G) A (Hf P G) Q:=by
 refine X3 dp n ok hf ?_;intro v hv hk;refine fC (tS P G) b ?_ (h v hv hk);intro e s' er
 cases e with
 |normal=>exact er
 |ret=>show bH _ _ _ is Q .ret s';rw[jv];simp only[de]at er;exact er
 |exit id=>
  simp only[de]at er;split at er
  ·rename_i r hr;exact iq id is Q s' r hr er
  ·exact acx id is Q s' er.1 er.2
theorem bp.af {C:CT} {A:Ar} {I:IC} {Q:Ex→St→Prop} {c:Bool} {a b:bp} (ht:c=true→a.holds C A I Q) (hf:c=false→b.holds C A I Q):(match c with|true=>a|false=>b).holds C A I Q:=by
 cases c
 ·exact hf rfl
 ·exact ht rfl
@[simp] theorem ade {a b:Int}:aF.lt a b=decide (a<b):=rfl
@[simp] theorem agR {a b:Int}:aF.le a b=decide (a≤b):=rfl
@[simp] theorem std_eq {a b:Int}:aF.eq a b=decide (a=b):=rfl
@[simp] theorem X5 {r:List (List PV)}:aF.mi r=r.length:=rfl
@[simp] theorem X6 {r:List UInt8}:aF.wY r=r.length:=rfl
theorem ao {P:Program} {G:Nat→Option (List PV)} {A:Ar} {Q:Ex→St→Prop} {f:FuncId} {args:List AV} {d:Option Nat} {st:St} {is:List Item} {ps:List PV} {b:Bool} {res:PV} (h:dB st.mem args=some (ps,b)) (hc:bE P G f ps res) (hb:b=true→res.jf=true)
  (hk:bH (CC P G) A (Hf P G) is Q .normal (st.put d (.pv res))):(bp.call f args d st is).holds (CC P G) A (Hf P G) Q:=.inl ⟨ps,b,res,h,hc,hb,hk⟩
theorem bF {P:Program} {G:Nat→Option (List PV)} {A:Ar} {Q:Ex→St→Prop} {f:FuncId} {args:List AV} {d:Option Nat} {st:St} {is:List Item} {ps:List PV} {b:Bool} {res:PV} (h:dB st.mem args=some (ps,b)) (hc:bE P G f ps res) (hb:b=true→res.jf=true)
  (hk:bH (CC P G) A (Hf P G) is Q .normal (st.put d (.pv res))):(bp.afq f args d st is).holds (CC P G) A (Hf P G) Q:=.inl ⟨ps,b,res,h,hc,hb,hk⟩
theorem ae {C:CT} {A:Ar} {I:IC} {Q:Ex→St→Prop} {p:Prop} {st:St} {is:List Item} (hp:p) (h:bH C A I is Q .normal st):(bp.pre p st is).holds C A I Q:=⟨hp,h⟩
def ints (ps:List Int):List (List PV):=ps.map fun p=>[.int .i64 p]
theorem gv {ps:List Int} {j:Int} (h0:0≤j) (h1:j<ps.length):aF.rat (ints ps) j=[.int .i64 (ps.getD j.toNat 0)]:=by
 have:j.toNat<ps.length:=by omega
 simp[aF,ints,qab,this]
theorem gW {ps:List Int} {j:Int} (h0:0≤j) (h1:j<ps.length):aF.tu j (ints ps) 1:=by
 have:=gv h0 h1;simp only[aF]at this ⊢;refine⟨h0,by simpa[ints]using h1,by rw[this];rfl⟩
theorem wrap64 {n:Int} (h0: -9223372036854775808≤n) (h1:n<9223372036854775808):aF.wrap .i64 n=n:=by
 have e1:(2:Int)^IntKind.i64.bits=18446744073709551616:=by decide
 have e2:(2:Int)^(IntKind.i64.bits-1)=9223372036854775808:=by decide
 simp only[aF];unfold IntKind.wrap;simp only[e1,e2];have hs:IntKind.i64.signed=true:=rfl
 by_cases hn:0≤n
 ·rw[qdq hn (by omega),qai (by simp[hs];omega)]
 ·have:n%18446744073709551616=n+18446744073709551616:=by omega
  rw[this,qao (by simp[hs];omega)];omega
theorem kY {v:Nat} (h:v<2^62):aF.wrap .i64 (aF.add (Int.ofNat v) 1)=Int.ofNat (v+1):=by
 rw[wrap64]<;>simp[aF]<;>omega
def St.tidy (s:St) (ks:List Nat) (src:List (Option Nat)):St:=(s.norm.mj src).sM ks
theorem Fg.ca {s s':St} (ks:List Nat) (src:List (Option Nat)) (hn:jN src=true) (h:s.tidy ks src=s'):Fg s s':=h▸Fg.trans (Fg.norm s) (Fg.trans (Fg.mj _ src hn) (Fg.sM _ ks))
theorem run_eq {C:CT} {A:Ar} {I:IC} {Q:Ex→St→Prop} {B:Ar} {T:Mj} {U:Bool} {n:Nat} {is:List Item} {st:St} {r:bp} (h:run B T U n is st=r) (hr:r.holds C A I Q):(run B T U n is st).holds C A I Q:=h▸hr
@[simp] theorem kT {a b:Int}:aF.add a b=a+b:=rfl
@[simp] theorem iQ {a b:Int}:aF.sub a b=a-b:=rfl
@[simp] theorem E3 {a b:Int}:aF.mul a b=a*b:=rfl
@[simp] theorem std_quo {a b:Int}:aF.quo a b=a.tdiv b:=rfl
@[simp] theorem E4 {a b:Int}:aF.rem a b=a.tmod b:=rfl
@[simp] theorem n9 {k:IntKind} {a:Int}:aF.wrap k a=k.wrap a:=rfl
@[simp] theorem std_not {a:Bool}:aF.not a= !a:=rfl
@[simp] theorem std_nz {a:Int}:aF.nz a=(a≠0):=rfl
@[simp] theorem X7 {a:Int}:aF.CY a=(0≤a):=rfl
@[simp] theorem WU {a:Nat}:aF.ofNat a=a:=rfl
@[simp] theorem X8 {a b:List UInt8}:aF.Lm a b=a++b:=rfl
@[simp] theorem X9 {a b:List UInt8}:aF.Ln a b=(a.length+b.length≤9223372036854775807):=rfl
@[simp] theorem std_seq {a b:List UInt8}:aF.seq a b=decide (a=b):=rfl
@[simp] theorem dj {a b:List (List PV)}:aF.oi a b=a++b:=rfl
@[simp] theorem Ya {a b:List (List PV)} {n sz:Nat}:aF.oj a b n sz=((a.length+b.length+256)*n≤2^46∧a.length+b.length≤2^46∧fS sz b∧aK sz a):=rfl
@[simp] theorem aeg {a b:List (List PV)}:aF.Qn a b=(a=[]∨b≠[]):=rfl
@[simp] theorem std_mkp {l c:Int} {b:Nat}:aF.WD l c b=(0≤l∧l≤c∧c*b≤2^47∧c≤2^47):=rfl
@[simp] theorem Yb {n:Int} {z:List PV}:aF.AK n z=List.replicate n.toNat z:=rfl
@[simp] theorem gX {r:List (List PV)} {l h:Int}:aF.uS r l h=(r.drop l.toNat).take (h.toNat-l.toNat):=rfl
@[simp] theorem std_rbd {l h:Int} {r s:List (List PV)} {sz:Nat}:aF.Xg l h r s sz=(0≤l∧l≤h∧h≤r.length+s.length∧(l=0∨aK sz (r++s))):=rfl
@[simp] theorem Yc {l h:Int} {r:List (List PV)} {sz:Nat}:aF.wZ l h r sz=(0≤l∧l≤h∧h≤r.length∧(l=0∨aK sz r)):=rfl
theorem dy {n:Int} (h0: -9223372036854775808≤n) (h1:n<9223372036854775808):IntKind.i64.wrap n=n:=wrap64 h0 h1
@[simp] theorem one_int {k:IntKind} {n:Int}:(AV.pv (.int k n)).one=true:=rfl
@[simp] theorem Yd {b:Bool}:(AV.pv (.bool b)).one=true:=rfl
@[simp] theorem one_str {b:List UInt8}:(AV.pv (.str b)).one=true:=rfl
@[simp] theorem one_sl {r s:List (List PV)}:(AV.pv (.sl r s)).one=true:=rfl
@[simp] theorem aic {n:Nat}:aK n []:=by simp[aK]
@[simp] theorem cN {n:Nat} {r:List PV} {rs:List (List PV)}:aK n (r::rs)↔r.length=n∧aK n rs:=by simp[aK]
@[simp] theorem K8 {n:Nat} {a b:List (List PV)}:aK n (a++b)↔aK n a∧aK n b:=by
 simp only[aK,qav];exact⟨fun h=>⟨fun r hr=>h r (.inl hr),fun r hr=>h r (.inr hr)⟩,fun h r hr=>hr.elim (h.1 r) (h.2 r)⟩
@[simp] theorem aid {n:Nat}:fS n []:=by simp[fS]
@[simp] theorem QI {n:Nat} {r:List PV} {rs:List (List PV)}:fS n (r::rs)↔(r.length=n∧∀p∈r,(AV.pv p).one=true)∧fS n rs:=by simp[fS]
theorem Kh {α:Type} {enc:α→List PV} {n:Nat} (h:∀x,(enc x).length=n) (l:List α):aK n (l.map enc):=by
 intro r hr;obtain⟨x,_,rfl⟩:=qaw.1 hr;exact h x
theorem iX {α:Type} {enc:α→List PV} {n:Nat} (h:∀x,(enc x).length=n∧∀p∈enc x,(AV.pv p).one=true) (l:List α):fS n (l.map enc):=by
 intro r hr;obtain⟨x,_,rfl⟩:=qaw.1 hr;exact h x
@[simp] theorem QJ {l:List Int}:aK 1 (ints l):=Kh (enc:=fun p=>[.int .i64 p]) (fun _=>rfl) l
@[simp] theorem QK {l:List Int}:fS 1 (ints l):=iX (enc:=fun p=>[.int .i64 p]) (fun _=>⟨rfl,by simp⟩) l
@[simp] theorem QL {l:List Int}:(ints l).length=l.length:=by simp[ints]
@[simp] theorem Ye:ints []=[]:=rfl
@[simp] theorem QM {a b:List Int}:ints (a++b)=ints a++ints b:=by simp[ints]
theorem vR {P:Program} {G:Nat→Option (List PV)} {A:Ar} {Q:Ex→St→Prop} {f:FuncId} {args:List AV} {d:Option Nat} {st:St} {is:List Item} {ps:List PV} {b:Bool} {k:IntKind} {x0:Int} (h:dB st.mem args=some (ps,b)) (hc:bE P G f ps (.int k x0)) (hb:b=true→(.int k x0:PV).jf=true)
  (hk:∀(x:Int),x0=x→bH (CC P G) A (Hf P G) is Q .normal (st.put d (.pv (.int k x)))):(bp.call f args d st is).holds (CC P G) A (Hf P G) Q:=ao h hc hb (hk x0 rfl)
end Go.Am
namespace Go.Am
@[simp] theorem std_peq {a b:List PV}:aF.Xf a b=JK a b:=rfl
@[simp] theorem Yh {sh:List Nat} {a b:List PV}:aF.HP sh a b=aR sh a b:=rfl
@[simp] theorem std_rat {r:List (List PV)} {n:Int}:aF.rat r n=r.getD n.toNat []:=rfl
@[simp] theorem std_slt {a b:List UInt8}:aF.slt a b=Op.bytesLess a b:=rfl
@[simp] theorem std_min {a b:Int}:aF.min a b=if b<a then b else a:=rfl
@[simp] theorem std_max {a b:Int}:aF.max a b=if b>a then b else a:=rfl
@[simp] theorem std_sat {s:List UInt8} {j:Int}:aF.sat s j=((s.getD j.toNat 0).toNat:Nat):=rfl
@[simp] theorem std_sin {s:List UInt8} {j:Int}:aF.sin j s=(0≤j∧j<s.length):=rfl
@[simp] theorem Yi {s:List UInt8} {l h:Int}:aF.Lp s l h=(s.drop l.toNat).take (h.toNat-l.toNat):=rfl
@[simp] theorem std_sbd {s:List UInt8} {l h:Int}:aF.sbd l h s=(0≤l∧l≤h∧h≤s.length):=rfl
theorem cU {P:Program} {G:Nat→Option (List PV)} {A:Ar} {Q:Ex→St→Prop} {f:FuncId} {args:List AV} {d:Option Nat} {st:St} {is:List Item} {ps:List PV} {b:Bool} {x0:Bool} (h:dB st.mem args=some (ps,b)) (hc:bE P G f ps (.bool x0))
  (ht:x0=true→bH (CC P G) A (Hf P G) is Q .normal (st.put d (.pv (.bool true)))) (hf:x0=false→bH (CC P G) A (Hf P G) is Q .normal (st.put d (.pv (.bool false)))):(bp.call f args d st is).holds (CC P G) A (Hf P G) Q:=ao h hc (fun _=>rfl) (by cases x0;exact hf rfl;exact ht rfl)
theorem gG {P:Program} {G:Nat→Option (List PV)} {A:Ar} {Q:Ex→St→Prop} {f:FuncId} {args:List AV} {d:Option Nat} {st:St} {is:List Item} {ps:List PV} {b:Bool} {x0:Bool} (h:dB st.mem args=some (ps,b)) (hc:bE P G f ps (.bool x0))
  (ht:x0=true→bH (CC P G) A (Hf P G) is Q .normal (st.put d (.pv (.bool true)))) (hf:x0=false→bH (CC P G) A (Hf P G) is Q .normal (st.put d (.pv (.bool false)))):(bp.afq f args d st is).holds (CC P G) A (Hf P G) Q:=bF h hc (fun _=>rfl) (by cases x0;exact hf rfl;exact ht rfl)
theorem oW {C:CT} {A:Ar} {I:IC} {eF:List RD} {res:PV} {s:St} (h:fN eF s=some res):(bp.fin .ret s).holds C A I (rQ eF res):=h
end Go.Am
end
section
namespace Go.Am
theorem goT {P:Program} {G:Nat→Option (List PV)} {A:Ar} {T:Mj} {U:Bool} {Q:Ex→St→Prop} {is:List Item} {st:St} (hT:oI (CC P G) A (Hf P G) T) (n:Nat) {r:bp} (h:run A T U n is st=r) (hr:r.holds (CC P G) A (Hf P G) Q):
  bH (CC P G) A (Hf P G) is Q .normal st:=pF (Hf.mono P G) hT n r h hr
theorem agS {P:Program} {G:Nat→Option (List PV)} {A:Ar} {T:Mj} {U:Bool} {Q:Ex→St→Prop} {b:cf} {st:St} (hT:oI (CC P G) A (Hf P G) T) (n:Nat) {r:bp} (h:run A T U n [.code b] st=r) (hr:r.holds (CC P G) A (Hf P G) Q):
  fw (CC P G) A (Hf P G) b st Q:=pF (Hf.mono P G) hT (is:=[.code b]) n r h hr
end Go.Am
end
section
namespace Go.Am
mutual
def sV {H:Type}:DataW H→List PV
 |.lit (.bool b)=>[.bool b]
 |.lit (.int k n)=>[.int k n]
 |.lit (.string s)=>[.str s]
 |.lit _=>[]
 |.nil=>[.sl [] []]
 |.ptr _=>[]
 |.slice es sp=>[.sl (iY es) (iY sp)]
 |.agg parts=>oc parts
 |.iface _ _=>[]
 |.map _=>[]
 |.held _=>[]
def iY {H:Type}:List (DataW H)→List (List PV)
 |[]=>[]
 |d::ds=>sV d::iY ds
def oc {H:Type}:List (DataW H)→List PV
 |[]=>[]
 |d::ds=>sV d++oc ds
end
theorem jT {H:Type}:∀(l:List (DataW H)),iY l=l.map sV
 |[]=>by simp[iY]
 |d::ds=>by simp[iY,jT ds]
structure Dt (H:Type) where
 bk:DataW H→Nat
 al:List (DataW H)→Nat
 one:∀d,1≤bk d
 cons:∀x r,al (x::r)=bk x+al r
 slice:∀es sp,al es+al sp+1≤bk (.slice es sp)
 agg:∀ps,al ps≤bk (.agg ps)
 str:∀s,s.length≤bk (.lit (.string s))
theorem Dt.le {H:Type} (k:Dt H):∀{l:List (DataW H)} {d:DataW H},d∈l→k.bk d≤k.al l
 |[],_,h=>by cases h
 |x::r,d,h=>by
  rw[k.cons]
  cases h with
  |head=>omega
  |tail _ h=>have:=k.le h;omega
theorem Dt.len {H:Type} (k:Dt H):∀(l:List (DataW H)),l.length≤k.al l
 |[]=>by simp
 |x::r=>by
  rw[k.cons];have:=k.len r;have:=k.one x;simp only[qaq];omega
inductive Sh where
 |b
 |i (k:IntKind)
 |s
 |l (row:List Sh)
mutual
def K9 (B:Nat):Sh→PV→Prop
 |.b,p=>∃x,p=.bool x
 |.i k,p=>∃n,p=.int k n∧(Lit.int k n).wf=true
 |.s,p=>∃x,p=.str x∧x.length≤B
 |.l row,p=>∃rows spare,p=.sl rows spare∧rows.length+spare.length≤B∧(∀r∈rows,iR B row r)∧(∀r∈spare,iR B row r)
def iR (B:Nat):List Sh→List PV→Prop
 |[],ps=>ps=[]
 |s::ss,ps=>∃p r,ps=p::r∧K9 B s p∧iR B ss r
end
theorem iR.length {B:Nat}:∀{ss:List Sh} {ps:List PV},iR B ss ps→ps.length=ss.length
 |[],ps,h=>by simp only[iR]at h;simp[h]
 |s::ss,ps,h=>by
  simp only[iR]at h;obtain⟨p,r,rfl,_,h⟩:=h;simp[iR.length h]
theorem iR.append {B:Nat}:∀{ss tt:List Sh} {ps qs:List PV},iR B ss ps→iR B tt qs→iR B (ss++tt) (ps++qs)
 |[],tt,ps,qs,h,h'=>by simp only[iR]at h;simpa[h]using h'
 |s::ss,tt,ps,qs,h,h'=>by
  simp only[iR]at h;obtain⟨p,r,rfl,hp,h⟩:=h;simp only[qaN,iR];exact⟨p,r++qs,rfl,hp,iR.append h h'⟩
def IU (P:Program) (f:TypeId→Option (List Sh)):Nat→List Field→Option (List Sh)
 |_,[]=>some []
 |off,x::xs=>match f x.type with
  |none=>none
  |some row=>match x.offset==off&&row.length==P.cellsOf x.type with
   |false=>none
   |true=>match IU P f (off+row.length) xs with
    |none=>none
    |some r=>some (row++r)
def mY (P:Program):Nat→TypeId→Option (List Sh)
 |0,_=>none
 |n+1,t=>match P.underlying t with
  |some .bool=>some [.b]
  |some (.int k)=>some [.i k]
  |some .string=>some [.s]
  |some (.slice e)=>match mY P n e with
   |none=>none
   |some row=>match row.length==P.cellsOf e&&decide (0<row.length)with
    |false=>none
    |true=>some [.l row]
  |some (.struct fs)=>match IU P (mY P n) 0 fs.toList with
   |none=>none
   |some row=>match row.length==P.cellsOf t with
    |false=>none
    |true=>some row
  |some (.array m e)=>match mY P n e with
   |none=>none
   |some row=>match row.length==P.cellsOf e&&m*row.length==P.cellsOf t with
    |false=>none
    |true=>some (List.replicate m row).flatten
  |_=>none
section
variable {H:Type} {enc:TypeId×Value→H} {P:Program} {w:World} {held:Bool}
theorem vS {w:World} {a:Addr} {v:Value} (h:w.cell? a=some v):a.spot=none∧a.block<w.heap.size∧∃c,At w a.block=some c∧c[a.off]? =some v:=by
 unfold World.cell? at h;unfold At;split at h
 ·rename_i c t f hc;split at h
  ·cases h
  ·rename_i hs;refine⟨by simpa using hs,?_,c,by rw[hc],h⟩;exact(qaK.1 hc).1
 ·cases h
theorem mZ (k:Dt H) (B:Nat):∀(fuel n:Nat) (t:TypeId) (row:List Sh) (cs:List Value) (d:DataW H) (ps:List MemPlace),mY P n t=some row→DataW.trod enc P w 0 (fun _=>true) held fuel t cs=some (d,ps)→k.bk d≤B→
  aM (fun b=>b<w.heap.size) w (sV d) cs∧iR B row (sV d):=by
 intro fuel
 induction fuel with
 |zero=>intro n t row cs d ps _ h;simp[DataW.trod]at h
 |succ fuel ih=>
  intro n t row cs d ps hs h hb
  cases n with
  |zero=>simp[mY]at hs
  |succ n=>
   unfold mY at hs;split at hs
   ·rename_i hu;obtain⟨b,rfl,hx⟩:=DataW.trod_bool hu h;simp only[qas]at hx;obtain⟨rfl,rfl⟩:=hx
    cases hs
    simp[sV,aM,aD,iR,K9]
   ·rename_i kk hu;obtain⟨b,rfl,hx,hw⟩:=DataW.trod_int hu h;simp only[qas]at hx;obtain⟨rfl,rfl⟩:=hx
    cases hs
    simp[sV,aM,aD,iR,K9,hw]
   ·rename_i hu;obtain⟨b,rfl,hx,hw⟩:=DataW.trod_string hu h;simp only[qas]at hx;obtain⟨rfl,rfl⟩:=hx
    cases hs
    have:=k.str b.data.toList;simp only[sV,aM,aD,iR,K9];exact⟨⟨_,_,rfl,by simp,rfl⟩,_,_,rfl,⟨_,rfl,by omega⟩,rfl⟩
   ·rename_i e hu;split at hs
    ·cases hs
    ·rename_i Bt bK;split at hs
     ·cases hs
     ·rename_i hc
      cases hs
      simp only[qaG,qbA,qae]at hc;obtain⟨GD,pH⟩:=hc
      rcases DataW.trod_slice hu h with⟨rfl,hx⟩|⟨a,len,cap,elems,rest,m,hm,rfl,hx,_,hlc,_,hel,h1,h2,_⟩
      ·simp only[qas]at hx;obtain⟨rfl,rfl⟩:=hx;simp only[sV,aM,aD,iR,K9];exact⟨⟨_,_,rfl,⟨none,0,rfl,by simp,by simp⟩,rfl⟩,_,_,rfl,⟨[],[],rfl,by simp,by simp,by simp⟩,rfl⟩
      ·obtain rfl:fuel=m:=by omega
       simp only[qas]at hx;obtain⟨rfl,rfl⟩:=hx;obtain⟨mn,h2⟩:=h2 rfl;have hbk:=k.slice (elems.map (·.1)) (rest.map (·.1));have hln:=k.len (elems.map (·.1));have hlr:=k.len (rest.map (·.1))
       have bS:∀i x,(elems++rest)[i]? =some x→k.bk x.1≤B∧∃c,At w a.block=some c∧(i=0→a.spot=none)∧a.block<w.heap.size∧∃cs,cs.length=P.cellsOf e∧(∀j v,cs[j]? =some v→c[a.off+i*P.cellsOf e+j]? =some v)∧aM (fun b=>b<w.heap.size) w (sV x.1) cs∧iR B Bt (sV x.1):=by
        intro i x hi
        have mV:x∈elems∨x∈rest:=by simpa using qbE hi
        have Yl:k.bk x.1≤B:=by
         rcases mV with hm|hm
         ·have:=k.le (qbP (f:=(·.1)) hm);omega
         ·have:=k.le (qbP (f:=(·.1)) hm);omega
        have Ym:(w.cells? 0 (a.add (i*P.cellsOf e)) (P.cellsOf e)).bind (DataW.trod enc P w 0 (fun _=>true) held fuel e)=some x:=by
         by_cases bO:i<elems.length
         ·rw[qaQ bO]at hi;rw[h1 i (by omega),hi]
         ·rw[qaV (by omega)]at hi
          have hj:i-elems.length<rest.length:=by
           rcases qbQ (i-elems.length) rest.length with h|h
           ·exact h
           ·rw[qa0 h]at hi;cases hi
          have:=h2 (i-elems.length) (by omega);rw[hi,show len+(i-elems.length)=i by omega]at this;exact this
        obtain⟨cs,hcs,vI⟩:=qac.1 Ym;obtain⟨Zl,Yn⟩:=ih n e Bt cs x.1 x.2 bK vI Yl;obtain⟨_,uy,hcell⟩:=World.cells?_some hcs;have h0:=hcell 0 (by omega);obtain⟨v0,pN⟩:∃v0,cs[0]? =some v0:=⟨_,qag (by omega)⟩;rw[pN]at h0
        have LA:∀n,(a.add n).block=a.block:=by intro n;unfold Addr.add;split<;>rfl
        have QN:∀n m,((a.add n).add m).block=a.block:=by intro n m;unfold Addr.add;split<;>(split<;>rfl)
        have Dd:∀n m,((a.add n).add m).off=a.off+n+m:=by
         intro n m;unfold Addr.add
         by_cases hn:n=0<;>by_cases hm:m=0<;>simp[hn,hm]<;>omega
        obtain⟨hsp0,bO,c,hc,_⟩:=vS h0;rw[QN]at bO hc;refine⟨Yl,c,hc,?_,bO,cs,uy,?_,Zl,Yn⟩
        ·intro hi0;subst hi0;simpa[Addr.add]using hsp0
        ·intro j v hj
         have xe:j<P.cellsOf e:=by
          rcases qbQ j cs.length with h|h
          ·omega
          ·rw[qa0 h]at hj;cases hj
         have:=hcell j xe;rw[hj]at this;obtain⟨_,_,c',E0,hv⟩:=vS this;rw[QN]at E0;rw[Dd]at hv;obtain rfl:c=c':=qa9 (hc.symm.trans E0);exact hv
       have Mc:(∀r∈iY (elems.map (·.1)),iR B Bt r)∧(∀r∈iY (rest.map (·.1)),iR B Bt r):=by
        constructor
        ·intro r hr;rw[jT,qcA]at hr;obtain⟨x,hx,rfl⟩:=qaw.1 hr;obtain⟨i,hi⟩:=List.mem_iff_getElem?.1 (qcU rest hx);obtain⟨_,c,_,_,_,cs,_,_,_,h⟩:=bS i x hi;exact h
        ·intro r hr;rw[jT,qcA]at hr;obtain⟨x,hx,rfl⟩:=qaw.1 hr;obtain⟨i,hi⟩:=List.mem_iff_getElem?.1 (List.mem_append_right elems hx);obtain⟨_,c,_,_,_,cs,_,_,_,h⟩:=bS i x hi;exact h
       have E6:(iY (elems.map (·.1))).length=elems.length∧(iY (rest.map (·.1))).length=rest.length:=by simp[jT]
       simp only[qap]at hln hlr;refine⟨?_,?_⟩
       ·simp only[sV,aM,aD];refine⟨_,_,rfl,⟨some a,cap,by rw[E6.1,hel],by omega,?_⟩,rfl⟩
        by_cases he:elems++rest=[]
        ·left
         simp at he;simp[he.1,he.2,iY]
        ·right
         obtain⟨x0,Md⟩:∃x0,(elems++rest)[0]? =some x0:=by
          cases hh:elems++rest with
          |nil=>exact absurd hh he
          |cons y ys=>exact⟨y,rfl⟩
         obtain⟨_,c,hc,mG,bO,_⟩:=bS 0 x0 Md
         have Yo:aK (P.cellsOf e) (iY (elems.map (·.1))):=fun r hr=>by rw[(Mc.1 r hr).length,GD]
         have Yp:aK (P.cellsOf e) (iY (rest.map (·.1))):=fun r hr=>by rw[(Mc.2 r hr).length,GD]
         refine⟨a.block,a.off,c,P.cellsOf e,by rw[←mG rfl],bO,hc,Yo,Yp,?_,?_⟩
         ·refine bM.lV Yo fun i hi=>?_
          rw[E6.1]at hi;obtain⟨_,c',E0,_,_,cs,_,h5,h6,_⟩:=bS i elems[i] (by rw[qaQ hi];exact qag hi);obtain rfl:c=c':=qa9 (hc.symm.trans E0)
          have:(iY (elems.map (·.1))).getD i []=sV elems[i].1:=by simp[jT,hi]
          rw[this];exact dm.eD h6 h5
         ·rw[E6.1]
          refine bM.lV Yp fun i hi=>?_
          rw[E6.2]at hi;obtain⟨_,c',E0,_,_,cs,_,h5,h6,_⟩:=bS (elems.length+i) rest[i] (by rw[qaV (by omega)];simp[hi]);obtain rfl:c=c':=qa9 (hc.symm.trans E0)
          have:(iY (rest.map (·.1))).getD i []=sV rest[i].1:=by simp[jT,hi]
          rw[this]
          refine dm.eD h6 fun j v hj=>?_
          have:=h5 j v hj;rw[qaS,←qcg]at this;exact this
       ·simp only[sV,iR,K9];exact⟨_,_,rfl,⟨_,_,rfl,by omega,Mc.1,Mc.2⟩,rfl⟩
   ·rename_i fs hu;split at hs
    ·cases hs
    ·rename_i Bt bK;split at hs
     ·cases hs
     ·rename_i hc
      cases hs
      simp only[qbA]at hc;obtain⟨xs,m,hm,hx,uy,oX,hfs⟩:=DataW.trod_struct hu h
      obtain rfl:fuel=m:=by omega
      simp only[qas]at hx;obtain⟨rfl,rfl⟩:=hx;have hbk:=k.agg (xs.map (·.1))
      have key:∀(fl:List Field) (ys:List (DataW H×List MemPlace)) (off:Nat) (row:List Sh),IU P (mY P n) off fl=some row→ys.length=fl.length→k.al (ys.map (·.1))≤B→off+row.length≤cs.length→
        (∀(i:Nat) (f:Field),fl[i]? =some f→DataW.trod enc P w 0 (fun _=>true) held fuel f.type ((cs.drop f.offset).take (P.cellsOf f.type))=ys[i]?)→
        aM (fun b=>b<w.heap.size) w (oc (ys.map (·.1))) ((cs.drop off).take row.length)∧iR B row (oc (ys.map (·.1))):=by
       intro fl
       induction fl with
       |nil=>
        intro ys off row hs hl _ _ _;simp only[IU,qaa]at hs;subst hs
        obtain rfl:ys=[]:=by simpa using hl
        simp[oc,aM,iR]
       |cons f fl Xz=>
        intro ys off row hs hl hb hle vI
        cases ys with
        |nil=>simp at hl
        |cons y ys=>
         unfold IU at hs;split at hs
         ·cases hs
         ·rename_i r1 Zl;split at hs
          ·cases hs
          ·rename_i lY;split at hs
           ·cases hs
           ·rename_i r2 Yn
            cases hs
            simp only[qaG,qbA]at lY;obtain⟨Dd,hlen⟩:=lY;simp only[qaj,k.cons]at hb;have h0:=vI 0 f rfl;simp only[qay]at h0;rw[Dd,←hlen]at h0;obtain⟨a1,a2⟩:=ih n f.type r1 _ y.1 y.2 Zl h0 (by omega);simp only[qal]at hle;obtain⟨b1,b2⟩:=Xz ys (off+r1.length) r2 Yn (by simpa using hl) (by omega) (by omega) (fun i g hg=>by simpa using vI (i+1) g (by simpa using hg))
            refine⟨?_,?_⟩
            ·simp only[qaj,oc]
             have e:(cs.drop off).take (r1++r2).length=(cs.drop off).take r1.length++(cs.drop (off+r1.length)).take r2.length:=by
              rw[qal,List.take_add,qdb]
             rw[e];exact aM.append a1 b1
            ·simp only[qaj,oc];exact iR.append a2 b2
      obtain⟨k1,k2⟩:=key fs.toList xs 0 row bK (by simpa using oX) (by omega) (by omega) (fun i f hf=>hfs i f (by simpa using hf));refine⟨?_,?_⟩
      ·simp only[sV]
       have:(cs.drop 0).take row.length=cs:=by rw[qc9,qbI (by omega)]
       rw[this]at k1;exact k1
      ·simp only[sV];exact k2
   ·rename_i m e hu;split at hs
    ·cases hs
    ·rename_i Bt bK;split at hs
     ·cases hs
     ·rename_i hc
      cases hs
      simp only[qaG,qbA]at hc;obtain⟨GD,pH⟩:=hc;obtain⟨xs,m',hm,hx,uy,oX,hfs⟩:=DataW.trod_array hu h
      obtain rfl:fuel=m':=by omega
      simp only[qas]at hx;obtain⟨rfl,rfl⟩:=hx;have hbk:=k.agg (xs.map (·.1))
      have key:∀(ys:List (DataW H×List MemPlace)) (i:Nat),(∀j,j<ys.length→DataW.trod enc P w 0 (fun _=>true) held fuel e ((cs.drop ((i+j)*P.cellsOf e)).take (P.cellsOf e))=ys[j]?)→k.al (ys.map (·.1))≤B→
        aM (fun b=>b<w.heap.size) w (oc (ys.map (·.1))) ((cs.drop (i*P.cellsOf e)).take (ys.length*P.cellsOf e))∧iR B (List.replicate ys.length Bt).flatten (oc (ys.map (·.1))):=by
       intro ys
       induction ys with
       |nil=>intro i _ _;simp[oc,aM,iR]
       |cons y ys IL=>
        intro i vI hb;simp only[qaj,k.cons]at hb;have h0:=vI 0 (by simp);simp only[qay,qcz]at h0;obtain⟨a1,a2⟩:=ih n e Bt _ y.1 y.2 bK h0 (by omega)
        obtain⟨b1,b2⟩:=IL (i+1) (fun j hj=>by
         have:=vI (j+1) (by simp;omega);rw[show i+(j+1)=i+1+j by omega]at this
         simpa using this) (by omega)
        refine⟨?_,?_⟩
        ·simp only[qaj,oc,qaq]
         have e':(cs.drop (i*P.cellsOf e)).take ((ys.length+1)*P.cellsOf e)=(cs.drop (i*P.cellsOf e)).take (P.cellsOf e)++(cs.drop ((i+1)*P.cellsOf e)).take (ys.length*P.cellsOf e):=by
          rw[qaS,qbt,qcS,List.take_add,qdb,qaS,qbt]
         rw[e'];exact aM.append a1 b1
        ·simp only[qaj,oc,qaq,qcZ,qa3];exact iR.append a2 b2
      obtain⟨k1,k2⟩:=key xs 0 (fun j hj=>by simpa using hfs j (by omega)) (by omega);rw[oX]at k1 k2;refine⟨?_,?_⟩
      ·simp only[sV]
       have:(cs.drop (0*P.cellsOf e)).take (m*P.cellsOf e)=cs:=by rw[qdt,qc9,qbI (by rw[uy,←pH,GD];exact qak _)]
       rw[this]at k1;exact k1
      ·simp only[sV];exact k2
   ·cases hs
theorem qm (hl:laidOutB P=true) {W W':World} (hb:RowKit.Below W.heap.size W W') {sp:Nat→Bool}:∀{ts:List TypeId} {vs:List Value} {ds:List (DataW H)} {ps:List MemPlace},(ts.all fun t=>P.readableRec t&&decide (t<P.types.size))=true→
  DataW.TrodAll enc P W 0 (fun _=>true) true ts vs ds ps→(∀x∈ps,x.block<W.heap.size)→(∀x∈ps,sp x.block=true)→DataW.TrodAll enc P W' 0 sp true ts vs ds ps
 |[],vs,ds,ps,_,h,_,_=>by
  obtain⟨rfl,rfl,rfl⟩:=ChangeShapes.trodAll_nil h;exact ChangeShapes.trodAll_mk0
 |t::ts,vs,ds,ps,hr,h,bO,mG=>by
  obtain⟨v,vs,d,ds,p,q,rfl,rfl,rfl,h1,h2⟩:=ChangeShapes.trodAll_cons h;simp only[List.all_cons,qaG,qae]at hr
  exact⟨p,q,WideElems.Trod_stays hl hr.1.1 hr.1.2 h1 (fun x hx=>hb.same (bO x (by simp[hx]))) (fun x hx=>mG x (by simp[hx])),
   qm hl hb (by simpa using hr.2) h2 (fun x hx=>bO x (by simp[hx])) (fun x hx=>mG x (by simp[hx])),rfl⟩
theorem oY (hl:laidOutB P=true) {W W':World} (hb:RowKit.Below W.heap.size W W') {sp:Nat→Bool}:∀{ns:List String} {gs:List (DataW H)} {ps:List MemPlace},RowKit.varsRowed P ns=true→
  DataW.TrodVars enc P W (fun _=>true) ns gs ps→(∀x∈ps,sp x.block=true)→DataW.TrodVars enc P W' sp ns gs ps
 |[],[],_,_,h,_=>h
 |[],_::_,_,_,h,_=>h.elim
 |_::_,[],_,_,h,_=>h.elim
 |n::ns,d::ds,ps,hv,h,mG=>by
  have bO:=h.lt;obtain⟨g,t,cs,fuel,p,q,h1,h2,h3,h4,hs,e⟩:=h;simp only[RowKit.varsRowed,List.all_cons,qaG]at hv
  have ht:P.readableRec t=true∧t<P.types.size:=by
   have:=hv.1;rw[h1]at this
   cases hg:P.globals[g]? with
   |none=>rw[hg]at h2;cases h2
   |some gl=>
    rw[hg]at h2;obtain rfl:gl.type=t:=qa9 h2;simpa[hg]using this
  have hp:∀x∈p,x.block<W.heap.size:=fun x hx=>bO x (by rw[e];simp[hx])
  have h3':W'.var? P n=some cs:=by
   unfold World.var? at h3 ⊢;rw[h1]at h3 ⊢;simp only[qbx]at h3 ⊢
   have hg:g<W.heap.size:=by
    cases hh:W.heap[g]? with
    |none=>rw[hh]at h3;cases h3
    |some o=>exact(qaK.1 hh).1
   rw[hb.block g hg];exact h3
  exact⟨g,t,cs,fuel,p,q,h1,h2,h3',DataW.trod_stays (kids_book hl ht.1) (book_sized ht.1) (fun h=>by cases h) ⟨ht.2,book_self t⟩ h4 (fun x hx=>hb.same (hp x hx)) (fun x hx=>mG x (by rw[e];simp[hx])),
   oY hl hb (by simpa[RowKit.varsRowed]using hv.2) hs (fun x hx=>mG x (by rw[e];simp[hx])),e⟩
end
end Go.Am
end
section
namespace Go.Am
open Go.ChangeShapes Go.RowKit
theorem xj {P:Program} {G:Nat→Option (List PV)} {f:FuncId} {fn:Func} {c:Code} {ps:List PV} {res:PV} {args:Array Value} {w:World} {S:Nat→Prop} (hf:P.funcs[f]? =some fn) (hb:fn.body=some c) (hn:(fn.name== "runtime.NumGoroutine")=false)
  (hp:bE P G f ps res) (hs:∀b,S b→b<w.heap.size) (hg:rh G S w) (hr:aM S w ps args.toList):
  Calls P f args w fun e w'=>∃v,e=.returned v∧RowKit.Below w.heap.size w w'∧aD (fun b=>S b∨(w.heap.size≤b∧b<w'.heap.size)) w' res v:=by
 have h:=hp S w args.toList hs hg hr;unfold dN at h
 have bN:(callFunc f args.toList.toArray).run P w=.ok (.enter f args.toList.toArray) w:=by
  have uF:¬fn.name= "runtime.NumGoroutine" :=by simpa using hn
  simp[callFunc,run_program,hf,uF,hb]
 rw[bN]at h;simpa using h
theorem Du {H:Type} {enc:TypeId×Value→H} {P:Program} {f:Func} {s:ChangeSpec} {apart fresh handsOn again:Bool} {W W':World} {args:Array Value} {v:Value} {ds gs:List (DataW H)} {before pa pv:List MemPlace}
  (hW:DataW.Whole enc P f.params.toList s.vars apart W args.toList ds gs before)
  (dD:∀(b:Nat) (sp:Nat→Bool) (hd:Bool),DataW.TrodAll enc P W' b sp hd f.resultTypes.toList (v.resultList f.resultTypes.size) (s.fn H (ds++gs)).results [])
  (eQ:∀sp:Nat→Bool,(∀p∈before,sp p.block=true)→DataW.TrodAll enc P W' 0 sp true f.params.toList args.toList (s.fn H (ds++gs)).args pa)
  (QO:∀sp:Nat→Bool,(∀p∈before,sp p.block=true)→DataW.TrodVars enc P W' sp s.vars (s.fn H (ds++gs)).vars pv)
  (mE:before=pa++pv) (hb:Below W.heap.size W W')
  (eL:∀(j:Nat) (t:TypeId) (r:Value),f.resultTypes[j]? =some t→(v.resultList f.resultTypes.size)[j]? =some r→Value.okWide P W' .any 0 t r):
  s.post enc P f apart fresh handsOn again W args v W':=by
 have bO:∀p∈before,p.block<W.heap.size:=fun p hp=>hW.lt p hp
 have hold:∀p∈before,(fun b=>decide (b<W.heap.size)) p.block=true:=fun p hp=>by simpa using bO p hp
 refine⟨ds,gs,before,[],pa,pv,hW,dD _ _ _,eQ _ hold,QO _ hold,World.keptBut_mono (fun p hp=>⟨hp,?_⟩) (hb.frame (·∈before)),fun _=>?_⟩
 ·rw[mE,qav]at hp;exact Or.inr hp
 ·obtain⟨_,_,_,_,_,hz,hn⟩:=hW;refine⟨eL,_,_,([]++pa)++pv,⟨[]++pa,pv,trodAll_append (eQ _ (fun _ _=>rfl)) (dD _ _ _),QO _ (fun _ _=>rfl),rfl,?_,?_⟩,?_⟩
  ·intro b off hp
   have WO:MemPlace.cell b off∈before:=by rw[mE];simpa using hp
   rw[hb.frozen (bO _ WO)];exact hz b off WO
  ·intro ha;have:=hn ha;rw[mE]at this;simpa using this
  ·intro p hp _;rw[mE];simpa using hp
theorem IV {H:Type} {enc:TypeId×Value→H} {P:Program} {f:FuncId} {fn:Func} {c:Code} {G:Nat→Option (List PV)} {s:ChangeSpec} {apart fresh handsOn again:Bool} {W:World} {args:Array Value} {ds gs:List (DataW H)} {before:List MemPlace} {tb:TypeId} {ps:List PV}
  (hl:laidOutB P=true) (hf:P.funcs[f]? =some fn) (hb:fn.body=some c) (hn:(fn.name== "runtime.NumGoroutine")=false) (hp:bE P G f ps (.bool true)) (hg:rh G (fun b=>b<W.heap.size) W) (hr:aM (fun b=>b<W.heap.size) W ps args.toList)
  (hW:DataW.Whole enc P fn.params.toList s.vars apart W args.toList ds gs before)
  (hrd:(fn.params.toList.all fun t=>P.readableRec t&&decide (t<P.types.size))=true) (rI:RowKit.varsRowed P s.vars=true) (hrt:fn.resultTypes=#[tb]) (htb:P.underlying tb=some .bool)
  (hs:s.fn H (ds++gs)=⟨[.lit (.bool true)],ds,gs⟩):
  Calls P f args W fun e W'=>∃v,e=.returned v∧s.post enc P fn apart fresh handsOn again W args v W':=by
 refine(xj hf hb hn hp (fun _ h=>h) hg hr).mono fun e W' ⟨v,he,T7,hv⟩=>⟨v,he,?_⟩
 simp only[aD]at hv;subst hv;have hW':=hW;obtain⟨p,q,hA,hV,rfl,hfz,hnd⟩:=hW
 have bO:∀x∈p++q,x.block<W.heap.size:=fun x hx=>hW'.lt x hx
 refine Du (pa:=p) (pv:=q) hW' ?_ ?_ ?_ rfl T7 ?_
 ·intro b sp hd;rw[hrt,hs];exact trodAll_mk1 (shut_bool htb true)
 ·intro sp mG;rw[hs];exact qm hl T7 hrd hA (fun x hx=>bO x (by simp[hx])) (fun x hx=>mG x (by simp[hx]))
 ·intro sp mG;rw[hs];exact oY hl T7 rI hV (fun x hx=>mG x (by simp[hx]))
 ·exact ok_one hrt rfl (okWide_bool_mk htb true)
theorem zk {P:Program} {W:World} {G:Nat→Option (List PV)} {l:List (String×DataW Unit)} {ps:List MemPlace} (k:Dt Unit) (B:Nat) (h:DataW.LaidVars P W l ps)
  (hG:∀g row,G g=some row→∃n d t sh m,(n,d)∈l∧P.globalNamed n=some g∧(P.globals[g]?).map (·.type)=some t∧mY P m t=some sh∧sV d=row∧k.bk d≤B):rh G (fun b=>b<W.heap.size) W:=by
 intro g row hg;obtain⟨n,d,t,sh,m,mV,h1,h2,h3,h4,h5⟩:=hG g row hg
 have key:∀{l:List (String×DataW Unit)} {ps:List MemPlace},DataW.LaidVars P W l ps→(n,d)∈l→∃cs fuel p,W.var? P n=some cs∧DataW.trod (fun _=>()) P W 0 (fun _=>true) false fuel t cs.toList=some (d,p):=by
  intro l
  induction l with
  |nil=>intro ps _ hm;cases hm
  |cons x l ih=>
   intro ps hl hm;obtain⟨n',d'⟩:=x;obtain⟨g',t',cs,fuel,p,q,e1,e2,e3,e4,e5,_⟩:=hl
   cases hm with
   |head=>
    obtain rfl:g=g':=qa9 (h1.symm.trans e1);obtain rfl:t=t':=qa9 (h2.symm.trans e2);exact⟨cs,fuel,p,e3,e4⟩
   |tail _ hm=>exact ih e5 hm
 obtain⟨cs,fuel,p,e3,e4⟩:=key h mV;obtain⟨r1,_⟩:=mZ k B fuel m t sh cs.toList d p h3 e4 h5;unfold World.var? at e3;rw[h1]at e3;simp only[qbx]at e3
 have hc:At W g=some cs∧g<W.heap.size:=by
  unfold At
  cases hh:W.heap[g]? with
  |none=>rw[hh]at e3;cases e3
  |some o=>
   rw[hh]at e3;refine⟨?_,(qaK.1 hh).1⟩
   cases o<;>simp_all
 refine⟨hc.2,cs,hc.1,?_,?_⟩
 ·rw[←h4];exact dm.eD r1 (fun j v hj=>by simpa using hj)
 ·rw[←h4,←aM.length r1,qcx]
end Go.Am
end
section
open Go Go.Am
namespace Go.bt
structure aL where
 bay:Int
 row:Int
 deck:Bool
 dv:Int
 dk:Int
 tT:Int
 tU:Int
 kj:Int
 cq:List Int
 psp:List (List PV)
 x:Int
 y:Int
 z:Int
def aL.enc (c:aL):List PV:=[.int .i64 c.bay,.int .i64 c.row,.bool c.deck,.int .i64 c.dv,.int .i64 c.dk,.int .i64 c.tT,.int .i64 c.tU,.int .i64 c.kj,.sl (ints c.cq) c.psp,.int .i64 c.x,.int .i64 c.y,.int .i64 c.z]
structure bz where
 bay:Int
 rows:List Int
 rsp:List (List PV)
def bz.enc (c:bz):List PV:=[.int .i64 c.bay,.sl (ints c.rows) c.rsp]
structure Row where
 a:Int
 b:Int
 c:Int
 d:Int
 e:Int
def Row.enc (c:Row):List PV:=[.int .i64 c.a,.int .i64 c.b,.int .i64 c.c,.int .i64 c.d,.int .i64 c.e]
structure eg where
 cD:Int
 x:Int
 y:Int
 z:Int
 ir:Int
 steps:List Int
 ssp:List (List PV)
def eg.enc (c:eg):List PV:=[.int .i64 c.cD,.int .i64 c.x,.int .i64 c.y,.int .i64 c.z,.int .i64 c.ir,.sl (ints c.steps) c.ssp]
structure bw where
 id:Int
 number:List UInt8
 size:Int
 high:Bool
 cD:Int
 load:Int
 discharge:Int
 cls:Int
 cK:Bool
def bw.enc (c:bw):List PV:=[.int .i64 c.id,.str c.number,.int .u8 c.size,.bool c.high,.int .i64 c.cD,.int .i64 c.load,.int .i64 c.discharge,.int .u8 c.cls,.bool c.cK]
structure Slot where
 column:Int
 tier:Int
 half:Int
def Slot.enc (c:Slot):List PV:=[.int .i64 c.column,.int .i64 c.tier,.int .u8 c.half]
structure aH where
 box:Int
 slot:Slot
def aH.enc (c:aH):List PV:=[.int .i64 c.box,.int .i64 c.slot.column,.int .i64 c.slot.tier,.int .u8 c.slot.half]
structure Rest where
 l1:Int
 l2:Int
 l3:Int
 l4:Int
 r:List (List PV)
 rsp:List (List PV)
 f:List (List PV)
 fsp:List (List PV)
 t:List (List PV)
 tsp:List (List PV)
 m1:Int
 m2:Int
 m3:Int
 m4:Int
def GR (i:Nat):Int:=8000024+(i:Int)
def marks:List Int:=(List.range 12).map GR
def aL.cV (c:aL):aL:={c with psp:=ints marks}
def bz.cV (c:bz):bz:={c with rsp:=ints marks}
def eg.cV (c:eg):eg:={c with ssp:=ints marks}
def aL.mark (i:Nat):aL:=⟨GR i,0,false,0,0,0,0,0,[],[],0,0,0⟩
def bz.mark (i:Nat):bz:=⟨GR i,[],[]⟩
def Row.qn (i:Nat):Row:=⟨0,GR i,0,0,0⟩
def Row.qo (i:Nat):Row:=⟨GR i,0,0,0,0⟩
def eg.mark (i:Nat):eg:=⟨GR i,0,0,0,0,[],[]⟩
def bw.mark (i:Nat):bw:=⟨GR i,[],0,false,0,0,0,0,false⟩
def aH.mark (i:Nat):aH:=⟨GR i,⟨0,0,0⟩⟩
end Go.bt
end
section
open Go Go.Am Go.Proofs
namespace Go.bt
def g0:List PV:=[.str [78,76,82,84,77],.str [68,69,72,65,77],.str [83,69,71,79,84],.str [71,66,70,88,84],.str [70,82,76,69,72],.str [66,69,65,78,82]]
def g1:List PV:=[.int .i64 2,.int .i64 1,.int .i64 3]
def Bu:List (List PV):=[[.str [50,50,71,49],.int .u8 20,.bool false,.bool false],[.str [50,50,82,49],.int .u8 20,.bool false,.bool true],[.str [52,50,71,49],.int .u8 40,.bool false,.bool false],[.str [52,50,82,49],.int .u8 40,.bool false,.bool true],[.str [52,53,71,49],.int .u8 40,.bool true,.bool false],[.str [52,53,82,49],.int .u8 40,.bool true,.bool true]]
def g2:List PV:=[.sl Bu []]
def g4:List PV:=[.int .u8 240,.int .u8 240,.int .u8 240,.int .u8 240,.int .u8 240,.int .u8 240,.int .u8 240,.int .u8 240,.int .u8 240,.int .u8 240,.int .u8 240,.int .u8 240,.int .u8 240,.int .u8 240,.int .u8 240,.int .u8 240,.int .u8 240,.int .u8 240,.int .u8 240,.int .u8 240,.int .u8 240,.int .u8 240,.int .u8 240,.int .u8 240,.int .u8 240,.int .u8 240,.int .u8 240,.int .u8 240,.int .u8 240,.int .u8 240,.int .u8 240,.int .u8 240,.int .u8 240,.int .u8 240,.int .u8 240,.int .u8 240,.int .u8 240,.int .u8 240,.int .u8 240,.int .u8 240,.int .u8 240,.int .u8 240,.int .u8 240,.int .u8 240,.int .u8 240,.int .u8 240,.int .u8 240,.int .u8 240,.int .u8 240,.int .u8 240,.int .u8 240,.int .u8 240,.int .u8 240,.int .u8 240,.int .u8 240,.int .u8 240,.int .u8 240,.int .u8 240,.int .u8 240,.int .u8 240,.int .u8 240,.int .u8 240,.int .u8 240,.int .u8 240,.int .u8 240,.int .u8 240,.int .u8 240,.int .u8 240,.int .u8 240,.int .u8 240,.int .u8 240,.int .u8 240,.int .u8 240,.int .u8 240,.int .u8 240,.int .u8 240,.int .u8 240,.int .u8 240,.int .u8 240,.int .u8 240,.int .u8 240,.int .u8 240,.int .u8 240,.int .u8 240,.int .u8 240,.int .u8 240,.int .u8 240,.int .u8 240,.int .u8 240,.int .u8 240,.int .u8 240,.int .u8 240,.int .u8 240,.int .u8 240,.int .u8 240,.int .u8 240,.int .u8 240,.int .u8 240,.int .u8 240,.int .u8 240,.int .u8 240,.int .u8 240,.int .u8 240,.int .u8 240,.int .u8 240,.int .u8 240,.int .u8 240,.int .u8 240,.int .u8 240,.int .u8 240,.int .u8 240,.int .u8 240,.int .u8 240,.int .u8 240,.int .u8 240,.int .u8 240,.int .u8 240,.int .u8 240,.int .u8 240,.int .u8 240,.int .u8 240,.int .u8 240,.int .u8 240,.int .u8 240,.int .u8 240,.int .u8 240,.int .u8 240,.int .u8 240,.int .u8 241,.int .u8 241,.int .u8 241,.int .u8 241,.int .u8 241,.int .u8 241,.int .u8 241,.int .u8 241,.int .u8 241,.int .u8 241,.int .u8 241,.int .u8 241,.int .u8 241,.int .u8 241,.int .u8 241,.int .u8 241,.int .u8 241,.int .u8 241,.int .u8 241,.int .u8 241,.int .u8 241,.int .u8 241,.int .u8 241,.int .u8 241,.int .u8 241,.int .u8 241,.int .u8 241,.int .u8 241,.int .u8 241,.int .u8 241,.int .u8 241,.int .u8 241,.int .u8 241,.int .u8 241,.int .u8 241,.int .u8 241,.int .u8 241,.int .u8 241,.int .u8 241,.int .u8 241,.int .u8 241,.int .u8 241,.int .u8 241,.int .u8 241,.int .u8 241,.int .u8 241,.int .u8 241,.int .u8 241,.int .u8 241,.int .u8 241,.int .u8 241,.int .u8 241,.int .u8 241,.int .u8 241,.int .u8 241,.int .u8 241,.int .u8 241,.int .u8 241,.int .u8 241,.int .u8 241,.int .u8 241,.int .u8 241,.int .u8 241,.int .u8 241,.int .u8 241,.int .u8 241,.int .u8 2,.int .u8 2,.int .u8 2,.int .u8 2,.int .u8 2,.int .u8 2,.int .u8 2,.int .u8 2,.int .u8 2,.int .u8 2,.int .u8 2,.int .u8 2,.int .u8 2,.int .u8 2,.int .u8 2,.int .u8 2,.int .u8 2,.int .u8 2,.int .u8 2,.int .u8 2,.int .u8 2,.int .u8 2,.int .u8 2,.int .u8 2,.int .u8 2,.int .u8 2,.int .u8 2,.int .u8 2,.int .u8 2,.int .u8 2,.int .u8 19,.int .u8 3,.int .u8 3,.int .u8 3,.int .u8 3,.int .u8 3,.int .u8 3,.int .u8 3,.int .u8 3,.int .u8 3,.int .u8 3,.int .u8 3,.int .u8 3,.int .u8 35,.int .u8 3,.int .u8 3,.int .u8 52,.int .u8 4,.int .u8 4,.int .u8 4,.int .u8 68,.int .u8 241,.int .u8 241,.int .u8 241,.int .u8 241,.int .u8 241,.int .u8 241,.int .u8 241,.int .u8 241,.int .u8 241,.int .u8 241,.int .u8 241]
def g5:List PV:=[.int .u8 128,.int .u8 191,.int .u8 160,.int .u8 191,.int .u8 128,.int .u8 159,.int .u8 144,.int .u8 191,.int .u8 128,.int .u8 143,.int .u8 0,.int .u8 0,.int .u8 0,.int .u8 0,.int .u8 0,.int .u8 0,.int .u8 0,.int .u8 0,.int .u8 0,.int .u8 0,.int .u8 0,.int .u8 0,.int .u8 0,.int .u8 0,.int .u8 0,.int .u8 0,.int .u8 0,.int .u8 0,.int .u8 0,.int .u8 0,.int .u8 0,.int .u8 0]
def g6:List PV:=[.int .u64 1,.int .u64 10,.int .u64 100,.int .u64 1000,.int .u64 10000,.int .u64 100000,.int .u64 1000000,.int .u64 10000000,.int .u64 100000000,.int .u64 1000000000,.int .u64 10000000000,.int .u64 100000000000,.int .u64 1000000000000,.int .u64 10000000000000,.int .u64 100000000000000,.int .u64 1000000000000000,.int .u64 10000000000000000,.int .u64 100000000000000000,.int .u64 1000000000000000000,.int .u64 10000000000000000000]
def g7:List PV:=[.iface 403 (.ptr [.str [105,110,118,97,108,105,100,32,115,121,110,116,97,120]])]
def g8:List PV:=[.iface 403 (.ptr [.str [118,97,108,117,101,32,111,117,116,32,111,102,32,114,97,110,103,101]])]
def g9:List PV:=[.int .u8 0,.int .u8 1,.int .u8 28,.int .u8 2,.int .u8 29,.int .u8 14,.int .u8 24,.int .u8 3,.int .u8 30,.int .u8 22,.int .u8 20,.int .u8 15,.int .u8 25,.int .u8 17,.int .u8 4,.int .u8 8,.int .u8 31,.int .u8 27,.int .u8 13,.int .u8 23,.int .u8 21,.int .u8 19,.int .u8 16,.int .u8 7,.int .u8 26,.int .u8 12,.int .u8 18,.int .u8 6,.int .u8 11,.int .u8 5,.int .u8 10,.int .u8 9]
def g10:List PV:=[.int .u8 0,.int .u8 1,.int .u8 56,.int .u8 2,.int .u8 57,.int .u8 49,.int .u8 28,.int .u8 3,.int .u8 61,.int .u8 58,.int .u8 42,.int .u8 50,.int .u8 38,.int .u8 29,.int .u8 17,.int .u8 4,.int .u8 62,.int .u8 47,.int .u8 59,.int .u8 36,.int .u8 45,.int .u8 43,.int .u8 51,.int .u8 22,.int .u8 53,.int .u8 39,.int .u8 33,.int .u8 30,.int .u8 24,.int .u8 18,.int .u8 12,.int .u8 5,.int .u8 63,.int .u8 55,.int .u8 48,.int .u8 27,.int .u8 60,.int .u8 41,.int .u8 37,.int .u8 16,.int .u8 46,.int .u8 35,.int .u8 44,.int .u8 21,.int .u8 52,.int .u8 32,.int .u8 23,.int .u8 11,.int .u8 54,.int .u8 26,.int .u8 40,.int .u8 15,.int .u8 34,.int .u8 20,.int .u8 31,.int .u8 10,.int .u8 25,.int .u8 14,.int .u8 19,.int .u8 9,.int .u8 13,.int .u8 8,.int .u8 7,.int .u8 6]
def GG (mx:Int):Nat→Option (List PV)
 |0=>some g0
 |1=>some g1
 |2=>some g2
 |3=>some [.int .i64 mx]
 |4=>some g4
 |5=>some g5
 |6=>some g6
 |9=>some g9
 |10=>some g10
 |_=>none
theorem mixed:Tryz.prog.follows .mixedOrders=true:=by kernel_rfl
end Go.bt
end
section
namespace Go.Am
def St.T5 (s:St) (d id sz:Nat):St:=(s.aq id (.rows sz [] 0)).put (some d) (.c8 id 0)
theorem Fg.E5 {s s':St} (ks:List Nat) (src:List (Option Nat)) (d id sz:Nat) (hn:jN src=true) (h1:(s.tidy ks src).slot d=.full []) (h2:aj (s.tidy ks src).mem id=none) (h3:id≤(s.tidy ks src).mem.length) (h:(s.tidy ks src).T5 d id sz=s'):Fg s s':=
 h▸Fg.trans (Fg.ca ks src hn rfl) (Fg.own h1 h2 h3)
end Go.Am
namespace Go.Am
theorem acG {P:Program} {G:Nat→Option (List PV)} {A:Ar} {Q:Ex→St→Prop} {b:cf} {st:St} {is:List Item} (h:fw (CC P G) A (Hf P G) b st (de (CC P G) A (Hf P G) is Q (fun s'=>(bp.loop b s' is).holds (CC P G) A (Hf P G) Q))):
  (bp.loop b st is).holds (CC P G) A (Hf P G) Q:=by
 refine k8 (tS P G) (.refl _) (fC (tS P G) b ?_ h);intro e s' er
 cases e with
 |normal=>exact er
 |ret=>show bH _ _ _ is Q .ret s';rw[jv];simp only[de]at er;exact er
 |exit id=>
  simp only[de]at er;show bH _ _ _ is Q (.exit id) s';split at er
  ·rename_i r hr;exact iq id is Q s' r hr er
  ·exact acx id is Q s' er.1 er.2
end Go.Am
namespace Go.Am
theorem T6 {P:Program} {G:Nat→Option (List PV)} {A:Ar} {Q:Ex→St→Prop} {b:cf} {st0:St} {is:List Item} {α:Type} (dp:α→St→St) (J:α→Prop) (μ:α→Nat) (a0:α) (hf:Fg st0 (dp a0 st0)) (hj:J a0)
  (h:∀a,J a→fw (CC P G) A (Hf P G) b (dp a st0) (de (CC P G) A (Hf P G) is Q (fun s'=>∃a',J a'∧μ a'<μ a∧Fg s' (dp a' st0)))):
  (bp.loop b st0 is).holds (CC P G) A (Hf P G) Q:=by
 refine QH dp J μ a0 hf hj ?_;intro a ha;refine fC (tS P G) b ?_ (h a ha);intro e s' er
 cases e with
 |normal=>exact er
 |ret=>show bH _ _ _ is Q .ret s';rw[jv];simp only[de]at er;exact er
 |exit id=>
  simp only[de]at er;split at er
  ·rename_i r hr;exact iq id is Q s' r hr er
  ·exact acx id is Q s' er.1 er.2
end Go.Am
namespace Go.Am
end Go.Am
namespace Go.Am
end Go.Am
namespace Go.Am
end Go.Am
namespace Go.Am
end Go.Am
end
section
open Go Go.Am Go.Proofs
namespace Go.bt
variable {mx:Int}
abbrev cF (mx:Int) (accs:List Nat) (f:FuncId) (ac:cf) (eF:List RD) (nt:Nat):Prop:=gF Tryz.prog (GG mx) accs f=some (ac,eF,nt)
theorem kC {accs:List Nat} {f:FuncId} {ac:cf} {eF:List RD} {nt:Nat} (h:gF Tryz.prog (GG mx) accs f=some (ac,eF,nt):=by kernel_rfl):cF mx accs f ac eF nt:=h
abbrev pC (mx:Int) (f:FuncId) (ps:List PV) (res:PV):Prop:=bE Tryz.prog (GG mx) f ps res
def AZ (F:Ar→Prop):Prop:=∀IW:BinOp→IntKind→Int→Int→Int,∀Bv:IntKind→Int→Int→Int,∀QP:IntKind→Int→Int→Int,∀Me:Int→Int→Bool,∀Yr:Int→Int→Bool,∀Ys:Int→Int→Bool,∀QQ:Bool→Bool,∀QR:Int→Int→Int,∀QS:Int→Int→Int,∀Yt:Int→Prop,∀IX:Int→Prop,∀E7:Nat→Int,∀zl:List UInt8→Int,∀IY:List UInt8→List UInt8→Prop,∀QT:Int→Int→List UInt8→Prop,∀QU:List UInt8→List UInt8→Bool,∀QV:List UInt8→List UInt8→Bool,∀IZ:List (List PV)→List (List PV)→Nat→Nat→Prop,∀QW:List (List PV)→List (List PV)→Prop,∀QX:List PV→List PV→Bool,∀I0:List Nat→List PV→List PV→Prop,∀E8:List UInt8→List (List PV),∀I1:List (List PV)→Prop,∀QY:Int→Int→List (List PV)→List (List PV)→Nat→Prop,∀I2:Int→Int→List (List PV)→Nat→Prop,∀QZ:Int→Int→Nat→Prop,∀Q0:List (List AV)→Int→List AV,∀Q1:Int→List (List AV)→Nat→Prop,∀I3:List (List AV)→Int→Nat→List AV→List (List AV),∀I4:List (List AV)→List (List AV)→List (List AV),∀I5:List (List AV)→List (List AV)→Nat→Nat→Prop,∀I6:List (List AV)→Int,∀Bw:Int→Nat→Prop,∀zm:Nat→List (List PV)→List PV→Bool,∀I7:Nat→List (List PV)→List PV→List PV→List PV,∀Bx:Nat→List (List PV)→List PV→Int,∀vT:Nat→List (List PV)→List PV→List PV→List (List PV),∀zn:Nat→List (List PV)→Int→List PV→List (List PV),∀zo:Int→List (List PV)→Prop,∀E9:List Nat→List (List PV)→Nat→Prop,∀uG:List Nat→List (List PV)→Bool,∀I8:Bool→Nat→List (List PV)→Nat→PV,∀zp:Bool→Nat→List (List PV)→Nat→PV,∀zq:List UInt8→Int→Int,∀Ki:List UInt8→Int→Int,∀zt:Int→Int→Int,aF.bits=IW→aF.shl=Bv→aF.shr=QP→aF.min=QR→aF.max=QS→aF.CY=IX→aF.ofNat=E7→aF.slt=QV→aF.bytes=E8→aF.aat=Q0→aF.ain=Q1→aF.Lq=I3→aF.yT=I4→aF.AL=I5→aF.Lr=I6→aF.yU=zm→aF.HR=I7→aF.mix=Bx→aF.sK=vT→aF.PT=zn→aF.min1=zo→aF.mleft=E9→aF.AM=uG→aF.Ls=I8→aF.Lt=zp→aF.rune=zq→aF.C0=Ki→aF.Lu=zt→∀zu:Nat→List (List PV)→List PV→List PV→List (List PV),aF.HS=zu→∀uH:Nat→List (List PV)→List PV→List PV→PV,aF.xJ=uH→aF.PS=Bw→∀vU:Int→Nat→Nat,aF.off=vU→aF.WD=QZ→∀eV:Int→List PV→List (List PV),aF.AK=eV→∀nJ:List (List PV)→Int→Nat→List PV→List (List PV),aF.Gt=nJ→aF.HP=I0→aF.Xf=QX→∀yw:List Nat→Nat→List (List PV)→List PV→Prop,aF.CZ=yw→aF.sbd=QT→∀zw:List UInt8→Int→Int→List UInt8,aF.Lp=zw→∀I9:List UInt8→List UInt8→List UInt8,aF.wZ=I2→aF.Ln=IY→aF.Lm=I9→∀yx:List (List PV)→List UInt8,aF.qE=I1→aF.gN=yx→aF.Xg=QY→aF.nz=Yt→∀lB:Int→List UInt8→Prop,∀tV:Int→Int→Int,aF.mul=tV→aF.Qn=QW→∀yy:Int→Int→Int,aF.quo=yy→∀eo:List (List PV)→Int→Int→List (List PV),aF.sin=lB→∀km:List UInt8→Int→Int,aF.sat=km→∀oZ:Int→Int→Int,aF.rem=oZ→aF.uS=eo→∀l8:List (List PV)→Int,aF.oj=IZ→∀bJ:List (List PV)→List (List PV)→List (List PV),aF.oi=bJ→∀cP:Int→Int→Int,aF.sub=cP→∀df:Int→Int→Int,aF.add=df→∀bu:IntKind→Int→Int,aF.wrap=bu→∀aI:List (List PV)→Int→List PV,aF.rat=aI→∀aJ:Int→List (List PV)→Nat→Prop,aF.tu=aJ→aF.wY=zl→aF.seq=QU→aF.not=QQ→aF.le=Yr→aF.eq=Ys→aF.mi=l8→aF.lt=Me→F ⟨bu,df,cP,tV,yy,oZ,IW,Bv,QP,Me,Yr,Ys,QQ,QR,QS,Yt,IX,E7,zl,km,lB,I9,IY,zw,QT,QU,QV,l8,aI,aJ,bJ,IZ,QW,QX,I0,E8,yx,I1,eo,QY,I2,nJ,eV,QZ,Q0,Q1,I3,I4,I5,I6,vU,Bw,yw,zm,I7,uH,Bx,zu,vT,zn,zo,E9,uG,I8,zp,zq,Ki,zt⟩
theorem az {F:Ar→Prop} (h:AZ F):F aF:=h _ _ _ _ _ _ _ _ _ _ _ _ _ _ _ _ _ _ _ _ _ _ _ _ _ _ _ _ _ _ _ _ _ _ _ _ _ _ _ _ _ _ _ _ _ _ rfl rfl rfl rfl rfl rfl rfl rfl rfl rfl rfl rfl rfl rfl rfl rfl rfl rfl rfl rfl rfl rfl rfl rfl rfl rfl rfl rfl _ rfl _ rfl rfl _ rfl rfl _ rfl _ rfl rfl rfl _ rfl rfl _ rfl _ rfl rfl rfl _ rfl rfl rfl rfl _ _ rfl rfl _ rfl _ rfl _ rfl _ rfl rfl _ rfl _ rfl _ rfl _ rfl _ rfl _ rfl _ rfl rfl rfl rfl rfl rfl rfl rfl
theorem pZ {f:FuncId} {ac:cf} {eF:List RD} {nt:Nat} {ps:List PV} {res:PV} {accs:List Nat} (hc:cF mx accs f ac eF nt) (h:AZ fun A=>bH (CC Tryz.prog (GG mx)) A (Hf Tryz.prog (GG mx)) [.code ac] (rQ eF res) .normal (Am.start nt ps)) (hle:Nat.ble ps.length nt=true:=by exact rfl):pC mx f ps res:=
 E2 mixed hc (qaH hle) (az h:)
theorem pT {f:FuncId} {ac:cf} {eF:List RD} {nt:Nat} {ps:List PV} {res:PV} {accs:List Nat} {T:Mj} (hT:∀f ac eF nt,T f=some (ac,eF,nt)→∃accs,gF Tryz.prog (GG mx) accs f=some (ac,eF,nt)) (hc:cF mx accs f ac eF nt) (h:AZ fun A=>oI (CC Tryz.prog (GG mx)) A (Hf Tryz.prog (GG mx)) T→bH (CC Tryz.prog (GG mx)) A (Hf Tryz.prog (GG mx)) [.code ac] (rQ eF res) .normal (Am.start nt ps)) (hle:Nat.ble ps.length nt=true:=by exact rfl):pC mx f ps res:=
 E2 mixed hc (qaH hle) ((az h:) (eM mixed hT))
end Go.bt
end
section
open Go Go.Am
namespace Go.Am
abbrev Pz (α:Type):=List Nat→α×List Nat
def dX:Pz Nat:=fun l=>match l with|[]=>(0,[])|x::r=>(x,r)
def rS:Pz Bool:=fun l=>match l with|[]=>(false,[])|x::r=>((match x with|0=>false|_=>true),r)
def Yu {α:Type} (p:Pz α):Nat→Pz (List α)
 |0,l=>([],l)
 |n+1,l=>match p l with|(x,r)=>match Yu p n r with|(xs,r)=>(x::xs,r)
def fV {α:Type} (p:Pz α):Pz (List α):=fun l=>match dX l with|(n,r)=>Yu p n r
def Dv {α:Type} (p:Pz α):Pz (Option α):=fun l=>match dX l with|(0,r)=>(none,r)|(_+1,r)=>match p r with|(x,r)=>(some x,r)
def Q2:Pz IntKind:=fun l=>match dX l with|(0,r)=>(.i64,r)|(1,r)=>(.i32,r)|(2,r)=>(.u8,r)|(3,r)=>(.u32,r)|(_,r)=>(.u64,r)
def GS:Pz BinOp:=fun l=>match dX l with|(0,r)=>(.neq,r)|(1,r)=>(.lss,r)|(2,r)=>(.add,r)|(3,r)=>(.eql,r)|(4,r)=>(.geq,r)|(5,r)=>(.gtr,r)|(6,r)=>(.leq,r)|(7,r)=>(.sub,r)|(8,r)=>(.quo,r)|(9,r)=>(.shl,r)|(10,r)=>(.rem,r)|(11,r)=>(.mul,r)|(12,r)=>(.shr,r)|(_,r)=>(.and,r)
def zUn:Pz UnOp:=fun l=>match dX l with|(_,r)=>(.not,r)
def Yv:List Int:=[0,1,-1,2,65,90,5,100000000,500000,999999,85,74,48,57,11,10,9,30,31,40,20,32000,40000,2000,60,2896,2591,6,14,3,32,126,100,80,4,5000,63,43,58,39,65536,390,391,3000,200,500000000,1000000000000,-500000,393,392,52,9000,7,82,41,42,51,50,255,13,53,230,231,232,233,12,13000,26000,2500,20000,1000]
def T8:List UInt8:=[72,69,68,78,50,71,49,82,52,53,86,79,89,66,65,80,76,67,81,77,70,83,32,39,43,58,63,48,56,85,51,57,55,84,88]
def Bz {α:Type} (z:α):List α→Nat→α
 |[],_=>z
 |x::r,n=>match n with|0=>x|m+1=>Bz z r m
def zBy:List Nat→List UInt8
 |[]=>[]
 |n::r=>Bz 0 T8 n::zBy r
def T9:Nat→Pz PV
 |0,l=>(.mh,l)
 |f+1,l=>match dX l with
  |(0,r)=>match rS r with|(b,r)=>(.bool b,r)
  |(1,r)=>match Q2 r with|(k,r)=>match dX r with|(n,r)=>(.int k (Bz 0 Yv n),r)
  |(2,r)=>match fV dX r with|(s,r)=>(.str (zBy s),r)
  |(3,r)=>(.mh,r)
  |(4,r)=>(.yS,r)
  |(5,r)=>(.j8,r)
  |(6,r)=>(.oh,r)
  |(7,r)=>match dX r with|(g,r)=>match fV (T9 f) r with|(c,r)=>(.gM g c,r)
  |(8,r)=>match fV (T9 f) r with|(c,r)=>(.agg c,r)
  |(9,r)=>(.sl [] [],r)
  |(10,r)=>match fV (fV (T9 f)) r with|(a,r)=>match fV (fV (T9 f)) r with|(b,r)=>(.sl a b,r)
  |(11,r)=>match dX r with|(t,r)=>match T9 f r with|(v,r)=>(.iface t v,r)
  |(_,r)=>match fV (T9 f) r with|(c,r)=>(.ptr c,r)
def zP:Pz PV:=T9 9
def cA (p:Nat):Pz bR:=fun l=>match dX l with
 |(0,r)=>match zP r with|(p,r)=>(.k p,r)
 |(1,r)=>match fV zP r with|(p,r)=>(.g p,r)
 |(2,r)=>(.t p,r)
 |(3,r)=>(.t (p-1),r)
 |(4,r)=>(.t (p-2),r)
 |(5,r)=>(.t (p-3),r)
 |(n+6,r)=>(.t n,r)
def Yw (p:Nat):Pz (Nat×Nat×bR):=fun l=>match dX l with|(a,r)=>match dX r with|(b,r)=>match cA p r with|(x,r)=>((a,b,x),r)
def zOp (p:Nat):Nat→Pz wQ:=fun t r=>match t with
 |0=>match cA p r with|(x0,r)=>(.mv x0,r)
 |1=>match cA p r with|(x0,r)=>match Dv dX r with|(x1,r)=>(.ld x0 x1,r)
 |2=>match cA p r with|(x0,r)=>(.Ws x0,r)
 |3=>match cA p r with|(x0,r)=>match dX r with|(x1,r)=>(.pad x0 x1,r)
 |4=>match GS r with|(x0,r)=>match cA p r with|(x1,r)=>match cA p r with|(x2,r)=>(.bin x0 x1 x2,r)
 |5=>match cA p r with|(x0,r)=>match dX r with|(x1,r)=>(.ext x0 x1,r)
 |6=>match cA p r with|(x0,r)=>(.len x0,r)
 |7=>match cA p r with|(x0,r)=>match cA p r with|(x1,r)=>match dX r with|(x2,r)=>(.idx x0 x1 x2,r)
 |8=>match dX r with|(x0,r)=>match fV (cA p) r with|(x1,r)=>(.call x0 x1,r)
 |9=>match cA p r with|(x0,r)=>match cA p r with|(x1,r)=>match dX r with|(x2,r)=>(.st x0 x1 x2,r)
 |10=>match dX r with|(x0,r)=>match fV (cA p) r with|(x1,r)=>(.SI x0 x1,r)
 |11=>match fV zP r with|(x0,r)=>match fV (Yw p) r with|(x1,r)=>(.mk x0 x1,r)
 |12=>match dX r with|(x0,r)=>match cA p r with|(x1,r)=>match Dv (cA p) r with|(x2,r)=>match Dv (cA p) r with|(x3,r)=>(.Li x0 x1 x2 x3,r)
 |13=>match dX r with|(x0,r)=>match dX r with|(x1,r)=>match cA p r with|(x2,r)=>match cA p r with|(x3,r)=>(.app x0 x1 x2 x3,r)
 |14=>match Q2 r with|(x0,r)=>match cA p r with|(x1,r)=>(.Wt x0 x1,r)
 |15=>match cA p r with|(x0,r)=>match dX r with|(x1,r)=>(.box x0 x1,r)
 |16=>match fV zP r with|(x0,r)=>(.alloc x0,r)
 |17=>match cA p r with|(x0,r)=>match dX r with|(x1,r)=>match Dv dX r with|(x2,r)=>(.SW x0 x1 x2,r)
 |18=>match zUn r with|(x0,r)=>match cA p r with|(x1,r)=>(.un x0 x1,r)
 |19=>match cA p r with|(x0,r)=>(.lens x0,r)
 |20=>match cA p r with|(x0,r)=>match cA p r with|(x1,r)=>match cA p r with|(x2,r)=>(.pick x0 x1 x2,r)
 |21=>match dX r with|(x0,r)=>match fV (cA p) r with|(x1,r)=>(.c8 x0 x1,r)
 |22=>match GS r with|(x0,r)=>match fV dX r with|(x1,r)=>match cA p r with|(x2,r)=>match cA p r with|(x3,r)=>(.beq x0 x1 x2 x3,r)
 |23=>match GS r with|(x0,r)=>match cA p r with|(x1,r)=>match cA p r with|(x2,r)=>(.CU x0 x1 x2,r)
 |24=>match GS r with|(x0,r)=>match cA p r with|(x1,r)=>match cA p r with|(x2,r)=>(.CV x0 x1 x2,r)
 |25=>match cA p r with|(x0,r)=>(.Xe x0,r)
 |26=>match cA p r with|(x0,r)=>(.Wu x0,r)
 |27=>match cA p r with|(x0,r)=>(.Ql x0,r)
 |28=>match dX r with|(x0,r)=>match cA p r with|(x1,r)=>(.Wv x0 x1,r)
 |29=>match dX r with|(x0,r)=>match fV (cA p) r with|(x1,r)=>(.SJ x0 x1,r)
 |30=>match dX r with|(x0,r)=>match dX r with|(x1,r)=>match fV zP r with|(x2,r)=>match cA p r with|(x3,r)=>match cA p r with|(x4,r)=>(.SK x0 x1 x2 x3 x4,r)
 |31=>match cA p r with|(x0,r)=>match Dv (cA p) r with|(x1,r)=>match Dv (cA p) r with|(x2,r)=>(.sH x0 x1 x2,r)
 |32=>match cA p r with|(x0,r)=>match cA p r with|(x1,r)=>match dX r with|(x2,r)=>match dX r with|(x3,r)=>(.Lj x0 x1 x2 x3,r)
 |33=>match cA p r with|(x0,r)=>match cA p r with|(x1,r)=>(.SL x0 x1,r)
 |34=>match cA p r with|(x0,r)=>match fV (cA p) r with|(x1,r)=>(.AF x0 x1,r)
 |35=>match rS r with|(x0,r)=>match cA p r with|(x1,r)=>match cA p r with|(x2,r)=>(.SN x0 x1 x2,r)
 |36=>match dX r with|(x0,r)=>match fV (cA p) r with|(x1,r)=>(.CW x0 x1,r)
 |37=>match dX r with|(x0,r)=>match fV (cA p) r with|(x1,r)=>(.SP x0 x1,r)
 |38=>match dX r with|(x0,r)=>match cA p r with|(x1,r)=>match cA p r with|(x2,r)=>(.UM x0 x1 x2,r)
 |39=>match cA p r with|(x0,r)=>(.SQ x0,r)
 |40=>match cA p r with|(x0,r)=>match dX r with|(x1,r)=>(.SU x0 x1,r)
 |41=>match cA p r with|(x0,r)=>match cA p r with|(x1,r)=>match dX r with|(x2,r)=>(.SV x0 x1 x2,r)
 |42=>match rS r with|(x0,r)=>match GS r with|(x1,r)=>match cA p r with|(x2,r)=>match cA p r with|(x3,r)=>(.AG x0 x1 x2 x3,r)
 |43=>match rS r with|(x0,r)=>match rS r with|(x1,r)=>match dX r with|(x2,r)=>(.SX x0 x1 x2,r)
 |44=>(.Ww,r)
 |45=>match rS r with|(x0,r)=>match fV dX r with|(x1,r)=>match dX r with|(x2,r)=>match cA p r with|(x3,r)=>match cA p r with|(x4,r)=>match cA p r with|(x5,r)=>(.Qm x0 x1 x2 x3 x4 x5,r)
 |46=>match rS r with|(x0,r)=>match fV dX r with|(x1,r)=>match zP r with|(x2,r)=>match cA p r with|(x3,r)=>match cA p r with|(x4,r)=>(.sI x0 x1 x2 x3 x4,r)
 |47=>match dX r with|(x0,r)=>match cA p r with|(x1,r)=>match cA p r with|(x2,r)=>match cA p r with|(x3,r)=>(.AH x0 x1 x2 x3,r)
 |48=>match rS r with|(x0,r)=>match fV dX r with|(x1,r)=>match zP r with|(x2,r)=>match rS r with|(x3,r)=>match cA p r with|(x4,r)=>match cA p r with|(x5,r)=>(.Ll x0 x1 x2 x3 x4 x5,r)
 |49=>match cA p r with|(x0,r)=>(.Wx x0,r)
 |50=>match cA p r with|(x0,r)=>(.Wy x0,r)
 |51=>match cA p r with|(x0,r)=>(.Wz x0,r)
 |52=>match cA p r with|(x0,r)=>(.WA x0,r)
 |53=>match cA p r with|(x0,r)=>(.Gr x0,r)
 |54=>match cA p r with|(x0,r)=>(.Gs x0,r)
 |55=>match cA p r with|(x0,r)=>(.CX x0,r)
 |56=>match dX r with|(x0,r)=>match fV zP r with|(x1,r)=>(.sJ x0 x1,r)
 |57=>match cA p r with|(x0,r)=>(.WB x0,r)
 |58=>match dX r with|(x0,r)=>match dX r with|(x1,r)=>match cA p r with|(x2,r)=>(.WC x0 x1 x2,r)
 |59=>match GS r with|(x0,r)=>match cA p r with|(x1,r)=>match cA p r with|(x2,r)=>(.pp x0 x1 x2,r)
 |60=>match cA p r with|(x0,r)=>(.SY x0,r)
 |61=>match dX r with|(x0,r)=>match cA p r with|(x1,r)=>match cA p r with|(x2,r)=>(.SZ x0 x1 x2,r)
 |_=>match dX r with|(x0,r)=>match cA p r with|(x1,r)=>match cA p r with|(x2,r)=>(.AJ x0 x1 x2,r)
def zAI (prev:Nat):Pz AI:=fun l=>match dX l with
 |(h,r)=>match h%3 with
  |0=>match zOp prev (h/3) r with|(o,r)=>(⟨some (prev+1),o,none⟩,r)
  |1=>match zOp prev (h/3) r with|(o,r)=>(⟨none,o,none⟩,r)
  |_=>match dX r with|(d,r)=>match dX r with|(g,r)=>match zOp prev (h/3) r with|(o,r)=>(⟨(match d with|0=>none|n+1=>some n),o,(match g with|0=>none|n+1=>some (n/2,(match n%2 with|0=>false|_=>true)))⟩,r)
def Yx:Nat→Nat→Pz (List AI)
 |0,_,l=>([],l)
 |n+1,prev,l=>match zAI prev l with|(x,r)=>match Yx n (match x.d with|some d=>d|none=>prev) r with|(xs,r)=>(x::xs,r)
def vV:Nat→Pz cf
 |0,l=>(.skip,l)
 |f+1,l=>match dX l with
  |(0,r)=>(.skip,r)
  |(1,r)=>match dX r with|(n,r)=>match Yx n 0 r with|(o,r)=>match Dv (fV (fV dX)) r with|(t,r)=>(.pA o t,r)
  |(2,r)=>match vV f r with|(a,r)=>match vV f r with|(b,r)=>(.seq a b,r)
  |(3,r)=>match cA 0 r with|(c,r)=>match vV f r with|(a,r)=>match vV f r with|(b,r)=>(.cond c a b,r)
  |(4,r)=>match dX r with|(i,r)=>match vV f r with|(b,r)=>(.block i b,r)
  |(5,r)=>match vV f r with|(b,r)=>(.loop b,r)
  |(6,r)=>match dX r with|(i,r)=>(.exit i,r)
  |(_,r)=>(.ret,r)
def zT1:List (List Nat):=[[0,2],[2],[3],[0]]
def zT2:List (List (List Nat)):=[[[9],[4],[12],[1],[5],[11],[24],[7],[0,1],[1,2],[6],[14],[2,1],[8],[23],[10]],[[0,7],[0,3],[0,0],[0,2,1],[3,2],[13],[4,2],[19],[21],[2,2],[15],[20],[18],[5,2],[0,1,0],[0,0,1]],[[30],[0,9],[26],[60],[28],[22],[17],[3,2,1],[0,1,2],[16],[27],[0,6],[0,0,1,0,0],[6,2],[3,2,0],[0,2,0,7]],[[28,2],[2,0],[0,0,1,2],[33],[50],[0,2,3],[0,2,2],[0,11],[7,6],[0,2,2,1],[29],[47],[10,9],[0,0,0,0],[31],[0,4]],[[25],[3,2,0,1],[0,0,2],[9,2],[0,1,0,1,2],[32],[3,1],[0,2,0,2,1],[45],[2,0,1],[39],[36],[0,0,0,1],[35],[2,1,1,2,5],[54]],[[2,3,2],[2,1,3],[2,5],[34],[0,0,1,0,0,1],[16,15],[9,1],[0,3,2],[0,0,0,0,0,2,1],[14,13],[9,8],[2,1,2,2],[0,1,2,14],[5,4,3],[0,2,2,1,3,2],[37]],[[0,6,0,2,4,1],[0,1,0,0],[0,7,0,2,1],[5,4],[0,8],[2,1,2],[4,1],[38],[8,9],[2,1,4],[2,1,1,2,3],[42],[12,11],[11,12],[18,2,12],[4,0,2]],[[1,2,2],[48],[1,13],[0,13],[0,3,2,0],[7,2],[52],[0,2,0,3],[41],[3,2,1,0,9],[0,17],[0,2,0,15],[22,21],[20,19],[13,14],[0,14]],[[0,2,5],[56],[18,2,0,0,1,0,0,0,4,0,5,2,1,1,14],[4,3,2],[0,2,17],[0,0,1,0],[0,12],[1,3,2],[0,1,0,1],[1,1],[0,0,9],[18,17],[8,7,6,5,4],[12,2],[0,15],[40]],[[90],[4,5,6,7],[27,27],[1,5],[11,10],[6,5],[1,0,0,2],[1,1,2],[15,16],[2,0,14],[5,4,3,2,1],[5,4,3,2],[57],[4,4],[0,10],[63]],[[0,16],[0,0,1,0,0,1,0,0,1,0,0],[59],[13,12,11],[102],[3,3,2],[62],[10,2],[0,2,11],[87],[5,4,8,7,6],[14,13,12,11],[5,2,1],[8,7,6],[18,2],[44]]]
def zT3:List (List (List Nat)):=[[[51],[80],[2,1,1,2],[46],[5,6],[66],[69],[43],[65],[84],[58],[5,2,1,1,14],[77],[72],[61],[49]],[[68],[93],[227],[55],[64],[79],[99],[76],[96],[71],[53],[121],[78],[108],[105],[86]],[[94],[85],[136],[73],[97],[186],[98],[18,2,0,0,1,0,0,0,4],[91],[0,0,1,0,0,0,4],[101],[89],[144],[103],[74],[81]],[[1,14],[67],[82],[88],[95],[170],[83],[104],[329],[75],[92],[168],[107],[132],[155],[131]],[[70],[120],[171],[5,6,7],[117],[126],[187],[167],[258],[179],[109],[115],[119],[111],[125],[166]],[[162],[129],[100],[127],[243],[106],[118],[145],[199],[0,5,2,1,1,14],[194],[141],[165],[185],[138],[142]],[[139],[113],[123],[178],[110],[112],[124],[160],[290],[150],[140],[190],[254],[163],[164],[261]],[[172],[114],[161],[180],[183],[128],[137],[116],[276],[309],[245],[228],[189],[275],[259],[146]],[[169],[156],[177],[133],[130],[134],[151],[175],[176],[122],[195],[250],[249],[278],[311],[251]],[[222],[159],[305],[268],[0,6,0,2],[293],[330],[331],[332],[328],[319],[320],[292],[230],[233],[229]],[[231],[232],[234],[235],[236],[237],[269],[306],[271],[270],[307],[273],[272],[274],[308],[188]],[[191],[192],[193],[255],[256],[262],[196],[302],[157],[257],[260],[238],[294],[174],[135],[173]],[[181],[182],[197],[198],[184],[277],[310],[312],[313],[326],[226],[143],[323],[252],[253],[147]],[[148],[149],[152],[153],[158]]]
def zW (k:List Nat):Nat→Nat→List Nat
 |0,_=>k
 |_,1=>k
 |f+1,n=>match Nat.blt (n%16) 4 with
  |true=>Bz [] zT1 (n%16)++zW k f (n/16)
  |false=>match Nat.blt (n%16) 15 with
   |true=>Bz [] (Bz [] zT2 (n%16-4)) (n/16%16)++zW k f (n/256)
   |false=>Bz [] (Bz [] zT3 (n/16%16)) (n/256%16)++zW k f (n/4096)
def Yy:List Nat→List Nat
 |[]=>[]
 |n::r=>zW (Yy r) 9999 n
def dc (n:List Nat):cf:=(vV 300 (Yy n)).1
def dL (n:List Nat) {c:cf} (_:dc n=c:=by cbv):cf:=c
end Go.Am
end
