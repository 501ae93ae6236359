import Derived.ChangeShapes
import Derived.OpenShut
import Derived.OpenVars
import Derived.Carry
import Derived.ChangeSame
import Derived.RowKit
import Derived.Test.YtfaccbkibjkfjaaGreatDoorProg
import Derived.Test.YtfaccbkibjkfjaaGreatDoorT06
set_option linter.all false
set_option maxRecDepth 100000
set_option maxHeartbeats 1000000
namespace Go.Am
section
variable {P:Program} {G:Nat->Option (List PV)} {S:Nat->Prop} {st:St} {w:World} {accs:List Nat} {ρ:AV->Value->Prop} {A:Ar} {C:CT} {I:IC} {N:St->Prop} {Q:Ex->St->Prop} {T:Mj} {U:Bool} {a:List Item} {b:cf} {c:List Item} {d:Option Nat} {e:List Item} {f:FuncId} {g:Nat} {j:Int} {k:IntKind} {l:List Int} {n:Nat} {ps:List PV} {q:List RD} {r:bp} {res:PV} {s st0:St} {v:Nat} {α:Type}
def uD(P:Program):ResultVar->Option RD
 |.tmp t=>some (.tmp t)
 |.cell a t=>match ey P t with
  |some true=>match dK P t with|some n=>some (.cell a (some n))|none=>none
  |some false=>some (.cell a none)
  |none=>none
def fe(P:Program):List ResultVar->Option (List RD)
 |[]=>some []
 |x::r=>match uD P x with
  |some d=>match fe P r with|some ds=>some (d::ds)|none=>none
  |none=>none
def fN(a:List RD)(st:St):Option PV:=
 match mN st a with
 |some vs=>match lS st.mem (one? vs)with|some (p,_)=>some p|none=>none
 |none=>none
def rQ(a:List RD)(res:PV):Ex->St->Prop
 |.exit _,_=>False
 |_,st=>fN a st=some res
def start(a:Nat)(ps:List PV):St:=⟨ps.map .pv++List.replicate (a-ps.length) .dead,[],0,List.replicate a none⟩
section
variable {w0:World} {own0:Nat->Prop} {hvs:List Value×List Deferred} {S0:Nat->Prop} {γ:Nat->Option Nat} {a:Act} (h:dW w0 own0 hvs G γ S st a w)
include h
theorem L9{r:ResultVar}{d:RD}{v:AV}(o:uD P r=some d)(f:Lx st d=some v): ∃u,((match r with|.tmp t=>pure (a.tmps.getD t undef)|.cell x t=>do loadVar t (<-asAddr (a.tmps.getD x undef)):Sem Value)).run P w=.ok u w/\lF S w (Ref γ S w st.mem) v u:=by cases r with|tmp t=>simp only[uD,qaa]at o;subst o;simp only[Lx,qaa]at f;subst f;exact⟨_,Sem.run_pure _ _ _,h.slot t⟩|cell x t=>simp only[uD]at o;have E:∃g n,d=.cell x n/\ey P t=some g/\(match g with|true=>∃m,dK P t=some m/\n=some m|false=>n=none):=by{grind};obtain⟨g,n,rfl,s,l⟩:=E;simp only[Lx]at f;split at f;{rename_i id q hs;split at f;{rename_i O y;have i:=h.slot x;rw[hs]at i;simp only[lF,Ref,y]at i;obtain⟨b,F,i⟩:=i;obtain⟨Q,c,e,z,G,R,A⟩:=h.mem id _ y;rw[F]at z;cases z;have j:At w b=some c:=by{simp[At,G]};simp only[i,asAddr,Sem.run_bind,Sem.run_pure,Result.andThen_ok];cases g with|false=>simp only at l;subst l;simp only[js]at f;split at f;{rename_i H hl;split at hl;{rename_i p I;simp only[Out.val.injEq]at hl;subst hl;simp only[qaa]at f;subst f;obtain⟨u,B,J⟩:=bB.get A.1 I;rw[qaA]at B;exact⟨u,kH s j B,J⟩};grind};grind|true=>simp only at l;obtain⟨m,K,rfl⟩:=l;simp only[js]at f;split at f;{rename_i H hl;split at hl;{rename_i L;simp only[Out.val.injEq]at hl;subst hl;simp only[qaa]at f;subst f;obtain⟨C,M,N,D⟩:=bB.list ((A.1.drop q).take m);rw[qaA]at D;have k:C.length=m:=by{rw[N];simp;omega};exact⟨_,kI s K j k D,by simp only[lF];exact⟨C,rfl,M⟩⟩};grind};grind};grind};grind
theorem vM:∀{l:List ResultVar} {e:List RD} {f:List AV},fe P l=some e->mN st e=some f->∃c:List Value,(l.mapM fun r=>(match r with|.tmp t=>pure (a.tmps.getD t undef)|.cell x t=>do loadVar t (<-asAddr (a.tmps.getD x undef)):Sem Value)).run P w=.ok c w/\au S w (Ref γ S w st.mem) f c
|[],e,f,hd,b=>by simp only[fe,qaa]at hd;subst hd;simp only[mN,qaa]at b;subst b;exact⟨[],s_,by simp only[au]⟩
|r::l,e,f,hd,b=>by simp only[fe]at hd;split at hd;{rename_i d g;split at hd;{rename_i i j;simp only[qaa]at hd;subst hd;simp only[mN]at b;split at b;{rename_i v k;split at b;{rename_i m n;simp only[qaa]at b;subst b;obtain⟨u,h1,h2⟩:=L9 h g k;obtain⟨c,o,p⟩:=vM j n;refine⟨u::c,?_,by simp only[au];exact⟨u,c,rfl,h2,p⟩⟩;simp only[List.mapM_cons,Sem.run_bind,h1,Result.andThen_ok,o,Sem.run_pure]};cases b};cases b};cases hd};cases hd
theorem vN{d:Func}{j:List RD}{v:AV}(k:fe P d.results.toList=some j)(g:lT j st=some v): ∃u,(results d a.tmps).run P w=.ok u w/\lF S w (Ref γ S w st.mem) v u:=by unfold lT at g;split at g;{rename_i l hvs;simp only[qaa]at g;subst g;obtain⟨b,m,c⟩:=vM h k hvs;have i:(results d a.tmps).run P w=.ok (if o:b.toArray.size=1 then b.toArray[0]else .tuple b.toArray) w:=by{have e:d.results=d.results.toList.toArray:=s_;unfold results;rw[e,List.mapM_toArray];simp only[Sem.run_bind,Sem.run_map,Sem.run_pure,map_eq_pure_bind];exact congrArg (fun r=>Result.andThen (Result.andThen r (fun(a:List Value) w'=>.ok a.toArray w')) (fun a w'=>.ok (if h:a.size=1 then a[0]else Value.tuple a) w')) m};rcases l with _|⟨x,_|⟨y,z⟩⟩;{simp only[au]at c;subst c;exact⟨.tuple #[],by rw[i];simp,by simp only[one?,lF];exact⟨[],s_,by simp only[au]⟩⟩};{simp only[au]at c;obtain⟨u,r,rfl,n,rfl⟩:=c;exact⟨u,by rw[i];simp,n⟩};have f:b.length≠1:=by{simp only[au]at c;grind};exact⟨.tuple b.toArray,by rw[i];simp[f],by simp only[one?,lF];exact⟨b,rfl,c⟩⟩};grind
theorem vO{d:Func}{e:List RD}(f:fe P d.results.toList=some e)(c:fN e st=some res): ∃v b,(results d a.tmps).run P w=.ok v w/\aD (cV γ S b) w res v:=by unfold fN at c;split at c;{rename_i g hvs;split at c;{rename_i p b hl;simp only[qaa]at c;subst c;obtain⟨u,i,j⟩:=vN h f (v:=one? g) (by unfold lT;rw[hvs]);exact⟨u,b,i,x9 h hl j⟩};grind};grind
end
theorem xD{nt:Nat}:∀{a:List Value},aM S w ps a->∀(n i:Nat),lF S w ρ ((ps.map AV.pv++List.replicate n AV.dead).getD i AV.dead) ((a.toArray++Array.replicate n undef).getD i undef):=by induction ps with|nil=>intro a h n i;simp only[aM]at h;subst h;have:(List.map AV.pv []++List.replicate n AV.dead).getD i .dead=.dead:=by{grind};rw[this];simp only[lF]|cons p ps b=>intro a h n i;simp only[aM]at h;obtain⟨v,r,rfl,d,c⟩:=h;cases i with|zero=>have e:((v::r).toArray++Array.replicate n undef).getD 0 undef=v:=by{simp[qaJ,Array.getElem?_append]};rw[e];simp only[qaj,qaN,qc7,lF];grind|succ i=>have:=b c n i;have e:((v::r).toArray++Array.replicate n undef).getD (i+1) undef=(r.toArray++Array.replicate n undef).getD i undef:=by{rw[qaJ,qaJ];grind};grind
theorem aM.uE{a:List Value}(h:aM S w ps a):a.length=ps.length:=by have:=aM.length h;omega
theorem Bq(C:P.follows .mixedOrders=true){n:Func}{c:Code}{t:cf}(u:P.funcs[f]? =some n)(a:n.body=some c)(D:(n.name== "runtime.NumGoroutine")=false)(E:bD P G accs c=some t)(F:fe P n.results.toList=some q)(x:n.ntmps=g)(R:ps.length<=g)(h:bH (CC P G) aF (Hf P G) [.code t] (rQ q res) .normal (start g ps)):bE P G f ps res:=by intro S w r H I y;have o:=aM.uE y;unfold dN;have J:(callFunc f r.toArray).run P w=.ok (.enter f r.toArray) w:=by{have K:¬n.name= "runtime.NumGoroutine" :=by{simpa using D};simp[callFunc,run_program,u,K,a]};rw[J];simp only;refine qdc u a ?_;have L:ft w (fun _=>False) ([],[]) G S (start g ps) {tmps:=r.toArray++Array.replicate (n.ntmps-r.toArray.size) undef,defers:=[]} w:=by{have M:∀id,aj (start g ps).mem id=none:=by{intro id;simp only[start,aj,List.getD_eq_getElem?_getD,qbD];split<;>rfl};refine⟨fun _=>none,S,fun _ h=>h,fun _ h=>.inl h,{size:=?_,slot:=?_,held:=?_,defers:=rfl,mem:=?_,lU:=?_,inj:=?_,own:=?_,bound:=H,eJ:=?_,jn:=I,kept:=fun _ _ _=>rfl,os:=rfl,tape:=rfl,output:=rfl,eY:=qak _}⟩;{simp[start,o,x]};{intro i;have:=xD (nt:=g) (ρ:=Ref (fun _=>none) S w (start g ps).mem) y (g-ps.length) i;rw[x];simpa[start,St.slot,o]using this};{simp only[start,au]};{intro id T z;rw[M id]at z;cases z};{intro i b a;cases a};{intro i j b a;cases a};{intro i b a;cases a};intro i b a;cases a};refine nH C c E L (Qa:=rQ q res) h ?_;intro e s A w' N p;obtain⟨γ,S',bg,Cy,d⟩:=N;have key:fN q s=some res->A.defers=[]/\∃v,(results n A.tmps).run P w'=.ok v w'/\∃B,Ending.returned v=.returned B/\(RowKit.Below w.heap.size w w'/\aD (fun b=>S b\/(w.heap.size<=b/\b<w'.heap.size)) w' res B):=by{intro p;obtain⟨v,b,O,Q⟩:=vO d F p;refine⟨d.defers,v,O,v,rfl,⟨d.os,d.tape,d.output,d.eY,fun k l=>d.kept k l (fun h=>h)⟩,?_⟩;refine aD.later (fun k l=>⟨?_,rfl,rfl⟩) _ Q;rcases l with l|⟨_,i,l⟩;{rcases Cy k l with m|m|m;{exact .inl m};{exact .inr ⟨m,d.bound k l⟩};exact m.elim};rcases(d.own i k l).2 with m|m;{exact .inr ⟨m,d.eJ i k l⟩};exact m.elim};cases e with|normal=>exact key p|ret=>exact key p|exit id=>exact p.elim
def E1(b:List RD)(res:PV)(e:Ex)(st:St):Prop:=∃a,Fg st a/\rQ b res e a
theorem zj(B:P.follows .mixedOrders=true){n:Func}{c:Code}{s:cf}(t:P.funcs[f]? =some n)(a:n.body=some c)(C:(n.name== "runtime.NumGoroutine")=false)(D:bD P G accs c=some s)(E:fe P n.results.toList=some q)(u:n.ntmps=g)(U:ps.length<=g)(h:bH (CC P G) aF (Hf P G) [.code s] (E1 q res) .normal (start g ps)):bE P G f ps res:=by intro S w r F H x;have o:=aM.uE x;unfold dN;have I:(callFunc f r.toArray).run P w=.ok (.enter f r.toArray) w:=by{have J:¬n.name= "runtime.NumGoroutine" :=by{simpa using C};simp[callFunc,run_program,t,J,a]};rw[I];simp only;refine qdc t a ?_;have K:ft w (fun _=>False) ([],[]) G S (start g ps) {tmps:=r.toArray++Array.replicate (n.ntmps-r.toArray.size) undef,defers:=[]} w:=by{have L:∀id,aj (start g ps).mem id=none:=by{intro id;simp only[start,aj,List.getD_eq_getElem?_getD,qbD];split<;>rfl};refine⟨fun _=>none,S,fun _ h=>h,fun _ h=>.inl h,{size:=?_,slot:=?_,held:=?_,defers:=rfl,mem:=?_,lU:=?_,inj:=?_,own:=?_,bound:=F,eJ:=?_,jn:=H,kept:=fun _ _ _=>rfl,os:=rfl,tape:=rfl,output:=rfl,eY:=qak _}⟩;{simp[start,o,u]};{intro i;have:=xD (nt:=g) (ρ:=Ref (fun _=>none) S w (start g ps).mem) x (g-ps.length) i;rw[u];simpa[start,St.slot,o]using this};{simp only[start,au]};{intro id V y;rw[L id]at y;cases y};{intro i b a;cases a};{intro i j b a;cases a};{intro i b a;cases a};intro i b a;cases a};refine nH B c D K (Qa:=E1 q res) h ?_;intro e M z w' N p;obtain⟨O,Q,p⟩:=p;obtain⟨γ,S',bg,Cy,d⟩:=mo Q N;have key:fN q O=some res->z.defers=[]/\∃v,(results n z.tmps).run P w'=.ok v w'/\∃A,Ending.returned v=.returned A/\(RowKit.Below w.heap.size w w'/\aD (fun b=>S b\/(w.heap.size<=b/\b<w'.heap.size)) w' res A):=by{intro p;obtain⟨v,b,R,T⟩:=vO d E p;refine⟨d.defers,v,R,v,rfl,⟨d.os,d.tape,d.output,d.eY,fun k l=>d.kept k l (fun h=>h)⟩,?_⟩;refine aD.later (fun k l=>⟨?_,rfl,rfl⟩) _ T;rcases l with l|⟨_,i,l⟩;{rcases Cy k l with m|m|m;{exact .inl m};{exact .inr ⟨m,d.bound k l⟩};exact m.elim};rcases(d.own i k l).2 with m|m;{exact .inr ⟨m,d.eJ i k l⟩};exact m.elim};cases e with|normal=>exact key p|ret=>exact key p|exit id=>exact p.elim
theorem rR:∀{mem:List (Option Obj)},pD mem=true->∀i,aj mem i=none
|[],_,i=>by simp[aj]
|none::r,h,i=>by cases i with|zero=>simp[aj]|succ i=>have:=rR (mem:=r) (by simpa only[pD]using h) i;simpa[aj]using this
|some _::_,h,_=>by simp[pD]at h
theorem oU(n:Nat)(a:List (Option Obj))(i:Nat):aj (AR n a) i=aj a i:=by unfold AR;split;{rename_i h;unfold aj;by_cases b:i<n;{simp[List.getD_eq_getElem?_getD,qch,b]};have:=rR h (i-n);unfold aj at this;simp only[List.getD_eq_getElem?_getD,List.getElem?_drop,show n+(i-n)=i by omega]at this;simp[List.getD_eq_getElem?_getD,qch,b];rw[this]};rfl
theorem au.vP:∀{b:List AV} {a:List Value},b.length=a.length->(∀i,lF S w ρ (b.getD i .dead) (a.getD i undef))->au S w ρ b a
|[],[],_,_=>by simp only[au]
|x::b,v::a,hl,h=>by simp only[au];exact⟨v,a,rfl,by simpa using h 0,au.vP (by simpa using hl) (fun i=>by simpa using h (i+1))⟩
|[],_::_,hl,_=>by simp at hl
|_::_,[],hl,_=>by simp at hl
theorem au.slots:∀{b:List AV} {a:List Value},au S w ρ b a->∀i,lF S w ρ (b.getD i .dead) (a.getD i undef)
|[],a,h,i=>by simp only[au]at h;subst h;simp only[List.getD_nil,lF]
|x::b,a,h,i=>by simp only[au]at h;obtain⟨v,r,rfl,h1,h2⟩:=h;cases i with|zero=>simpa using h1|succ i=>simpa using au.slots h2 i
theorem au.XZ(n:Nat):au S w ρ (List.replicate n .dead) (List.replicate n undef):=by induction n with|zero=>simp only[List.replicate_zero,au]|succ n a=>simp only[qcZ,au];exact⟨_,_,rfl,by simp only[lF],a⟩
theorem au.cut{b:List AV}{a c:List Value}(h:au S w ρ b (a++c)):au S w ρ (b.take a.length) a/\au S w ρ (b.drop a.length) c:=by have hl:=au.length h;have d:au S w ρ (b.take a.length++b.drop a.length) (a++c):=by{rw[qbR];exact h};obtain⟨u,v,e,f,i⟩:=au.split d;have g:=au.length f;simp only[qal]at hl;have:u.length=a.length:=by{rw[g,qaT];omega};obtain⟨rfl,rfl⟩:=List.append_inj e this.symm;grind
def gF(P:Program)(G:Nat->Option (List PV))(accs:List Nat)(f:FuncId):Option (cf×List RD×Nat):=
 match P.funcs[f]? with
 |none=>none
 |some fn=>match fn.body with
  |none=>none
  |some c=>match fn.name== "runtime.NumGoroutine" with
   |true=>none
   |false=>match bD P G accs c with
    |none=>none
    |some ac=>match fe P fn.results.toList with
     |none=>none
     |some a=>some (ac,a,fn.ntmps)
theorem acy{d:List RD}{e:Nat}(h:gF P G accs f=some (b,d,e)): ∃a c,P.funcs[f]? =some a/\a.body=some c/\(a.name== "runtime.NumGoroutine")=false/\bD P G accs c=some b/\fe P a.results.toList=some d/\a.ntmps=e:=by unfold gF at h;split at h;all_goals grind
theorem E2{d:List RD}{a:Nat}(e:P.follows .mixedOrders=true)(h:gF P G accs f=some (b,d,a))(g:ps.length<=a)(i:bH (CC P G) aF (Hf P G) [.code b] (rQ d res) .normal (start a ps)):bE P G f ps res:=by obtain⟨p,c,j,k,l,m,n,o⟩:=acy h;exact Bq e j k l m n o g i
theorem IM{d:List RD}{a:Nat}(e:P.follows .mixedOrders=true)(h:gF P G accs f=some (b,d,a))(g:ps.length<=a)(i:bH (CC P G) aF (Hf P G) [.code b] (E1 d res) .normal (start a ps)):bE P G f ps res:=by obtain⟨p,c,j,k,l,m,n,o⟩:=acy h;exact zj e j k l m n o g i
theorem IP{C:cf}{t:List RD}{k:Nat}(g:P.follows .mixedOrders=true)(h:gF P G accs f=some (C,t,k)){d:List AV}{K:AV->St->Prop}(L:fw (CC P G) aF (Hf P G) C (enter k d st) (u0 t st.slots.length st.base K)):Hf P G f d st K:=by obtain⟨y,c,D,p,M,N,O,E⟩:=acy h;intro w0 own0 hvs S0 γ S a w vs bg Cy l F;have m:=au.length F;unfold dN;have Q:(callFunc f vs.toArray).run P w=.ok (.enter f vs.toArray) w:=by{have R:¬y.name= "runtime.NumGoroutine" :=by{simpa using M};simp[callFunc,run_program,D,R,p]};rw[Q];simp only;refine qdc D p ?_;have z:∀i,aj (st.mem++List.replicate k none) i=aj st.mem i:=by{intro i;unfold aj;grind};have hρ:∀x v,Ref γ S w st.mem x v->Ref γ S w (st.mem++List.replicate k none) x v:=Ref.later (bf.refl S w) (fun id s g=>⟨by rw[z];exact g,rfl,fun _ _=>⟨rfl,rfl⟩⟩);have T:au S w (Ref γ S w st.mem) st.slots a.tmps.toList:=au.vP (by simpa using l.size) (fun i=>by have:=l.slot i;simpa only[St.slot,qaJ,List.getD_eq_getElem?_getD,qbc]using this);have U:ft w0 own0 (a.tmps.toList++hvs.1,[]) G S0 (enter k d st) {tmps:=vs.toArray++Array.replicate (y.ntmps-vs.toArray.size) undef,defers:=[]} w:=by{refine⟨γ,S,bg,Cy,{l with size:=?_,slot:=?_,held:=?_,defers:=rfl,mem:=?_,lU:=?_}⟩;{simp[enter,m,E]};{intro i;have A:au S w (Ref γ S w (enter k d st).mem) (d++List.replicate (k-d.length) .dead) (vs++List.replicate (k-d.length) undef):=au.append (au.later (bf.refl S w) hρ _ F) (au.XZ _);have:=au.slots A i;simpa[enter,St.slot,m,E,List.getD_eq_getElem?_getD,qaJ,<-qbc]using this};{exact au.later (bf.refl S w) hρ _ (au.append T l.held)};{intro id s g;simp only[enter]at g;rw[z]at g;exact eK.later (bf.refl S w) hρ rfl (fun _ _=>rfl) (l.mem id s g)};intro i b p;simp only[enter];rw[z];exact l.lU i b p};refine nH g c N U L ?_;intro e j H w' V n;obtain⟨γ',S',W,X,q⟩:=V;have key:(match lT t j with|some v=>K v (leave st.slots.length st.base j)|none=>False)->H.defers=[]/\∃v,(results y H.tmps).run P w'=.ok v w'/\∃I,Ending.returned v=.returned I/\ ∃r o γ' S',K r o/\(∀b,S0 b->S' b)/\(∀b,S' b->S0 b\/w0.heap.size<=b\/own0 b)/\dW w0 own0 hvs G γ' S' o a w'/\lF S' w' (Ref γ' S' w' o.mem) r I:=by{intro n;split at n;{rename_i v Y;obtain⟨u,A,Z⟩:=vN q O Y;have hρ':∀x v,Ref γ' S' w' j.mem x v->Ref γ' S' w' (AR j.base j.mem) x v:=Ref.later (bf.refl S' w') (fun id s g=>⟨by rw[oU];exact g,rfl,fun _ _=>⟨rfl,rfl⟩⟩);have Br:=au.later (bf.refl S' w') hρ' _ q.held;obtain⟨B,J⟩:=au.cut Br;have X0:a.tmps.toList.length=st.slots.length:=by{simpa using l.size.symm};rw[X0]at B J;have Zo:=au.length B;refine⟨q.defers,u,A,u,rfl,v,_,γ',S',n,W,X,{q with size:=?_,slot:=?_,held:=J,defers:=l.defers,mem:=?_,lU:=?_},lF.later (bf.refl S' w') hρ' _ Z⟩;{simp only[leave];simpa using Zo.symm};{intro i;have:=au.slots B i;simpa only[leave,St.slot,qaJ,List.getD_eq_getElem?_getD,qbc]using this};{intro id s g;simp only[leave]at g;rw[oU]at g;exact eK.later (bf.refl S' w') hρ' rfl (fun _ _=>rfl) (q.mem id s g)};intro i b p;simp only[leave];rw[oU];exact q.lU i b p};exact n.elim};cases e with|normal=>exact key n|ret=>exact key n|exit id=>exact n.elim
theorem eM(e:P.follows .mixedOrders=true)(hT:∀f a b c,T f=some (a,b,c)->∃accs,gF P G accs f=some (a,b,c)):oI (CC P G) aF (Hf P G) T:=by intro f a b c g d st K i;obtain⟨accs,h⟩:=hT f a b c g;exact IP e h i
def vQ:Mj:=fun _=>none
theorem yt:oI C A I vQ:=by intro f b c d a;cases a
theorem aiZ{x:bp}(h:x=r)(a:r.holds C A I Q):x.holds C A I Q:=h▸a
theorem go(n:Nat)(h:run A vQ false n a st=r)(b:r.holds (CC P G) A (Hf P G) Q): bH (CC P G) A (Hf P G) a Q .normal st:=pF (Hf.mono P G) yt n r h b
theorem go1(n:Nat)(h:run A vQ false n [.code b] st=r)(a:r.holds (CC P G) A (Hf P G) Q): fw (CC P G) A (Hf P G) b st Q:=pF (Hf.mono P G) yt (is:=[.code b]) n r h a
theorem tS(P:Program)(G:Nat->Option (List PV)):Gv (Hf P G):=Hf.mono P G
theorem QH(dp:α->St->St)(J:α->Prop)(μ:α->Nat)(d:α)(i:Fg st0 (dp d st0))(j:J d)(h:∀a,J a->fw (CC P G) A (Hf P G) b (dp a st0) (fun e f=>match e with|.normal=>∃c,J c/\μ c<μ a/\Fg f (dp c st0)|e=>Q e f)): fw (CC P G) A (Hf P G) (.loop b) st0 Q:=by refine HW (tS P G) (fun n s=>∃a,J a/\n=μ a/\s=dp a st0) ⟨_,_,i,d,j,rfl,rfl⟩ ?_;rintro n s ⟨a,k,rfl,rfl⟩;refine fC (tS P G) b ?_ (h a k);intro e f g;cases e with|normal=>obtain⟨c,l,m,o⟩:=g;exact⟨_,_,m,o,c,l,rfl,rfl⟩|ret=>exact g|exit id=>exact g
theorem X3(dp:Nat->St->St)(n:Nat)(ok:Nat->Prop)(f:Fg st0 (dp 0 st0))(h:∀v:Nat,v<=n->(∀k,k<v->ok k)->fw (CC P G) A (Hf P G) b (dp v st0) (fun e c=>match e with|.normal=>v<n/\ok v/\Fg c (dp (v+1) st0)|e=>Q e c)): fw (CC P G) A (Hf P G) (.loop b) st0 Q:=by refine QH (α:=Nat) dp (fun v=>v<=n/\∀k,k<v->ok k) (fun v=>n-v) 0 f ⟨qcK _,fun k a=>absurd a (Nat.not_lt_zero _)⟩ ?_;rintro v ⟨g,a⟩;refine fC (tS P G) b ?_ (h v g a);intro e c d;cases e with|normal=>obtain⟨l,i,j⟩:=d;refine⟨v+1,⟨o_,fun k m=>?_⟩,o_,j⟩;by_cases e:k=v;{subst e;exact i};exact a k o_|ret=>exact d|exit id=>exact d
def de(C:CT)(A:Ar)(I:IC)(a:List Item)(Q:Ex->St->Prop)(N:St->Prop):Ex->St->Prop
 |.normal,s=>N s
 |.ret,s=>match kb a with
  |some ((b,n,base,d),r)=>u0 b n base (fun v c=>bH C A I r Q .normal (c.put d v)) .ret s
  |none=>Q .ret s
 |.exit id,s=>match exitTo id a with
  |some r=>bH C A I r Q .normal s
  |none=>qf id a=true/\Q (.exit id) s
theorem de.oV(b:kb a=none)(h:Q .ret s):de C A I a Q N .ret s:=by simp only[de,b];exact h
theorem de.X4{r:List Item}{id:Nat}(b:exitTo id a=some r)(h:bH C A I r Q .normal s):de C A I a Q N (.exit id) s:=by simp only[de,b];exact h
theorem aB(h:N s):(bp.fin .normal s).holds C A I (de C A I a Q N):=h
theorem ff(b:kb a=none)(h:Q .ret s):(bp.fin .ret s).holds C A I (de C A I a Q N):=de.oV (N:=N) b h
theorem wW{r:List Item}{id:Nat}(b:exitTo id a=some r)(h:bH C A I r Q .normal s):(bp.fin (.exit id) s).holds C A I (de C A I a Q N):=de.X4 (N:=N) b h
theorem aN{enc:α->List PV}{l:List α}(h:v<l.length):aF.rat (l.map enc) (Int.ofNat v)=enc l[v]:=by simp[aF,h]
theorem aO{enc:α->List PV}{l:List α}(h:v<l.length){a:Nat}(hs:(enc l[v]).length=a):aF.tu (Int.ofNat v) (l.map enc) a:=by have:=aN (enc:=enc) h;simp only[aF]at this ⊢;refine⟨s_,by simpa using h,by rw[this];exact hs⟩
theorem jJ(dp:Nat->St->St)(n:Nat)(ok:Nat->Prop)(f:Fg st0 (dp 0 st0))(h:∀v:Nat,v<=n->(∀k,k<v->ok k)->fw (CC P G) A (Hf P G) b (dp v st0) (de (CC P G) A (Hf P G) c Q (fun d=>v<n/\ok v/\Fg d (dp (v+1) st0)))): (bp.loop b st0 c).holds (CC P G) A (Hf P G) Q:=by refine X3 dp n ok f ?_;intro v g i;refine fC (tS P G) b ?_ (h v g i);intro e d a;cases e with|normal=>exact a|ret=>show bH _ _ _ c Q .ret d;rw[jv];simp only[de]at a;exact a|exit id=>simp only[de]at a;split at a;{rename_i r j;exact iq id c Q d r j a};exact acx id c Q d a.1 a.2
theorem bp.af{c:Bool}{a b:bp}(d:c=true->a.holds C A I Q)(e:c=false->b.holds C A I Q):(match c with|true=>a|false=>b).holds C A I Q:=by cases c;{exact e rfl};exact d rfl
@[simp] theorem ade{a b:Int}:aF.lt a b=decide (a<b):=rfl
@[simp] theorem agR{a b:Int}:aF.le a b=decide (a<=b):=rfl
@[simp] theorem std_eq{a b:Int}:aF.eq a b=decide (a=b):=rfl
@[simp] theorem X5{r:R_}:aF.mi r=r.length:=rfl
@[simp] theorem X6{r:B_}:aF.wY r=r.length:=rfl
theorem ao{a:List AV}{b:Bool}(h:dB st.mem a=some (ps,b))(e:bE P G f ps res)(g:b=true->res.jf=true)(i:bH (CC P G) A (Hf P G) c Q .normal (st.put d (.pv res))):(bp.call f a d st c).holds (CC P G) A (Hf P G) Q:=.inl ⟨ps,b,res,h,e,g,i⟩
theorem bF{a:List AV}{b:Bool}(h:dB st.mem a=some (ps,b))(e:bE P G f ps res)(g:b=true->res.jf=true)(i:bH (CC P G) A (Hf P G) c Q .normal (st.put d (.pv res))):(bp.afq f a d st c).holds (CC P G) A (Hf P G) Q:=.inl ⟨ps,b,res,h,e,g,i⟩
theorem ae{p:Prop}(b:p)(h:bH C A I a Q .normal st):(bp.pre p st a).holds C A I Q:=⟨b,h⟩
def ints(ps:List Int):R_:=ps.map fun p=>[.i p]
theorem gv{ps:List Int}(a:0<=j)(h1:j<ps.length):aF.rat (ints ps) j=[.i (ps.getD j.toNat 0)]:=by have:j.toNat<ps.length:=o_;simp[aF,ints,List.getD_eq_getElem?_getD,this]
theorem gW{ps:List Int}(a:0<=j)(h1:j<ps.length):aF.tu j (ints ps) 1:=by have:=gv a h1;simp only[aF]at this ⊢;refine⟨a,by simpa[ints]using h1,by rw[this];rfl⟩
theorem wrap64{n:Int}(d: -9223372036854775808<=n)(h1:n<9223372036854775808):aF.wrap .i64 n=n:=by have a:(2:Int)^IntKind.i64.bits=18446744073709551616:=d_;have b:(2:Int)^(IntKind.i64.bits-1)=9223372036854775808:=d_;simp only[aF];unfold IntKind.wrap;simp only[a,b];have hs:IntKind.i64.signed=true:=rfl;by_cases c:0<=n;{rw[qdq c o_,qai (by simp[hs];omega)]};have:n%18446744073709551616=n+18446744073709551616:=o_;rw[this,qao (by simp[hs];omega)];omega
theorem kY(h:v<2^62):aF.wrap .i64 (aF.add (Int.ofNat v) 1)=Int.ofNat (v+1):=by rw[wrap64]<;>simp[aF]<;>omega
def St.tidy(s:St)(b:List Nat)(a:List (Option Nat)):St:=(s.norm.mj a).sM b
theorem Fg.ca{b:St}(c:List Nat)(a:List (Option Nat))(d:jN a=true)(h:s.tidy c a=b):Fg s b:=h▸Fg.trans (Fg.norm s) (Fg.trans (Fg.mj _ a d) (Fg.sM _ c))
theorem run_eq{B:Ar}(h:run B T U n a st=r)(b:r.holds C A I Q):(run B T U n a st).holds C A I Q:=h▸b
@[simp] theorem kT{a b:Int}:aF.add a b=a+b:=rfl
@[simp] theorem iQ{a b:Int}:aF.sub a b=a-b:=rfl
@[simp] theorem E3{a b:Int}:aF.mul a b=a*b:=rfl
@[simp] theorem std_quo{a b:Int}:aF.quo a b=a.tdiv b:=rfl
@[simp] theorem E4{a b:Int}:aF.rem a b=a.tmod b:=rfl
@[simp] theorem n9{a:Int}:aF.wrap k a=k.wrap a:=rfl
@[simp] theorem std_not{a:Bool}:aF.not a= !a:=rfl
@[simp] theorem std_nz{a:Int}:aF.nz a=(a≠0):=rfl
@[simp] theorem X7{a:Int}:aF.CY a=(0<=a):=rfl
@[simp] theorem WU{a:Nat}:aF.ofNat a=a:=rfl
@[simp] theorem X8{a b:B_}:aF.Lm a b=a++b:=rfl
@[simp] theorem X9{a b:B_}:aF.Ln a b=(a.length+b.length<=9223372036854775807):=rfl
@[simp] theorem std_seq{a b:B_}:aF.seq a b=decide (a=b):=rfl
@[simp] theorem dj{a b:R_}:aF.oi a b=a++b:=rfl
@[simp] theorem Ya{a b:R_}{c:Nat}:aF.oj a b n c=((a.length+b.length+256)*n<=2^46/\a.length+b.length<=2^46/\fS c b/\aK c a):=rfl
@[simp] theorem aeg{a b:R_}:aF.Qn a b=(a=[]\/b≠[]):=rfl
@[simp] theorem std_mkp{l c:Int}{b:Nat}:aF.WD l c b=(0<=l/\l<=c/\c*b<=2^47/\c<=2^47):=rfl
@[simp] theorem Yb{n:Int}{z:List PV}:aF.AK n z=List.replicate n.toNat z:=rfl
@[simp] theorem gX{r:R_}{l h:Int}:aF.uS r l h=(r.drop l.toNat).take (h.toNat-l.toNat):=rfl
@[simp] theorem std_rbd{l h:Int}{r s:R_}{a:Nat}:aF.Xg l h r s a=(0<=l/\l<=h/\h<=r.length+s.length/\(l=0\/aK a (r++s))):=rfl
@[simp] theorem Yc{l h:Int}{r:R_}{a:Nat}:aF.wZ l h r a=(0<=l/\l<=h/\h<=r.length/\(l=0\/aK a r)):=rfl
theorem dy{n:Int}(a: -9223372036854775808<=n)(h1:n<9223372036854775808):IntKind.i64.wrap n=n:=wrap64 a h1
@[simp] theorem one_int{n:Int}:(AV.pv (.int k n)).one=true:=rfl
@[simp] theorem Yd{b:Bool}:(AV.pv (.bool b)).one=true:=rfl
@[simp] theorem one_str{b:B_}:(AV.pv (.str b)).one=true:=rfl
@[simp] theorem one_sl{r s:R_}:(AV.pv (.sl r s)).one=true:=rfl
@[simp] theorem aic:aK n []:=by simp[aK]
@[simp] theorem cN{r:List PV}{a:R_}:aK n (r::a)↔r.length=n/\aK n a:=by simp[aK]
@[simp] theorem K8{a b:R_}:aK n (a++b)↔aK n a/\aK n b:=by simp only[aK,qav];exact⟨fun h=>⟨fun r c=>h r (.inl c),fun r c=>h r (.inr c)⟩,fun h r c=>c.elim (h.1 r) (h.2 r)⟩
@[simp] theorem aid:fS n []:=by simp[fS]
@[simp] theorem QI{r:List PV}{a:R_}:fS n (r::a)↔(r.length=n/\∀p∈r,(AV.pv p).one=true)/\fS n a:=by simp[fS]
theorem Kh{enc:α->List PV}(h:∀x,(enc x).length=n)(l:List α):aK n (l.map enc):=by intro r a;obtain⟨x,_,rfl⟩:=qaw.1 a;exact h x
theorem iX{enc:α->List PV}(h:∀x,(enc x).length=n/\∀p∈enc x,(AV.pv p).one=true)(l:List α):fS n (l.map enc):=by intro r a;obtain⟨x,_,rfl⟩:=qaw.1 a;exact h x
@[simp] theorem QJ:aK 1 (ints l):=Kh (enc:=fun p=>[.i p]) (fun _=>rfl) l
@[simp] theorem QK:fS 1 (ints l):=iX (enc:=fun p=>[.i p]) (fun _=>⟨rfl,s_⟩) l
@[simp] theorem QL:(ints l).length=l.length:=by simp[ints]
@[simp] theorem Ye:ints []=[]:=rfl
@[simp] theorem QM{a b:List Int}:ints (a++b)=ints a++ints b:=by simp[ints]
theorem vR{a:List AV}{b:Bool}{c:Int}(h:dB st.mem a=some (ps,b))(g:bE P G f ps (.int k c))(i:b=true->(.int k c:PV).jf=true)(j:∀(x:Int),c=x->bH (CC P G) A (Hf P G) e Q .normal (st.put d (.pv (.int k x)))):(bp.call f a d st e).holds (CC P G) A (Hf P G) Q:=ao h g i (j c rfl)
@[simp] theorem std_peq{a b:List PV}:aF.Xf a b=JK a b:=rfl
@[simp] theorem Yh{c:List Nat}{a b:List PV}:aF.HP c a b=aR c a b:=rfl
@[simp] theorem std_rat{r:R_}{n:Int}:aF.rat r n=r.getD n.toNat []:=rfl
@[simp] theorem std_slt{a b:B_}:aF.slt a b=Op.bytesLess a b:=rfl
@[simp] theorem std_min{a b:Int}:aF.min a b=if b<a then b else a:=rfl
@[simp] theorem std_max{a b:Int}:aF.max a b=if b>a then b else a:=rfl
@[simp] theorem std_sat{s:B_}:aF.sat s j=((s.getD j.toNat 0).toNat:Nat):=rfl
@[simp] theorem std_sin{s:B_}:aF.sin j s=(0<=j/\j<s.length):=rfl
@[simp] theorem Yi{s:B_}{l h:Int}:aF.Lp s l h=(s.drop l.toNat).take (h.toNat-l.toNat):=rfl
@[simp] theorem std_sbd{s:B_}{l h:Int}:aF.sbd l h s=(0<=l/\l<=h/\h<=s.length):=rfl
theorem cU{a:List AV}{b:Bool}{c:Bool}(h:dB st.mem a=some (ps,b))(g:bE P G f ps (.bool c))(i:c=true->bH (CC P G) A (Hf P G) e Q .normal (st.put d (.pv (.bool true))))(j:c=false->bH (CC P G) A (Hf P G) e Q .normal (st.put d (.pv (.bool false)))):(bp.call f a d st e).holds (CC P G) A (Hf P G) Q:=ao h g (fun _=>rfl) (by cases c;exact j rfl;exact i rfl)
theorem gG{a:List AV}{b:Bool}{c:Bool}(h:dB st.mem a=some (ps,b))(g:bE P G f ps (.bool c))(i:c=true->bH (CC P G) A (Hf P G) e Q .normal (st.put d (.pv (.bool true))))(j:c=false->bH (CC P G) A (Hf P G) e Q .normal (st.put d (.pv (.bool false)))):(bp.afq f a d st e).holds (CC P G) A (Hf P G) Q:=bF h g (fun _=>rfl) (by cases c;exact j rfl;exact i rfl)
theorem oW{a:List RD}(h:fN a s=some res):(bp.fin .ret s).holds C A I (rQ a res):=h
theorem fm(hT:oI (CC P G) A (Hf P G) T)(n:Nat)(h:run A T U n a st=r)(b:r.holds (CC P G) A (Hf P G) Q): bH (CC P G) A (Hf P G) a Q .normal st:=pF (Hf.mono P G) hT n r h b
theorem agS(hT:oI (CC P G) A (Hf P G) T)(n:Nat)(h:run A T U n [.code b] st=r)(a:r.holds (CC P G) A (Hf P G) Q): fw (CC P G) A (Hf P G) b st Q:=pF (Hf.mono P G) hT (is:=[.code b]) n r h a
mutual
def sV{H:Type}:DataW H->List PV
 |.lit (.bool b)=>[.bool b]
 |.lit (.int k n)=>[.int k n]
 |.lit (.string s)=>[.str s]
 |.lit _=>[]
 |.nil=>[.sl [] []]
 |.ptr _=>[]
 |.slice es sp=>[.sl (iY es) (iY sp)]
 |.agg parts=>oc parts
 |.iface _ _=>[]
 |.map _=>[]
 |.held _=>[]
def iY{H:Type}:List (DataW H)->R_
 |[]=>[]
 |d::ds=>sV d::iY ds
def oc{H:Type}:List (DataW H)->List PV
 |[]=>[]
 |d::ds=>sV d++oc ds
end
theorem jT{H:Type}:∀(l:List (DataW H)),iY l=l.map sV
|[]=>by simp[iY]
|d::ds=>by simp[iY,jT ds]
structure Dt(H:Type) where
 bk:DataW H->Nat
 al:List (DataW H)->Nat
 one:∀d,1<=bk d
 cons:∀x r,al (x::r)=bk x+al r
 slice:∀es sp,al es+al sp+1<=bk (.slice es sp)
 agg:∀ps,al ps<=bk (.agg ps)
 str:∀s,s.length<=bk (.lit (.string s))
theorem Dt.le{H:Type}(k:Dt H):∀{l:List (DataW H)} {d:DataW H},d∈l->k.bk d<=k.al l
|[],_,h=>by cases h
|x::r,d,h=>by rw[k.cons];cases h with|head=>omega|tail _ h=>have:=k.le h;omega
theorem Dt.len{H:Type}(k:Dt H):∀(l:List (DataW H)),l.length<=k.al l
|[]=>s_
|x::r=>by rw[k.cons];have:=k.len r;have:=k.one x;simp only[qaq];omega
inductive Sh where
 |b
 |i (k:IntKind)
 |s
 |l (row:List Sh)
mutual
def K9(B:Nat):Sh->PV->Prop
 |.b,p=>∃x,p=.bool x
 |.i k,p=>∃n,p=.int k n/\(Lit.int k n).wf=true
 |.s,p=>∃x,p=.str x/\x.length<=B
 |.l row,p=>∃rows spare,p=.sl rows spare/\rows.length+spare.length<=B/\(∀r∈rows,iR B row r)/\(∀r∈spare,iR B row r)
def iR(B:Nat):List Sh->List PV->Prop
 |[],ps=>ps=[]
 |s::ss,ps=>∃p r,ps=p::r/\K9 B s p/\iR B ss r
end
theorem iR.length{B:Nat}:∀{a:List Sh} {ps:List PV},iR B a ps->ps.length=a.length
|[],ps,h=>by simp only[iR]at h;simp[h]
|s::a,ps,h=>by simp only[iR]at h;obtain⟨p,r,rfl,_,h⟩:=h;simp[iR.length h]
theorem iR.append{B:Nat}:∀{c b:List Sh} {ps a:List PV},iR B c ps->iR B b a->iR B (c++b) (ps++a)
|[],b,ps,a,h,d=>by simp only[iR]at h;simpa[h]using d
|s::c,b,ps,a,h,d=>by simp only[iR]at h;obtain⟨p,r,rfl,e,h⟩:=h;simp only[qaN,iR];exact⟨p,r++a,rfl,e,iR.append h d⟩
def IU(P:Program)(f:TypeId->Option (List Sh)):Nat->List Field->Option (List Sh)
 |_,[]=>some []
 |off,x::xs=>match f x.type with
  |none=>none
  |some row=>match x.offset==off&&row.length==P.cellsOf x.type with
   |false=>none
   |true=>match IU P f (off+row.length) xs with
    |none=>none
    |some r=>some (row++r)
def mY(P:Program):Nat->TypeId->Option (List Sh)
 |0,_=>none
 |n+1,t=>match P.underlying t with
  |some .bool=>some [.b]
  |some (.int k)=>some [.i k]
  |some .string=>some [.s]
  |some (.slice e)=>match mY P n e with
   |none=>none
   |some row=>match row.length==P.cellsOf e&&decide (0<row.length)with
    |false=>none
    |true=>some [.l row]
  |some (.struct fs)=>match IU P (mY P n) 0 fs.toList with
   |none=>none
   |some row=>match row.length==P.cellsOf t with
    |false=>none
    |true=>some row
  |some (.array m e)=>match mY P n e with
   |none=>none
   |some row=>match row.length==P.cellsOf e&&m*row.length==P.cellsOf t with
    |false=>none
    |true=>some (List.replicate m row).flatten
  |_=>none
section
variable {H:Type} {enc:TypeId×Value->H} {held:Bool}
theorem vS{a:Addr}{v:Value}(h:w.cell? a=some v):a.spot=none/\a.block<w.heap.size/\∃c,At w a.block=some c/\c[a.off]? =some v:=by unfold World.cell? at h;unfold At;split at h;{rename_i c t f b;split at h;{cases h};rename_i hs;refine⟨by simpa using hs,?_,c,by rw[b],h⟩;exact(qaK.1 b).1};cases h
theorem mZ(k:Dt H)(B:Nat):∀(p n:Nat) (t:TypeId) (row:List Sh) (q:List Value) (d:DataW H) (ps:List MemPlace),mY P n t=some row->DataW.trod enc P w 0 (fun _=>true) held p t q=some (d,ps)->k.bk d<=B->aM (fun b=>b<w.heap.size) w (sV d) q/\iR B row (sV d):=by intro p;induction p with|zero=>intro n t row q d ps _ h;simp[DataW.trod]at h|succ p ih=>intro n t row q d ps hs h hb;cases n with|zero=>simp[mY]at hs|succ n=>unfold mY at hs;split at hs;{rename_i D;obtain⟨b,rfl,u⟩:=DataW.trod_bool D h;simp only[qas]at u;obtain⟨rfl,rfl⟩:=u;cases hs;simp[sV,aM,aD,iR,K9]};{rename_i kk D;obtain⟨b,rfl,u,hw⟩:=DataW.trod_int D h;simp only[qas]at u;obtain⟨rfl,rfl⟩:=u;cases hs;simp[sV,aM,aD,iR,K9,hw]};{rename_i D;obtain⟨b,rfl,u,hw⟩:=DataW.trod_string D h;simp only[qas]at u;obtain⟨rfl,rfl⟩:=u;cases hs;have:=k.str b.data.toList;simp only[sV,aM,aD,iR,K9];exact⟨⟨_,_,rfl,s_,rfl⟩,_,_,rfl,⟨_,rfl,o_⟩,rfl⟩};{rename_i e D;split at hs;{cases hs};rename_i I S;split at hs;{cases hs};rename_i C;cases hs;simp only[qaG,qbA,qae]at C;obtain⟨GD,pH⟩:=C;rcases DataW.trod_slice D h with⟨rfl,u⟩|⟨a,len,ad,l,o,m,J,rfl,u,_,ak,_,ae,h1,h2,_⟩;{simp only[qas]at u;obtain⟨rfl,rfl⟩:=u;simp only[sV,aM,aD,iR,K9];exact⟨⟨_,_,rfl,⟨none,0,rfl,s_,s_⟩,rfl⟩,_,_,rfl,⟨[],[],rfl,s_,s_,s_⟩,rfl⟩};obtain rfl:p=m:=o_;simp only[qas]at u;obtain⟨rfl,rfl⟩:=u;obtain⟨mn,h2⟩:=h2 rfl;have T:=k.slice (l.map (·.1)) (o.map (·.1));have af:=k.len (l.map (·.1));have ag:=k.len (o.map (·.1));have U:∀i x,(l++o)[i]? =some x->k.bk x.1<=B/\∃c,At w a.block=some c/\(i=0->a.spot=none)/\a.block<w.heap.size/\∃q,q.length=P.cellsOf e/\(∀j v,q[j]? =some v->c[a.off+i*P.cellsOf e+j]? =some v)/\aM (fun b=>b<w.heap.size) w (sV x.1) q/\iR B I (sV x.1):=by{intro i x z;have mV:x∈l\/x∈o:=by{simpa using qbE z};have Yl:k.bk x.1<=B:=by{rcases mV with J|J;{have:=k.le (qbP (f:=(·.1)) J);omega};have:=k.le (qbP (f:=(·.1)) J);omega};have Ym:(w.cells? 0 (a.add (i*P.cellsOf e)) (P.cellsOf e)).bind (DataW.trod enc P w 0 (fun _=>true) held p e)=some x:=by{by_cases N:i<l.length;{rw[qaQ N]at z;rw[h1 i o_,z]};rw[qaV o_]at z;have K:i-l.length<o.length:=by{rcases qbQ (i-l.length) o.length with h|h;{exact h};rw[qa0 h]at z;cases z};have:=h2 (i-l.length) o_;rw[z,show len+(i-l.length)=i by omega]at this;exact this};obtain⟨q,ah,L⟩:=qac.1 Ym;obtain⟨Zl,Yn⟩:=ih n e I q x.1 x.2 S L Yl;obtain⟨_,uy,E⟩:=World.cells?_some ah;have F:=E 0 o_;obtain⟨v0,pN⟩:∃v0,q[0]? =some v0:=⟨_,qag o_⟩;rw[pN]at F;have ao:∀n,(a.add n).block=a.block:=by{intro n;unfold Addr.add;split<;>rfl};have QN:∀n m,((a.add n).add m).block=a.block:=by{intro n m;unfold Addr.add;split<;>(split<;>rfl)};have Dd:∀n m,((a.add n).add m).off=a.off+n+m:=by{intro n m;unfold Addr.add;by_cases hn:n=0<;>by_cases J:m=0<;>simp[hn,J]<;>omega};obtain⟨V,N,c,C,_⟩:=vS F;rw[QN]at N C;refine⟨Yl,c,C,?_,N,q,uy,?_,Zl,Yn⟩;{intro ai;subst ai;simpa[Addr.add]using V};intro j v K;have xe:j<P.cellsOf e:=by{rcases qbQ j q.length with h|h;{omega};rw[qa0 h]at K;cases K};have:=E j xe;rw[K]at this;obtain⟨_,_,W,O,hv⟩:=vS this;rw[QN]at O;rw[Dd]at hv;obtain rfl:c=W:=qa9 (C.symm.trans O);exact hv};have Mc:(∀r∈iY (l.map (·.1)),iR B I r)/\(∀r∈iY (o.map (·.1)),iR B I r):=by{constructor;{intro r G;rw[jT,qcA]at G;obtain⟨x,u,rfl⟩:=qaw.1 G;obtain⟨i,z⟩:=List.mem_iff_getElem?.1 (qcU o u);obtain⟨_,c,_,_,_,q,_,_,_,h⟩:=U i x z;exact h};intro r G;rw[jT,qcA]at G;obtain⟨x,u,rfl⟩:=qaw.1 G;obtain⟨i,z⟩:=List.mem_iff_getElem?.1 (List.mem_append_right l u);obtain⟨_,c,_,_,_,q,_,_,_,h⟩:=U i x z;exact h};have E6:(iY (l.map (·.1))).length=l.length/\(iY (o.map (·.1))).length=o.length:=by{simp[jT]};simp only[qap]at af ag;refine⟨?_,?_⟩;{simp only[sV,aM,aD];refine⟨_,_,rfl,⟨some a,ad,by rw[E6.1,ae],o_,?_⟩,rfl⟩;by_cases he:l++o=[];{left;simp at he;simp[he.1,he.2,iY]};right;obtain⟨x0,Md⟩:∃x0,(l++o)[0]? =some x0:=by{cases hh:l++o with|nil=>exact absurd hh he|cons y s=>exact⟨y,rfl⟩};obtain⟨_,c,C,mG,N,_⟩:=U 0 x0 Md;have Yo:aK (P.cellsOf e) (iY (l.map (·.1))):=fun r G=>by{rw[(Mc.1 r G).length,GD]};have Yp:aK (P.cellsOf e) (iY (o.map (·.1))):=fun r G=>by{rw[(Mc.2 r G).length,GD]};refine⟨a.block,a.off,c,P.cellsOf e,by rw[<-mG rfl],N,C,Yo,Yp,?_,?_⟩;{refine bM.lV Yo fun i z=>?_;rw[E6.1]at z;obtain⟨_,W,O,_,_,q,_,h5,h6,_⟩:=U i l[i] (by rw[qaQ z];exact qag z);obtain rfl:c=W:=qa9 (C.symm.trans O);have:(iY (l.map (·.1))).getD i []=sV l[i].1:=by{simp[jT,z]};rw[this];exact dm.eD h6 h5};rw[E6.1];refine bM.lV Yp fun i z=>?_;rw[E6.2]at z;obtain⟨_,W,O,_,_,q,_,h5,h6,_⟩:=U (l.length+i) o[i] (by rw[qaV o_];simp[z]);obtain rfl:c=W:=qa9 (C.symm.trans O);have:(iY (o.map (·.1))).getD i []=sV o[i].1:=by{simp[jT,z]};rw[this];refine dm.eD h6 fun j v K=>?_;have:=h5 j v K;rw[qaS,<-qcg]at this;exact this};simp only[sV,iR,K9];exact⟨_,_,rfl,⟨_,_,rfl,o_,Mc.1,Mc.2⟩,rfl⟩};{rename_i fs D;split at hs;{cases hs};rename_i I S;split at hs;{cases hs};rename_i C;cases hs;simp only[qbA]at C;obtain⟨X,m,J,u,uy,oX,M⟩:=DataW.trod_struct D h;obtain rfl:p=m:=o_;simp only[qas]at u;obtain⟨rfl,rfl⟩:=u;have T:=k.agg (X.map (·.1));have key:∀(Q:List Field) (s:List (DataW H×List MemPlace)) (A:Nat) (row:List Sh),IU P (mY P n) A Q=some row->s.length=Q.length->k.al (s.map (·.1))<=B->A+row.length<=q.length->(∀(i:Nat) (f:Field),Q[i]? =some f->DataW.trod enc P w 0 (fun _=>true) held p f.type ((q.drop f.offset).take (P.cellsOf f.type))=s[i]?)->aM (fun b=>b<w.heap.size) w (oc (s.map (·.1))) ((q.drop A).take row.length)/\iR B row (oc (s.map (·.1))):=by{intro Q;induction Q with|nil=>intro s A row hs hl _ _ _;simp only[IU,qaa]at hs;subst hs;obtain rfl:s=[]:=by{simpa using hl};simp[oc,aM,iR]|cons f Q Xz=>intro s A row hs hl hb aj L;cases s with|nil=>simp at hl|cons y s=>unfold IU at hs;split at hs;{cases hs};rename_i Y Zl;split at hs;{cases hs};rename_i lY;split at hs;{cases hs};rename_i r2 Yn;cases hs;simp only[qaG,qbA]at lY;obtain⟨Dd,Z⟩:=lY;simp only[qaj,k.cons]at hb;have F:=L 0 f rfl;simp only[qay]at F;rw[Dd,<-Z]at F;obtain⟨a1,a2⟩:=ih n f.type Y _ y.1 y.2 Zl F o_;simp only[qal]at aj;obtain⟨b1,b2⟩:=Xz s (A+Y.length) r2 Yn (by simpa using hl) o_ o_ (fun i g hg=>by simpa using L (i+1) g (by simpa using hg));refine⟨?_,?_⟩;{simp only[qaj,oc];have e:(q.drop A).take (Y++r2).length=(q.drop A).take Y.length++(q.drop (A+Y.length)).take r2.length:=by{rw[qal,List.take_add,qdb]};rw[e];exact aM.append a1 b1};simp only[qaj,oc];exact iR.append a2 b2};obtain⟨R,k2⟩:=key fs.toList X 0 row S (by simpa using oX) o_ o_ (fun i f hf=>M i f (by simpa using hf));refine⟨?_,?_⟩;{simp only[sV];have:(q.drop 0).take row.length=q:=by{rw[qc9,qbI o_]};rw[this]at R;exact R};simp only[sV];exact k2};{rename_i m e D;split at hs;{cases hs};rename_i I S;split at hs;{cases hs};rename_i C;cases hs;simp only[qaG,qbA]at C;obtain⟨GD,pH⟩:=C;obtain⟨X,m',J,u,uy,oX,M⟩:=DataW.trod_array D h;obtain rfl:p=m':=o_;simp only[qas]at u;obtain⟨rfl,rfl⟩:=u;have T:=k.agg (X.map (·.1));have key:∀(s:List (DataW H×List MemPlace)) (i:Nat),(∀j,j<s.length->DataW.trod enc P w 0 (fun _=>true) held p e ((q.drop ((i+j)*P.cellsOf e)).take (P.cellsOf e))=s[j]?)->k.al (s.map (·.1))<=B->aM (fun b=>b<w.heap.size) w (oc (s.map (·.1))) ((q.drop (i*P.cellsOf e)).take (s.length*P.cellsOf e))/\iR B (List.replicate s.length I).flatten (oc (s.map (·.1))):=by{intro s;induction s with|nil=>intro i _ _;simp[oc,aM,iR]|cons y s IL=>intro i L hb;simp only[qaj,k.cons]at hb;have F:=L 0 s_;simp only[qay,qcz]at F;obtain⟨a1,a2⟩:=ih n e I _ y.1 y.2 S F o_;obtain⟨b1,b2⟩:=IL (i+1) (fun j K=>by have:=L (j+1) w_;rw[show i+(j+1)=i+1+j by omega]at this;simpa using this) o_;refine⟨?_,?_⟩;{simp only[qaj,oc,qaq];have e':(q.drop (i*P.cellsOf e)).take ((s.length+1)*P.cellsOf e)=(q.drop (i*P.cellsOf e)).take (P.cellsOf e)++(q.drop ((i+1)*P.cellsOf e)).take (s.length*P.cellsOf e):=by{rw[qaS,qbt,qcS,List.take_add,qdb,qaS,qbt]};rw[e'];exact aM.append a1 b1};simp only[qaj,oc,qaq,qcZ,qa3];exact iR.append a2 b2};obtain⟨R,k2⟩:=key X 0 (fun j K=>by simpa using M j o_) o_;rw[oX]at R k2;refine⟨?_,?_⟩;{simp only[sV];have:(q.drop (0*P.cellsOf e)).take (m*P.cellsOf e)=q:=by{rw[qdt,qc9,qbI (by rw[uy,<-pH,GD];exact qak _)]};rw[this]at R;exact R};simp only[sV];exact k2};cases hs
theorem qm(hl:laidOutB P=true){W g:World}(i:RowKit.Below W.heap.size W g){j:Nat->Bool}:∀{e:List TypeId} {b:List Value} {c:List (DataW H)} {ps:List MemPlace},(e.all fun t=>P.readableRec t&&decide (t<P.types.size))=true->DataW.TrodAll enc P W 0 (fun _=>true) true e b c ps->(∀x∈ps,x.block<W.heap.size)->(∀x∈ps,j x.block=true)->DataW.TrodAll enc P g 0 j true e b c ps
|[],b,c,ps,_,h,_,_=>by obtain⟨rfl,rfl,rfl⟩:=ChangeShapes.trodAll_nil h;exact ChangeShapes.trodAll_mk0
|t::e,b,c,ps,f,h,k,l=>by obtain⟨v,b,d,c,p,q,rfl,rfl,rfl,m,n⟩:=ChangeShapes.trodAll_cons h;simp only[List.all_cons,qaG,qae]at f;exact⟨p,q,WideElems.Trod_stays hl f.1.1 f.1.2 m (fun x a=>i.same (k x (by simp[a]))) (fun x a=>l x (by simp[a])),qm hl i (by simpa using f.2) n (fun x a=>k x (by simp[a])) (fun x a=>l x (by simp[a])),rfl⟩
theorem oY(hl:laidOutB P=true){W j:World}(k:RowKit.Below W.heap.size W j){r:Nat->Bool}:∀{i:List String} {s:List (DataW H)} {ps:List MemPlace},RowKit.varsRowed P i=true->DataW.TrodVars enc P W (fun _=>true) i s ps->(∀x∈ps,r x.block=true)->DataW.TrodVars enc P j r i s ps
|[],[],_,_,h,_=>h
|[],_::_,_,_,h,_=>h.elim
|_::_,[],_,_,h,_=>h.elim
|n::i,d::ds,ps,l,h,u=>by have y:=h.lt;obtain⟨g,t,v,c,p,q,h1,h2,b,z,hs,e⟩:=h;simp only[RowKit.varsRowed,List.all_cons,qaG]at l;have m:P.readableRec t=true/\t<P.types.size:=by{have:=l.1;rw[h1]at this;cases f:P.globals[g]? with|none=>rw[f]at h2;cases h2|some gl=>rw[f]at h2;obtain rfl:gl.type=t:=qa9 h2;simpa[f]using this};have A:∀x∈p,x.block<W.heap.size:=fun x a=>y x (by rw[e];simp[a]);have B:j.var? P n=some v:=by{unfold World.var? at b ⊢;rw[h1]at b ⊢;simp only[qbx]at b ⊢;have f:g<W.heap.size:=by{cases w:W.heap[g]? with|none=>rw[w]at b;cases b|some o=>exact(qaK.1 w).1};rw[k.block g f];exact b};exact⟨g,t,v,c,p,q,h1,h2,B,DataW.trod_stays (kids_book hl m.1) (book_sized m.1) (fun h=>by cases h) ⟨m.2,book_self t⟩ z (fun x a=>k.same (A x a)) (fun x a=>u x (by rw[e];simp[a])),oY hl k (by simpa[RowKit.varsRowed]using l.2) hs (fun x a=>u x (by rw[e];simp[a])),e⟩
end
end
section
open Go.ChangeShapes Go.RowKit
variable {G:Nat->Option (List PV)} {H:Type} {P:Program} {W:World} {a:Array Value} {c:Code} {f:FuncId} {ps:List PV} {s:ChangeSpec}
theorem xj{d:Func}{res:PV}{w:World}{S:Nat->Prop}(g:P.funcs[f]? =some d)(i:d.body=some c)(j:(d.name== "runtime.NumGoroutine")=false)(k:bE P G f ps res)(hs:∀b,S b->b<w.heap.size)(l:rh G S w)(m:aM S w ps a.toList): Calls P f a w fun e w'=>∃v,e=.returned v/\RowKit.Below w.heap.size w w'/\aD (fun b=>S b\/(w.heap.size<=b/\b<w'.heap.size)) w' res v:=by have h:=k S w a.toList hs l m;unfold dN at h;have n:(callFunc f a.toList.toArray).run P w=.ok (.enter f a.toList.toArray) w:=by{have o:¬d.name= "runtime.NumGoroutine" :=by{simpa using j};simp[callFunc,run_program,g,o,i]};rw[n]at h;simpa using h
theorem Du{enc:TypeId×Value->H}{f:Func}{apart fresh c h:Bool}{k:World}{d:Array Value}{v:Value}{l m:List (DataW H)}{a pa pv:List MemPlace}(q:DataW.Whole enc P f.params.toList s.vars apart W d.toList l m a)(u:∀(b:Nat) (i:Nat->Bool) (B:Bool),DataW.TrodAll enc P k b i B f.resultTypes.toList (v.resultList f.resultTypes.size) (s.fn H (l++m)).results [])(w:∀i:Nat->Bool,(∀p∈a,i p.block=true)->DataW.TrodAll enc P k 0 i true f.params.toList d.toList (s.fn H (l++m)).args pa)(x:∀i:Nat->Bool,(∀p∈a,i p.block=true)->DataW.TrodVars enc P k i s.vars (s.fn H (l++m)).vars pv)(o:a=pa++pv)(y:Below W.heap.size W k)(C:∀(j:Nat) (t:TypeId) (r:Value),f.resultTypes[j]? =some t->(v.resultList f.resultTypes.size)[j]? =some r->Value.okWide P k .any 0 t r): s.post enc P f apart fresh c h W d v k:=by have z:∀p∈a,p.block<W.heap.size:=fun p e=>q.lt p e;have g:∀p∈a,(fun b=>decide (b<W.heap.size)) p.block=true:=fun p e=>by{simpa using z p e};refine⟨l,m,a,[],pa,pv,q,u _ _ _,w _ g,x _ g,World.keptBut_mono (fun p e=>⟨e,?_⟩) (y.frame (·∈a)),fun _=>?_⟩;{rw[o,qav]at e;exact Or.inr e};obtain⟨_,_,_,_,_,D,E⟩:=q;refine⟨C,_,_,([]++pa)++pv,⟨[]++pa,pv,trodAll_append (w _ (fun _ _=>rfl)) (u _ _ _),x _ (fun _ _=>rfl),rfl,?_,?_⟩,?_⟩;{intro b n e;have A:MemPlace.cell b n∈a:=by{rw[o];simpa using e};rw[y.frozen (z _ A)];exact D b n A};{intro F;have:=E F;rw[o]at this;simpa using this};intro p e _;rw[o];simpa using e
theorem IV{enc:TypeId×Value->H}{i:Func}{apart fresh d j:Bool}{o r:List (DataW H)}{g:List MemPlace}{tb:TypeId}(hl:laidOutB P=true)(D:P.funcs[f]? =some i)(E:i.body=some c)(F:(i.name== "runtime.NumGoroutine")=false)(I:bE P G f ps (.bool true))(J:rh G (fun b=>b<W.heap.size) W)(K:aM (fun b=>b<W.heap.size) W ps a.toList)(z:DataW.Whole enc P i.params.toList s.vars apart W a.toList o r g)(u:(i.params.toList.all fun t=>P.readableRec t&&decide (t<P.types.size))=true)(L:RowKit.varsRowed P s.vars=true)(l:i.resultTypes=#[tb])(m:P.underlying tb=some .bool)(hs:s.fn H (o++r)=⟨[.lit (.bool true)],o,r⟩): Calls P f a W fun e A=>∃v,e=.returned v/\s.post enc P i apart fresh d j W a v A:=by refine(xj D E F I (fun _ h=>h) J K).mono fun e A ⟨v,M,w,B⟩=>⟨v,M,?_⟩;simp only[aD]at B;subst B;have n:=z;obtain⟨p,q,N,O,rfl,Q,R⟩:=z;have S:∀x∈p++q,x.block<W.heap.size:=fun x k=>n.lt x k;refine Du (pa:=p) (pv:=q) n ?_ ?_ ?_ rfl w ?_;{intro b C U;rw[l,hs];exact trodAll_mk1 (shut_bool m true)};{intro C y;rw[hs];exact qm hl w u N (fun x k=>S x (by simp[k])) (fun x k=>y x (by simp[k]))};{intro C y;rw[hs];exact oY hl w L O (fun x k=>y x (by simp[k]))};exact ok_one l rfl (okWide_bool_mk m true)
theorem zk{l:List (String×DataW Unit)}{ps:List MemPlace}(k:Dt Unit)(B:Nat)(h:DataW.LaidVars P W l ps)(w:∀g row,G g=some row->∃n d t f m,(n,d)∈l/\P.globalNamed n=some g/\(P.globals[g]?).map (·.type)=some t/\mY P m t=some f/\sV d=row/\k.bk d<=B):rh G (fun b=>b<W.heap.size) W:=by intro g row y;obtain⟨n,d,t,f,m,z,A,F,C,i,D⟩:=w g row y;have key:∀{l:List (String×DataW Unit)} {ps:List MemPlace},DataW.LaidVars P W l ps->(n,d)∈l->∃c a p,W.var? P n=some c/\DataW.trod (fun _=>()) P W 0 (fun _=>true) false a t c.toList=some (d,p):=by{intro l;induction l with|nil=>intro ps _ o;cases o|cons x l H=>intro ps hl o;obtain⟨I,J⟩:=x;obtain⟨K,L,c,a,p,q,M,N,e,r,O,_⟩:=hl;grind};obtain⟨c,a,p,e,r⟩:=key h z;obtain⟨s,_⟩:=mZ k B a m t f c.toList d p C r D;unfold World.var? at e;rw[A]at e;simp only[qbx]at e;have u:At W g=some c/\g<W.heap.size:=by{unfold At;grind};refine⟨u.2,c,u.1,?_,?_⟩;{rw[<-i];exact dm.eD s (fun j v E=>by simpa using E)};rw[<-i,<-aM.length s,qcx]
end
end Go.Am
namespace Go.bt
section
open Go Go.Am
structure aL where
 bay:Int
 row:Int
 deck:Bool
 dv:Int
 ko:Int
 tT:Int
 tU:Int
 kj:Int
 cq:List Int
 psp:R_
 x:Int
 y:Int
 z:Int
def aL.enc(c:aL):List PV:=[.i c.bay,.i c.row,.bool c.deck,.i c.dv,.i c.ko,.i c.tT,.i c.tU,.i c.kj,.sl (ints c.cq) c.psp,.i c.x,.i c.y,.i c.z]
structure bz where
 bay:Int
 rows:List Int
 rsp:R_
def bz.enc(c:bz):List PV:=[.i c.bay,.sl (ints c.rows) c.rsp]
structure bw where
 id:Int
 number:B_
 size:Int
 high:Bool
 cD:Int
 load:Int
 discharge:Int
 cls:Int
 cK:Bool
def bw.enc(c:bw):List PV:=[.i c.id,.str c.number,.u c.size,.bool c.high,.i c.cD,.i c.load,.i c.discharge,.u c.cls,.bool c.cK]
structure Slot where
 column:Int
 tier:Int
 half:Int
def Slot.enc(c:Slot):List PV:=[.i c.column,.i c.tier,.u c.half]
structure aH where
 box:Int
 slot:Slot
def aH.enc(c:aH):List PV:=[.i c.box,.i c.slot.column,.i c.slot.tier,.u c.slot.half]
end
section
open Go Go.Am Go.Proofs
open Tryz (prog)
def g0:List PV:=[.str [78,76,82,84,77],.str [68,69,72,65,77],.str [83,69,71,79,84],.str [71,66,70,88,84],.str [70,82,76,69,72],.str [66,69,65,78,82]]
def g1:List PV:=[.i 2,.i 1,.i 3]
def Bu:R_:=[[.str [50,50,71,49],.u 20,.bool false,.bool false],[.str [50,50,82,49],.u 20,.bool false,.bool true],[.str [52,50,71,49],.u 40,.bool false,.bool false],[.str [52,50,82,49],.u 40,.bool false,.bool true],[.str [52,53,71,49],.u 40,.bool true,.bool false],[.str [52,53,82,49],.u 40,.bool true,.bool true]]
def g2:List PV:=[.sl Bu []]
def g4:List PV:=((List.replicate 128 240++List.replicate 66 241++List.replicate 30 2++[19,3,3,3,3,3,3,3,3,3,3,3,3,35,3,3,52,4,4,4,68,241,241,241,241,241,241,241,241,241,241,241]:List Int).map (PV.int .u8))
def g5:List PV:=(([128,191,160,191,128,159,144,191,128,143]++List.replicate 22 0:List Int).map (PV.int .u8))
def g6:List PV:=(([1,10,100,1000,10000,100000,1000000,10000000,100000000,1000000000,10000000000,100000000000,1000000000000,10000000000000,100000000000000,1000000000000000,10000000000000000,100000000000000000,1000000000000000000,10000000000000000000]:List Int).map (PV.int .u64))
def g9:List PV:=(([0,1,28,2,29,14,24,3,30,22,20,15,25,17,4,8,31,27,13,23,21,19,16,7,26,12,18,6,11,5,10,9]:List Int).map (PV.int .u8))
def g10:List PV:=(([0,1,56,2,57,49,28,3,61,58,42,50,38,29,17,4,62,47,59,36,45,43,51,22,53,39,33,30,24,18,12,5,63,55,48,27,60,41,37,16,46,35,44,21,52,32,23,11,54,26,40,15,34,20,31,10,25,14,19,9,13,8,7,6]:List Int).map (PV.int .u8))
def gE:List PV:=[.iface 403 (.ptr [])]
def GG(mx:Int):Nat->Option (List PV)
 |0=>some g0
 |1=>some g1
 |2=>some g2
 |3=>some [.i mx]
 |4=>some g4
 |5=>some g5
 |6=>some g6
 |7=>some gE
 |8=>some gE
 |9=>some g9
 |10=>some g10
 |_=>none
theorem mixed:Tryz.prog.follows .mixedOrders=true:=k_
end
end Go.bt
namespace Go.Am
variable {A:Ar} {G:Nat->Option (List PV)} {P:Program} {Q:Ex->St->Prop} {b:cf} {rs:R_} {s:St}
def St.T5(s:St)(d id a:Nat):St:=(s.aq id (.rows a [] 0)).put (some d) (.c8 id 0)
theorem Fg.E5{c:St}(b:List Nat)(a:List (Option Nat))(d id e:Nat)(f:jN a=true)(h1:(s.tidy b a).slot d=.full [])(h2:aj (s.tidy b a).mem id=none)(g:id<=(s.tidy b a).mem.length)(h:(s.tidy b a).T5 d id e=c):Fg s c:=h▸Fg.trans (Fg.ca b a f rfl) (Fg.own h1 h2 g)
theorem acG{st:St}{c:List Item}(h:fw (CC P G) A (Hf P G) b st (de (CC P G) A (Hf P G) c Q (fun d=>(bp.loop b d c).holds (CC P G) A (Hf P G) Q))): (bp.loop b st c).holds (CC P G) A (Hf P G) Q:=by refine k8 (tS P G) (.refl _) (fC (tS P G) b ?_ h);intro e d a;cases e with|normal=>exact a|ret=>show bH _ _ _ c Q .ret d;rw[jv];simp only[de]at a;exact a|exit id=>simp only[de]at a;show bH _ _ _ c Q (.exit id) d;split at a;{rename_i r f;exact iq id c Q d r f a};exact acx id c Q d a.1 a.2
theorem T6{st0:St}{d:List Item}{α:Type}(dp:α->St->St)(J:α->Prop)(μ:α->Nat)(g:α)(j:Fg st0 (dp g st0))(k:J g)(h:∀a,J a->fw (CC P G) A (Hf P G) b (dp a st0) (de (CC P G) A (Hf P G) d Q (fun f=>∃i,J i/\μ i<μ a/\Fg f (dp i st0)))): (bp.loop b st0 d).holds (CC P G) A (Hf P G) Q:=by refine QH dp J μ g j k ?_;intro a l;refine fC (tS P G) b ?_ (h a l);intro e f c;cases e with|normal=>exact c|ret=>show bH _ _ _ d Q .ret f;rw[jv];simp only[de]at c;exact c|exit id=>simp only[de]at c;split at c;{rename_i r m;exact iq id d Q f r m c};exact acx id d Q f c.1 c.2
theorem xI(φ:AV->AV):∀(m:List (Option Obj)) (i:Nat),aj (mapM φ m) i=(aj m i).map (mK φ)
|[],i=>by simp[mapM,aj]
|none::r,0=>by simp[mapM,aj]
|some o::r,0=>by simp[mapM,aj]
|none::r,i+1=>by have:=xI φ r i;simpa[mapM,aj]using this
|some o::r,i+1=>by have:=xI φ r i;simpa[mapM,aj]using this
theorem Og(φ:AV->AV)(W:R_):(W.map (·.map AV.pv)).map (·.map (kZ φ))=W.map (·.map AV.pv):=by rw[qcA];congr 1;funext r;simp[qcP,kZ,ju]
theorem Fg.aiS{id a g d c b:Nat}{e f:R_}(h:a≠id)(h1:aj s.mem id=some (.rows g e c))(h2:aj s.mem a=some (.cg d (f.map (·.map AV.pv)++[[AV.c8 id c]]) b)): Fg s ((s.AP id (iP e c)).aq a (.rows d (f++[[.sl e []]]) b)):=by refine Fg.trans (Fg.AQ h1) (Fg.plain (rs':=f++[[PV.sl e []]]) ?_ rfl);have j:aj (Fe s.mem id) a=aj s.mem a:=by{unfold Fe aj;simp[List.getD_eq_getElem?_getD,qdF,h.symm]};simp only[St.AP,St.C1,xI,j,h2,qaM,mK,qaX,Og];simp[kZ,ju,mL,iP]
theorem Fg.amT{id sz ver:Nat}{W:List (List AV)}(h:aj s.mem id=some (.rows sz rs ver))(a:W=rs.map (·.map AV.pv)):Fg s (s.aq id (.cg sz W ver)):=by subst a;exact Fg.Xi h
theorem Fg.B5{id oid sz osz ver over:Nat}{Wd Z:R_}{V:List (List AV)}(a:oid≠id)(h1:aj s.mem id=some (.rows sz rs ver))(h2:aj s.mem oid=some (.cg osz V over))(b:V=Wd.map (·.map AV.pv)++[[AV.c8 id ver]])(c:Z=Wd++[[.sl rs []]]): Fg s ((s.AP id (iP rs ver)).aq oid (.rows osz Z over)):=by subst b c;exact Fg.aiS a h1 h2
end Go.Am
namespace Go.bt
open Go Go.Am Go.Proofs
open Tryz (prog)
variable {a:Nat} {accs:List Nat} {f:FuncId} {ps:List PV} {res:PV} {mx:Int}
abbrev cF(mx:Int)(accs:List Nat)(f:FuncId)(ac:cf)(eF:List RD)(nt:Nat):Prop:=gF prog (GG mx) accs f=some (ac,eF,nt)
theorem kC{a:cf}{b:List RD}{c:Nat}(h:gF prog (GG mx) accs f=some (a,b,c):=by kernel_rfl):cF mx accs f a b c:=h
abbrev pC(mx:Int)(f:FuncId)(ps:List PV)(res:PV):Prop:=bE prog (GG mx) f ps res
def AZ(F:Ar->Prop):Prop:=∀a:BinOp->IntKind->Int->Int->Int,∀b:IntKind->Int->Int->Int,∀c:IntKind->Int->Int->Int,∀d:Int->Int->Bool,∀e:Int->Int->Bool,∀f:Int->Int->Bool,∀g:Bool->Bool,∀h:Int->Int->Int,∀i:Int->Int->Int,∀j:Int->Prop,∀k:Int->Prop,∀l:Nat->Int,∀m:B_->Int,∀n:B_->B_->Prop,∀o:Int->Int->B_->Prop,∀p:B_->B_->Bool,∀q:B_->B_->Bool,∀r:R_->R_->Nat->Nat->Prop,∀s:R_->R_->Prop,∀t:List PV->List PV->Bool,∀u:List Nat->List PV->List PV->Prop,∀v:B_->R_,∀w:R_->Prop,∀x:Int->Int->R_->R_->Nat->Prop,∀y:Int->Int->R_->Nat->Prop,∀z:Int->Int->Nat->Prop,∀A:List (List AV)->Int->List AV,∀B:Int->List (List AV)->Nat->Prop,∀C:List (List AV)->Int->Nat->List AV->List (List AV),∀D:List (List AV)->List (List AV)->List (List AV),∀E:List (List AV)->List (List AV)->Nat->Nat->Prop,∀G:List (List AV)->Int,∀H:Int->Nat->Prop,∀I:Nat->R_->List PV->Bool,∀J:Nat->R_->List PV->List PV->List PV,∀K:Nat->R_->List PV->Int,∀L:Nat->R_->List PV->List PV->R_,∀M:Nat->R_->Int->List PV->R_,∀N:Int->R_->Prop,∀O:List Nat->R_->Nat->Prop,∀P:List Nat->R_->Bool,∀Q:Bool->Nat->R_->Nat->PV,∀R:Bool->Nat->R_->Nat->PV,∀S:B_->Int->Int,∀T:B_->Int->Int,∀U:Int->Int->Int,aF.bits=a->aF.shl=b->aF.shr=c->aF.min=h->aF.max=i->aF.CY=k->aF.ofNat=l->aF.slt=q->aF.bytes=v->aF.aat=A->aF.ain=B->aF.Lq=C->aF.yT=D->aF.AL=E->aF.Lr=G->aF.yU=I->aF.HR=J->aF.mix=K->aF.sK=L->aF.PT=M->aF.min1=N->aF.mleft=O->aF.AM=P->aF.Ls=Q->aF.Lt=R->aF.rune=S->aF.C0=T->aF.Lu=U->∀V:Nat->R_->List PV->List PV->R_,aF.HS=V->∀W:Nat->R_->List PV->List PV->PV,aF.xJ=W->aF.PS=H->∀X:Int->Nat->Nat,aF.off=X->aF.WD=z->∀Y:Int->List PV->R_,aF.AK=Y->∀Z:R_->Int->Nat->List PV->R_,aF.Gt=Z->aF.HP=u->aF.Xf=t->∀yw:List Nat->Nat->R_->List PV->Prop,aF.CZ=yw->aF.sbd=o->∀zw:B_->Int->Int->B_,aF.Lp=zw->∀I9:B_->B_->B_,aF.wZ=y->aF.Ln=n->aF.Lm=I9->∀yx:R_->B_,aF.qE=w->aF.gN=yx->aF.Xg=x->aF.nz=j->∀lB:Int->B_->Prop,∀tV:Int->Int->Int,aF.mul=tV->aF.Qn=s->∀yy:Int->Int->Int,aF.quo=yy->∀eo:R_->Int->Int->R_,aF.sin=lB->∀km:B_->Int->Int,aF.sat=km->∀oZ:Int->Int->Int,aF.rem=oZ->aF.uS=eo->∀l8:R_->Int,aF.oj=r->∀bJ:R_->R_->R_,aF.oi=bJ->∀cP:Int->Int->Int,aF.sub=cP->∀df:Int->Int->Int,aF.add=df->∀bu:IntKind->Int->Int,aF.wrap=bu->∀aI:R_->Int->List PV,aF.rat=aI->∀aJ:Int->R_->Nat->Prop,aF.tu=aJ->aF.wY=m->aF.seq=p->aF.not=g->aF.le=e->aF.eq=f->aF.mi=l8->aF.lt=d->F ⟨bu,df,cP,tV,yy,oZ,a,b,c,d,e,f,g,h,i,j,k,l,m,km,lB,I9,n,zw,o,p,q,l8,aI,aJ,bJ,r,s,t,u,v,yx,w,eo,x,y,Z,Y,z,A,B,C,D,E,G,X,H,yw,I,J,W,K,V,L,M,N,O,P,Q,R,S,T,U⟩
theorem az{F:Ar->Prop}(h:AZ F):F aF:=h _ _ _ _ _ _ _ _ _ _ _ _ _ _ _ _ _ _ _ _ _ _ _ _ _ _ _ _ _ _ _ _ _ _ _ _ _ _ _ _ _ _ _ _ _ _ rfl rfl rfl rfl rfl rfl rfl rfl rfl rfl rfl rfl rfl rfl rfl rfl rfl rfl rfl rfl rfl rfl rfl rfl rfl rfl rfl rfl _ rfl _ rfl rfl _ rfl rfl _ rfl _ rfl rfl rfl _ rfl rfl _ rfl _ rfl rfl rfl _ rfl rfl rfl rfl _ _ rfl rfl _ rfl _ rfl _ rfl _ rfl rfl _ rfl _ rfl _ rfl _ rfl _ rfl _ rfl _ rfl rfl rfl rfl rfl rfl rfl rfl
theorem pZ{c:cf}{d:List RD}(e:cF mx accs f c d a)(h:AZ fun A=>bH (CC prog (GG mx)) A (Hf prog (GG mx)) [.code c] (rQ d res) .normal (Am.start a ps))(b:Nat.ble ps.length a=true:=by exact rfl):pC mx f ps res:=E2 mixed e (qaH b) (az h:)
theorem pT{b:cf}{c:List RD}{T:Mj}(hT:∀f b c a,T f=some (b,c,a)->∃accs,gF prog (GG mx) accs f=some (b,c,a))(e:cF mx accs f b c a)(h:AZ fun A=>oI (CC prog (GG mx)) A (Hf prog (GG mx)) T->bH (CC prog (GG mx)) A (Hf prog (GG mx)) [.code b] (rQ c res) .normal (Am.start a ps))(d:Nat.ble ps.length a=true:=by exact rfl):pC mx f ps res:=E2 mixed e (qaH d) ((az h:) (eM mixed hT))
end Go.bt
namespace Go.Am
open Go Go.Am
variable {α:Type}
abbrev Pz(α:Type):=List Nat->α×List Nat
def dX:Pz Nat:=fun l=>match l with|[]=>(0,[])|x::r=>(x,r)
def rS:Pz Bool:=fun l=>match l with|[]=>(false,[])|x::r=>((match x with|0=>false|_=>true),r)
def Yu{α:Type}(p:Pz α):Nat->Pz (List α)
 |0,l=>([],l)
 |n+1,l=>match p l with|(x,r)=>match Yu p n r with|(xs,r)=>(x::xs,r)
def fV(p:Pz α):Pz (List α):=fun l=>match dX l with|(n,r)=>Yu p n r
def Dv(p:Pz α):Pz (Option α):=fun l=>match dX l with|(0,r)=>(none,r)|(_+1,r)=>match p r with|(x,r)=>(some x,r)
def ak4:Pz IntKind:=fun l=>match dX l with|(0,r)=>(.i64,r)|(1,r)=>(.i32,r)|(2,r)=>(.u8,r)|(3,r)=>(.u32,r)|(_,r)=>(.u64,r)
def GS:Pz BinOp:=fun l=>match dX l with|(0,r)=>(.neq,r)|(1,r)=>(.lss,r)|(2,r)=>(.add,r)|(3,r)=>(.eql,r)|(4,r)=>(.geq,r)|(5,r)=>(.gtr,r)|(6,r)=>(.leq,r)|(7,r)=>(.sub,r)|(8,r)=>(.quo,r)|(9,r)=>(.shl,r)|(10,r)=>(.rem,r)|(11,r)=>(.mul,r)|(12,r)=>(.shr,r)|(_,r)=>(.and,r)
def zUn:Pz UnOp:=fun l=>match dX l with|(_,r)=>(.not,r)
def Yv:List Int:=[0,1,-1,2,65,90,5,100000000,500000,999999,85,74,48,57,11,10,9,30,31,40,20,32000,40000,2000,60,2896,2591,6,14,3,32,126,100,80,4,5000,63,43,58,39,65536,390,391,200,500000000,1000000000000,-500000,393,392,52,9000,7,82,41,42,51,50,255,13,53,230,231,232,233,12,13000,26000,2500,20000,1000]
def T8:B_:=[72,69,68,78,50,71,49,82,52,53,86,79,89,66,65,80,76,67,81,77,70,83,32,39,43,58,63,48,56,85,51,57,55,84,88]
def Bz{α:Type}(z:α):List α->Nat->α
 |[],_=>z
 |x::r,n=>match n with|0=>x|m+1=>Bz z r m
def zBy:List Nat->B_
 |[]=>[]
 |n::r=>Bz 0 T8 n::zBy r
def T9:Nat->Pz PV
 |0,l=>(.mh,l)
 |f+1,l=>match dX l with
  |(0,r)=>match rS r with|(b,r)=>(.bool b,r)
  |(1,r)=>match ak4 r with|(k,r)=>match dX r with|(n,r)=>(.int k (Bz 0 Yv n),r)
  |(2,r)=>match fV dX r with|(s,r)=>(.str (zBy s),r)
  |(3,r)=>(.mh,r)
  |(4,r)=>(.yS,r)
  |(5,r)=>(.j8,r)
  |(6,r)=>(.oh,r)
  |(7,r)=>match dX r with|(g,r)=>match fV (T9 f) r with|(c,r)=>(.gM g c,r)
  |(8,r)=>match fV (T9 f) r with|(c,r)=>(.agg c,r)
  |(9,r)=>(.sl [] [],r)
  |(10,r)=>match fV (fV (T9 f)) r with|(a,r)=>match fV (fV (T9 f)) r with|(b,r)=>(.sl a b,r)
  |(11,r)=>match dX r with|(t,r)=>match T9 f r with|(v,r)=>(.iface t v,r)
  |(_,r)=>match fV (T9 f) r with|(c,r)=>(.ptr c,r)
def zP:Pz PV:=T9 9
def cA(p:Nat):Pz bR:=fun l=>match dX l with
 |(0,r)=>match zP r with|(p,r)=>(.k p,r)
 |(1,r)=>match fV zP r with|(p,r)=>(.g p,r)
 |(2,r)=>(.t p,r)
 |(3,r)=>(.t (p-1),r)
 |(4,r)=>(.t (p-2),r)
 |(5,r)=>(.t (p-3),r)
 |(n+6,r)=>(.t n,r)
def Yw(p:Nat):Pz (Nat×Nat×bR):=fun l=>match dX l with|(a,r)=>match dX r with|(b,r)=>match cA p r with|(x,r)=>((a,b,x),r)
def zOp(p:Nat):Nat->Pz wQ:=fun t r=>match t with
 |0=>match cA p r with|(x0,r)=>(.mv x0,r)
 |1=>match cA p r with|(x0,r)=>match Dv dX r with|(a,r)=>(.ld x0 a,r)
 |2=>match cA p r with|(x0,r)=>(.Ws x0,r)
 |3=>match cA p r with|(x0,r)=>match dX r with|(a,r)=>(.pad x0 a,r)
 |4=>match GS r with|(x0,r)=>match cA p r with|(a,r)=>match cA p r with|(b,r)=>(.bin x0 a b,r)
 |5=>match cA p r with|(x0,r)=>match dX r with|(a,r)=>(.ext x0 a,r)
 |6=>match cA p r with|(x0,r)=>(.len x0,r)
 |7=>match cA p r with|(x0,r)=>match cA p r with|(a,r)=>match dX r with|(b,r)=>(.idx x0 a b,r)
 |8=>match dX r with|(x0,r)=>match fV (cA p) r with|(a,r)=>(.call x0 a,r)
 |9=>match cA p r with|(x0,r)=>match cA p r with|(a,r)=>match dX r with|(b,r)=>(.st x0 a b,r)
 |10=>match dX r with|(x0,r)=>match fV (cA p) r with|(a,r)=>(.SI x0 a,r)
 |11=>match fV zP r with|(x0,r)=>match fV (Yw p) r with|(a,r)=>(.mk x0 a,r)
 |12=>match dX r with|(x0,r)=>match cA p r with|(a,r)=>match Dv (cA p) r with|(b,r)=>match Dv (cA p) r with|(c,r)=>(.Li x0 a b c,r)
 |13=>match dX r with|(x0,r)=>match dX r with|(a,r)=>match cA p r with|(b,r)=>match cA p r with|(c,r)=>(.app x0 a b c,r)
 |14=>match ak4 r with|(x0,r)=>match cA p r with|(a,r)=>(.Wt x0 a,r)
 |15=>match cA p r with|(x0,r)=>match dX r with|(a,r)=>(.box x0 a,r)
 |16=>match fV zP r with|(x0,r)=>(.alloc x0,r)
 |17=>match cA p r with|(x0,r)=>match dX r with|(a,r)=>match Dv dX r with|(b,r)=>(.SW x0 a b,r)
 |18=>match zUn r with|(x0,r)=>match cA p r with|(a,r)=>(.un x0 a,r)
 |19=>match cA p r with|(x0,r)=>(.lens x0,r)
 |20=>match cA p r with|(x0,r)=>match cA p r with|(a,r)=>match cA p r with|(b,r)=>(.pick x0 a b,r)
 |21=>match dX r with|(x0,r)=>match fV (cA p) r with|(a,r)=>(.c8 x0 a,r)
 |22=>match GS r with|(x0,r)=>match fV dX r with|(a,r)=>match cA p r with|(b,r)=>match cA p r with|(c,r)=>(.beq x0 a b c,r)
 |23=>match GS r with|(x0,r)=>match cA p r with|(a,r)=>match cA p r with|(b,r)=>(.CU x0 a b,r)
 |24=>match GS r with|(x0,r)=>match cA p r with|(a,r)=>match cA p r with|(b,r)=>(.ahI x0 a b,r)
 |25=>match cA p r with|(x0,r)=>(.Xe x0,r)
 |26=>match cA p r with|(x0,r)=>(.Wu x0,r)
 |27=>match cA p r with|(x0,r)=>(.Ql x0,r)
 |28=>match dX r with|(x0,r)=>match cA p r with|(a,r)=>(.Wv x0 a,r)
 |29=>match dX r with|(x0,r)=>match fV (cA p) r with|(a,r)=>(.SJ x0 a,r)
 |30=>match dX r with|(x0,r)=>match dX r with|(a,r)=>match fV zP r with|(b,r)=>match cA p r with|(c,r)=>match cA p r with|(d,r)=>(.SK x0 a b c d,r)
 |31=>match cA p r with|(x0,r)=>match Dv (cA p) r with|(a,r)=>match Dv (cA p) r with|(b,r)=>(.sH x0 a b,r)
 |32=>match cA p r with|(x0,r)=>match cA p r with|(a,r)=>match dX r with|(b,r)=>match dX r with|(c,r)=>(.Lj x0 a b c,r)
 |33=>match cA p r with|(x0,r)=>match cA p r with|(a,r)=>(.SL x0 a,r)
 |34=>match cA p r with|(x0,r)=>match fV (cA p) r with|(a,r)=>(.AF x0 a,r)
 |35=>match rS r with|(x0,r)=>match cA p r with|(a,r)=>match cA p r with|(b,r)=>(.mnx x0 a b,r)
 |36=>match dX r with|(x0,r)=>match fV (cA p) r with|(a,r)=>(.CW x0 a,r)
 |37=>match dX r with|(x0,r)=>match fV (cA p) r with|(a,r)=>(.SP x0 a,r)
 |38=>match dX r with|(x0,r)=>match cA p r with|(a,r)=>match cA p r with|(b,r)=>(.UM x0 a b,r)
 |39=>match cA p r with|(x0,r)=>(.SQ x0,r)
 |40=>match cA p r with|(x0,r)=>match dX r with|(a,r)=>(.SU x0 a,r)
 |41=>match cA p r with|(x0,r)=>match cA p r with|(a,r)=>match dX r with|(b,r)=>(.ixa x0 a b,r)
 |42=>match rS r with|(x0,r)=>match GS r with|(a,r)=>match cA p r with|(b,r)=>match cA p r with|(c,r)=>(.AG x0 a b c,r)
 |43=>match rS r with|(x0,r)=>match rS r with|(a,r)=>match dX r with|(b,r)=>(.SX x0 a b,r)
 |44=>(.Ww,r)
 |45=>match rS r with|(x0,r)=>match fV dX r with|(a,r)=>match dX r with|(b,r)=>match cA p r with|(c,r)=>match cA p r with|(d,r)=>match cA p r with|(e,r)=>(.Qm x0 a b c d e,r)
 |46=>match rS r with|(x0,r)=>match fV dX r with|(a,r)=>match zP r with|(b,r)=>match cA p r with|(c,r)=>match cA p r with|(d,r)=>(.sI x0 a b c d,r)
 |47=>match dX r with|(x0,r)=>match cA p r with|(a,r)=>match cA p r with|(b,r)=>match cA p r with|(c,r)=>(.AH x0 a b c,r)
 |48=>match rS r with|(x0,r)=>match fV dX r with|(a,r)=>match zP r with|(b,r)=>match rS r with|(c,r)=>match cA p r with|(d,r)=>match cA p r with|(e,r)=>(.Ll x0 a b c d e,r)
 |49=>match cA p r with|(x0,r)=>(.Wx x0,r)
 |50=>match cA p r with|(x0,r)=>(.Wy x0,r)
 |51=>match cA p r with|(x0,r)=>(.Wz x0,r)
 |52=>match cA p r with|(x0,r)=>(.WA x0,r)
 |53=>match cA p r with|(x0,r)=>(.Gr x0,r)
 |54=>match cA p r with|(x0,r)=>(.Gs x0,r)
 |55=>match cA p r with|(x0,r)=>(.CX x0,r)
 |56=>match dX r with|(x0,r)=>match fV zP r with|(a,r)=>(.sJ x0 a,r)
 |57=>match cA p r with|(x0,r)=>(.WB x0,r)
 |58=>match dX r with|(x0,r)=>match dX r with|(a,r)=>match cA p r with|(b,r)=>(.WC x0 a b,r)
 |59=>match GS r with|(x0,r)=>match cA p r with|(a,r)=>match cA p r with|(b,r)=>(.pp x0 a b,r)
 |60=>match cA p r with|(x0,r)=>(.SY x0,r)
 |61=>match dX r with|(x0,r)=>match cA p r with|(a,r)=>match cA p r with|(b,r)=>(.ust x0 a b,r)
 |_=>match dX r with|(x0,r)=>match cA p r with|(a,r)=>match cA p r with|(b,r)=>(.AJ x0 a b,r)
def zAI(a:Nat):Pz AI:=fun l=>match dX l with
 |(h,r)=>match h%3 with
  |0=>match zOp a (h/3) r with|(o,r)=>(⟨some (a+1),o,none⟩,r)
  |1=>match zOp a (h/3) r with|(o,r)=>(⟨none,o,none⟩,r)
  |_=>match dX r with|(d,r)=>match dX r with|(g,r)=>match zOp a (h/3) r with|(o,r)=>(⟨(match d with|0=>none|n+1=>some n),o,(match g with|0=>none|n+1=>some (n/2,(match n%2 with|0=>false|_=>true)))⟩,r)
def Yx:Nat->Nat->Pz (List AI)
 |0,_,l=>([],l)
 |n+1,prev,l=>match zAI prev l with|(x,r)=>match Yx n (match x.d with|some d=>d|none=>prev) r with|(xs,r)=>(x::xs,r)
def vV:Nat->Pz cf
 |0,l=>(.skip,l)
 |f+1,l=>match dX l with
  |(0,r)=>(.skip,r)
  |(1,r)=>match dX r with|(n,r)=>match Yx n 0 r with|(o,r)=>match Dv (fV (fV dX)) r with|(t,r)=>(.pA o t,r)
  |(2,r)=>match vV f r with|(a,r)=>match vV f r with|(b,r)=>(.seq a b,r)
  |(3,r)=>match cA 0 r with|(c,r)=>match vV f r with|(a,r)=>match vV f r with|(b,r)=>(.cond c a b,r)
  |(4,r)=>match dX r with|(i,r)=>match vV f r with|(b,r)=>(.block i b,r)
  |(5,r)=>match vV f r with|(b,r)=>(.loop b,r)
  |(6,r)=>match dX r with|(i,r)=>(.exit i,r)
  |(_,r)=>(.ret,r)
def zT1:List (List Nat):=[[0,2],[0],[2],[3]]
def zT2:List (List (List Nat)):=[[[4],[12],[9],[5],[1],[11],[24],[6],[0,1],[7],[2,1],[1,2],[14],[23],[10],[20]],[[0,3],[3,2],[8],[0,0],[17],[0,2,1],[15],[0,7],[19],[21],[2,2],[13],[18],[4,2],[26],[30]],[[0,1,0],[0,0,1],[5,2],[28],[0,9],[60],[0,6],[22],[16],[27],[3,2,1],[0,4],[0,1,2],[0,0,1,0,0],[6,2],[10,9]],[[33],[0,0,1,2],[3,2,0],[5,4],[0,2,0,7],[28,2],[2,0],[29],[50],[0,2,2],[0,2,3],[7,6],[0,11],[31],[47],[14,13]],[[32],[0,2,2,1],[0,0,1,0,0,1],[0,1,0,0],[9,2],[0,1,0,1,2],[0,0,2],[8,7],[3,1],[25],[39],[0,2,0,2,1],[2,0,1],[36],[16,15],[34]],[[35],[3,2,0,1],[2,1,1,2,5],[5,4,3],[12,11],[45],[2,3,2],[54],[2,1,3],[8,7,6],[2,5],[0,0,0,0],[22,21],[0,3,2],[5,2,1],[11,12]],[[0,0,0,1],[0,1,2,14],[37],[2,1,2,2],[0,0,0,0,0,2,1],[19,18],[38],[8,9],[0,2,2,1,3,2],[9,1],[18,2,12],[4,1],[0,7,0,2,1],[0,6,0,2,4,1],[42],[2,1,4]],[[0,8],[2,1,1,2,3],[2,1,2],[10,9,8],[0,3,2,0],[1,2,2],[1,1],[7,2],[3,2,1,0],[0,2,0,3],[1,13],[2,1,1,2],[0,1,0,1],[0,2,0,15],[3,2,1,0,9],[0,13]],[[0,2,5],[52],[0,2,17],[0,0,1,0],[1,0,0,2],[13,14],[56],[12,2],[1,3,2],[17,16],[4,0,2],[18,2,0,0,1,0,0,0,4,0,5,2,1,1,14],[41],[48],[4,5,6,7],[1,0]],[[0,14],[44],[8,7,6,5,4],[0,2,11],[25,24],[9,8],[27,27],[1,5],[11,10],[2,0,14],[4,3,2],[0,15],[0,0,9],[40],[13,12,11],[14,13,12,11]],[[90],[15,16],[57],[1,1,2],[6,5,3,2,4,7],[0,0,0,0,0,7],[10,2],[5,4,3,2],[62],[63],[4,5],[6,5],[87],[102],[59],[51]]]
def zT3:List (List (List Nat)):=[[[46],[80],[66],[69],[65],[5,2,1,1,14],[58],[84],[43],[18,2,0,0,1,0,0,0,4],[18,2],[3,2,4],[77],[72],[55],[61]],[[93],[49],[76],[64],[79],[53],[68],[171],[99],[121],[94],[85],[96],[105],[323],[0,0,1,0,0,0,4]],[[144],[136],[78],[108],[186],[73],[86],[91],[97],[101],[71],[81],[98],[89],[103],[82]],[[88],[170],[1,14],[83],[107],[249],[227],[131],[74],[75],[95],[168],[67],[6,7],[329],[92]],[[132],[145],[155],[104],[167],[120],[187],[258],[179],[100],[109],[117],[126],[70],[106],[111]],[[237],[141],[166],[129],[113],[127],[112],[147],[159],[150],[194],[254],[162],[165],[172],[185]],[[142],[115],[123],[243],[125],[199],[290],[228],[0,5,2,1,1,14],[229],[140],[274],[190],[163],[164],[261]],[[138],[139],[119],[180],[183],[178],[110],[118],[124],[133],[130],[137],[160],[355],[367],[513]],[[305],[306],[270],[273],[189],[275],[262],[259],[146],[169],[114],[156],[161],[128],[134],[175]],[[176],[116],[122],[276],[309],[253],[503],[520],[292],[233],[236],[269],[271],[272],[188],[191]],[[193],[255],[302],[260],[294],[174],[177],[135],[151],[173],[181],[182],[195],[277],[278],[311]],[[143],[250],[251],[252],[222],[149],[221],[241],[608],[268],[0,6,0,2],[293],[330],[331],[332],[328]],[[319],[320],[230],[231],[232],[234],[235],[307],[308],[192],[256],[196],[157],[257],[238],[197]],[[198],[184],[310],[312],[313],[326],[226],[148],[152],[153],[158],[204],[213],[209],[219],[218]],[[224],[223],[239],[240],[244],[242],[247],[263],[264],[266],[267],[281],[287],[283],[285],[291]],[[284],[289],[297],[298],[295],[300],[299]]]
def zW(k:List Nat):Nat->Nat->List Nat
 |0,_=>k
 |_,1=>k
 |f+1,n=>match Nat.blt (n%16) 4 with
  |true=>Bz [] zT1 (n%16)++zW k f (n/16)
  |false=>match Nat.blt (n%16) 15 with
   |true=>Bz [] (Bz [] zT2 (n%16-4)) (n/16%16)++zW k f (n/256)
   |false=>Bz [] (Bz [] zT3 (n/16%16)) (n/256%16)++zW k f (n/4096)
def Yy:List Nat->List Nat
 |[]=>[]
 |n::r=>zW (Yy r) 9999 n
def dc(n:List Nat):cf:=(vV 300 (Yy n)).1
def dL(n:List Nat){c:cf}(_:dc n=c:=by cbv):cf:=c
end Go.Am
