import Derived.ChangeShapes
import Derived.OpenShut
import Derived.OpenVars
import Derived.Carry
import Derived.ChangeSame
import Derived.RowKit
import Derived.Test.YtfaccbkibjkfjaaGreatDoorProg
import Derived.Test.YtfaccbkibjkfjaaGreatDoorT06
set_option linter.all false
set_option maxRecDepth 100000
set_option maxHeartbeats 1000000
namespace Go.Am
section
variable {P:Program} {G:Nat->Option (List PV)} {S:Nat->Prop} {st:St} {w:World} {accs:List Nat} {ρ:AV->Value->Prop} {A:Ar} {C:CT} {I:IC} {N:St->Prop} {Q:Ex->St->Prop} {T:Mj} {U:Bool} {a:List Item} {b:Bool} {c:List Item} {d:Option Nat} {e:List Item} {f:FuncId} {j:Int} {k:IntKind} {l:List Int} {n:Nat} {ps:List PV} {r:bp} {res:PV} {s st0:St} {v:Nat} {α:Type}
def uD(P:Program):ResultVar->Option RD
 |.tmp t=>some (.tmp t)
 |.cell a t=>match ey P t with
  |some true=>match dK P t with|some n=>some (.cell a (some n))|none=>none
  |some false=>some (.cell a none)
  |none=>none
def fe(P:Program):List ResultVar->Option (List RD)
 |[]=>some []
 |x::r=>match uD P x with
  |some d=>match fe P r with|some ds=>some (d::ds)|none=>none
  |none=>none
def fN(a:List RD)(st:St):Option PV:=
 match mN st a with
 |some vs=>match lS st.mem (one? vs)with|some (p,_)=>some p|none=>none
 |none=>none
def rQ(a:List RD)(res:PV):Ex->St->Prop
 |.exit _,_=>False
 |_,st=>fN a st=some res
def start(a:Nat)(ps:List PV):St:=⟨ps.map .pv++List.replicate (a-ps.length) .dead,[],0,List.replicate a none⟩
section
variable {w0:World} {own0:Nat->Prop} {hvs:List Value×List Deferred} {S0:Nat->Prop} {γ:Nat->Option Nat} {a:Act} (h:dW w0 own0 hvs G γ S st a w)
include h
theorem L9{r:ResultVar}{d:RD}{v:AV}(k:uD P r=some d)(f:Lx st d=some v): ∃u,((match r with|.tmp t=>pure (a.tmps.getD t undef)|.cell x t=>do loadVar t (<-asAddr (a.tmps.getD x undef)):Sem Value)).run P w=.ok u w/\lF S w (Ref γ S w st.mem) v u:=by cases r with|tmp t=>simp[uD]at k;subst k;simp[Lx]at f;subst f;exact⟨_,Sem.run_pure _ _ _,h.slot t⟩|cell x t=>simp[uD]at k;have y:∃g n,d=.cell x n/\ey P t=some g/\(match g with|true=>∃m,dK P t=some m/\n=some m|false=>n=none):=by{split at k;{grind};{simp_all};grind};obtain⟨g,n,rfl,z,p⟩:=y;simp[Lx]at f;split at f;{rename_i id l hs;split at f;{rename_i E q;have i:=h.slot x;rw[hs]at i;simp only[lF,Ref,q]at i;obtain⟨b,F,i⟩:=i;obtain⟨G,c,e,H,I,J,A⟩:=h.mem id _ q;have o:At w b=some c:=by{grind[At]};simp[i,asAddr];cases g with|false=>grind[js,bB.get,kH]|true=>simp at p;obtain⟨m,B,rfl⟩:=p;simp[js]at f;split at f;{rename_i K hl;split at hl;{rename_i C;simp at hl;subst hl;simp at f;subst f;obtain⟨D,L,M,s⟩:=bB.list ((A.1.drop l).take m);rw[qaA]at s;have j:D.length=m:=g_;exact⟨_,kI z B o j s,by grind[lF]⟩};grind};grind};grind};grind
theorem vM:∀{l:List ResultVar} {c:List RD} {e:List AV},fe P l=some c->mN st c=some e->∃f:List Value,(l.mapM fun r=>(match r with|.tmp t=>pure (a.tmps.getD t undef)|.cell x t=>do loadVar t (<-asAddr (a.tmps.getD x undef)):Sem Value)).run P w=.ok f w/\au S w (Ref γ S w st.mem) e f
|[],c,e,b,g=>by simp_all[fe,mN,au]
|r::l,c,e,b,g=>by simp[fe]at b;split at b;{rename_i d i;split at b;{rename_i j k;simp at b;subst b;simp[mN]at g;split at g;{rename_i v m;split at g;{rename_i n o;obtain⟨u,h1,h2⟩:=L9 h i m;obtain⟨f,p,q⟩:=vM k o;refine⟨u::f,?_,by grind[au]⟩;simp_all};grind};grind};grind};grind
theorem vN{b:Func}{f:List RD}{v:AV}(g:fe P b.results.toList=some f)(c:lT f st=some v): ∃u,(results b a.tmps).run P w=.ok u w/\lF S w (Ref γ S w st.mem) v u:=by unfold lT at c;split at c;{rename_i i hvs;simp at c;subst c;obtain⟨d,l,j⟩:=vM h g hvs;have m:(results b a.tmps).run P w=.ok (if n:d.toArray.size=1 then d.toArray[0]else .tuple d.toArray) w:=by{have e:b.results=b.results.toList.toArray:=s_;unfold results;rw[e,List.mapM_toArray];grind[Sem.run_bind,Sem.run_pure,map_eq_pure_bind,Result.andThen]};rcases i with _|⟨x,_|⟨y,z⟩⟩;{grind[au,one?,lF]};{obtain⟨u,r,rfl,k,rfl⟩:=j;exact⟨u,a_,k⟩};grind[au,one?,lF]};grind
theorem vO{d:Func}{e:List RD}(f:fe P d.results.toList=some e)(c:fN e st=some res): ∃v b,(results d a.tmps).run P w=.ok v w/\aD (cV γ S b) w res v:=by unfold fN at c;split at c;{rename_i g hvs;split at c;{rename_i p b hl;simp at c;subst c;obtain⟨u,i,j⟩:=vN h f (v:=one? g) (by grind[lT]);exact⟨u,b,i,x9 h hl j⟩};grind};grind
end
theorem xD{nt:Nat}:∀{a:List Value},aM S w ps a->∀(n i:Nat),lF S w ρ ((ps.map AV.pv++List.replicate n AV.dead).getD i AV.dead) ((a.toArray++Array.replicate n undef).getD i undef):=by induction ps with|nil=>grind[lF]|cons p ps b=>intro a h n i;obtain⟨v,r,rfl,d,c⟩:=h;cases i with|zero=>have e:((v::r).toArray++Array.replicate n undef).getD 0 undef=v:=by{simp_all[Array.getElem?_append]};grind[lF]|succ i=>have:=b c n i;have e:((v::r).toArray++Array.replicate n undef).getD (i+1) undef=(r.toArray++Array.replicate n undef).getD i undef:=by{rw[qaJ,qaJ];grind};simp_all
theorem aM.uE{a:List Value}(h:aM S w ps a):a.length=ps.length:=by grind[aM.length]
theorem Bq(u:P.follows .mixedOrders=true){j:Func}{c:Code}{p:cf}{n:List RD}{d:Nat}(x:P.funcs[f]? =some j)(y:j.body=some c)(J:(j.name== "runtime.NumGoroutine")=false)(z:bD P G accs c=some p)(A:fe P j.results.toList=some n)(K:j.ntmps=d)(L:ps.length<=d)(h:bH (CC P G) aF (Hf P G) [.code p] (rQ n res) .normal (start d ps)):bE P G f ps res:=by intro S w o B C q;have r:=aM.uE q;unfold dN;have D:(callFunc f o.toArray).run P w=.ok (.enter f o.toArray) w:=by{simp_all[callFunc]};rw[D];refine qdc x y ?_;have E:ft w (fun _=>False) ([],[]) G S (start d ps) {tmps:=o.toArray++Array.replicate (j.ntmps-o.toArray.size) undef,defers:=[]} w:=by{have M:∀id,aj (start d ps).mem id=none:=by{grind[start,aj]};refine⟨fun _=>none,S,fun _ h=>h,fun _ h=>.inl h,{size:=?_,slot:=?_,held:=?_,defers:=rfl,mem:=?_,lU:=?_,inj:=?_,own:=?_,bound:=B,eJ:=?_,jn:=C,kept:=fun _ _ _=>rfl,os:=rfl,tape:=rfl,output:=rfl,eY:=qak _}⟩;{grind[start]};{intro i;have:=xD (nt:=d) (ρ:=Ref (fun _=>none) S w (start d ps).mem) q (d-ps.length) i;grind[start,St.slot]};{rfl};{simp_all};{simp_all};{simp_all};{simp_all};simp_all};refine nH u c z E (Qa:=rQ n res) h ?_;intro e st' s w' F m;obtain⟨γ,S',bg,Cy,a⟩:=F;have key:fN n st'=some res->s.defers=[]/\∃v,(results j s.tmps).run P w'=.ok v w'/\∃t,Ending.returned v=.returned t/\(RowKit.Below w.heap.size w w'/\aD (fun b=>S b\/(w.heap.size<=b/\b<w'.heap.size)) w' res t):=by{intro m;obtain⟨v,b,H,I⟩:=vO a A m;refine⟨a.defers,v,H,v,rfl,⟨a.os,a.tape,a.output,a.eY,fun k g=>a.kept k g (fun h=>h)⟩,?_⟩;refine aD.later (fun k g=>⟨?_,rfl,rfl⟩) _ I;rcases g with g|⟨_,i,g⟩;{rcases Cy k g with l|l|l;{simp_all};{exact .inr ⟨l,a.bound k g⟩};simp_all};rcases(a.own i k g).2 with l|l;{exact .inr ⟨l,a.eJ i k g⟩};simp_all};cases e with|normal=>exact key m|ret=>exact key m|exit id=>exact m.elim
theorem rR:∀{mem:List (Option Obj)},pD mem=true->∀i,aj mem i=none
|[],_,i=>by simp[aj]
|none::r,h,i=>by cases i with|zero=>simp[aj]|succ i=>have:=rR (mem:=r) (by grind[pD]) i;grind[aj]
|some _::_,h,_=>by grind[pD]
theorem oU(n:Nat)(a:List (Option Obj))(i:Nat):aj (AR n a) i=aj a i:=by unfold AR;split;{rename_i h;unfold aj;by_cases b:i<n;{simp_all};have:=rR h (i-n);grind[aj]};rfl
theorem au.vP:∀{xs:List AV} {a:List Value},xs.length=a.length->(∀i,lF S w ρ (xs.getD i .dead) (a.getD i undef))->au S w ρ xs a
|[],[],_,_=>r_
|x::xs,v::a,hl,h=>by exact⟨v,a,rfl,by simpa using h 0,au.vP a_ (fun i=>by simpa using h (i+1))⟩
|[],_::_,hl,_=>a_
|_::_,[],hl,_=>a_
theorem au.slots:∀{xs:List AV} {a:List Value},au S w ρ xs a->∀i,lF S w ρ (xs.getD i .dead) (a.getD i undef)
|[],a,h,i=>by grind[lF]
|x::xs,a,h,i=>by obtain⟨v,r,rfl,h1,h2⟩:=h;cases i with|zero=>simp_all|succ i=>simpa using au.slots h2 i
theorem au.XZ(n:Nat):au S w ρ (List.replicate n .dead) (List.replicate n undef):=by induction n with|zero=>rfl|succ n a=>grind[au,lF]
theorem au.cut{xs:List AV}{a b:List Value}(h:au S w ρ xs (a++b)):au S w ρ (xs.take a.length) a/\au S w ρ (xs.drop a.length) b:=by grind[au.length,List.take_append_drop,au.split,List.length_append,List.append_inj]
def gF(P:Program)(G:Nat->Option (List PV))(accs:List Nat)(f:FuncId):Option (cf×List RD×Nat):=
 match P.funcs[f]? with
 |none=>none
 |some fn=>match fn.body with
  |none=>none
  |some c=>match fn.name== "runtime.NumGoroutine" with
   |true=>none
   |false=>match bD P G accs c with
    |none=>none
    |some ac=>match fe P fn.results.toList with
     |none=>none
     |some a=>some (ac,a,fn.ntmps)
theorem acy{b:cf}{d:List RD}{e:Nat}(h:gF P G accs f=some (b,d,e)): ∃a c,P.funcs[f]? =some a/\a.body=some c/\(a.name== "runtime.NumGoroutine")=false/\bD P G accs c=some b/\fe P a.results.toList=some d/\a.ntmps=e:=by unfold gF at h;split at h;{cases h};grind
theorem E2{b:cf}{c:List RD}{a:Nat}(d:P.follows .mixedOrders=true)(h:gF P G accs f=some (b,c,a))(e:ps.length<=a)(g:bH (CC P G) aF (Hf P G) [.code b] (rQ c res) .normal (start a ps)):bE P G f ps res:=by grind[acy,Bq]
theorem IP{z:cf}{s:List RD}{j:Nat}(g:P.follows .mixedOrders=true)(h:gF P G accs f=some (z,s,j)){d:List AV}{K:AV->St->Prop}(H:fw (CC P G) aF (Hf P G) z (enter j d st) (Kx s st.slots.length st.base K)):Hf P G f d st K:=by obtain⟨A,c,I,o,Z,J,L,M⟩:=acy h;intro w0 own0 hvs S0 γ S a w vs bg Cy k B;have p:=au.length B;unfold dN;have N:(callFunc f vs.toArray).run P w=.ok (.enter f vs.toArray) w:=by{simp_all[callFunc]};rw[N];refine qdc I o ?_;have C:∀i,aj (st.mem++List.replicate j none) i=aj st.mem i:=by{grind[aj]};have hρ:∀x v,Ref γ S w st.mem x v->Ref γ S w (st.mem++List.replicate j none) x v:=Ref.later (bf.refl S w) (fun id q g=>⟨a_,rfl,fun _ _=>⟨rfl,rfl⟩⟩);have O:au S w (Ref γ S w st.mem) st.slots a.tmps.toList:=au.vP (by simpa using k.size) (fun i=>by have:=k.slot i;grind[St.slot,Array.getD_eq_getD_getElem?]);have Q:ft w0 own0 (a.tmps.toList++hvs.1,[]) G S0 (enter j d st) {tmps:=vs.toArray++Array.replicate (A.ntmps-vs.toArray.size) undef,defers:=[]} w:=by{refine⟨γ,S,bg,Cy,{k with size:=?_,slot:=?_,held:=?_,defers:=rfl,mem:=?_,lU:=?_}⟩;{grind[enter]};{intro i;have t:au S w (Ref γ S w (enter j d st).mem) (d++List.replicate (j-d.length) .dead) (vs++List.replicate (j-d.length) undef):=au.append (au.later (bf.refl S w) hρ _ B) (au.XZ _);have:=au.slots t i;simpa[enter,St.slot,p,M,<-Array.getElem?_toList]using this};{exact au.later (bf.refl S w) hρ _ (au.append O k.held)};{intro id q g;simp[enter]at g;rw[C]at g;exact eK.later (bf.refl S w) hρ rfl (fun _ _=>rfl) (k.mem id q g)};intro i b o;simp only[enter];rw[C];exact k.lU i b o};refine nH g c J Q H ?_;intro e st' D w' R m;obtain⟨γ',S',T,U,n⟩:=R;have key:(match lT s st' with|some v=>K v (leave st.slots.length st.base st')|none=>False)->D.defers=[]/\∃v,(results A D.tmps).run P w'=.ok v w'/\∃E,Ending.returned v=.returned E/\ ∃r l γ' S',K r l/\(∀b,S0 b->S' b)/\(∀b,S' b->S0 b\/w0.heap.size<=b\/own0 b)/\dW w0 own0 hvs G γ' S' l a w'/\lF S' w' (Ref γ' S' w' l.mem) r E:=by{intro m;split at m;{rename_i v V;obtain⟨u,t,W⟩:=vN n L V;have hρ':∀x v,Ref γ' S' w' st'.mem x v->Ref γ' S' w' (AR st'.base st'.mem) x v:=Ref.later (bf.refl S' w') (fun id q g=>⟨by grind[oU],rfl,fun _ _=>⟨rfl,rfl⟩⟩);have X:=au.later (bf.refl S' w') hρ' _ n.held;obtain⟨y,F⟩:=au.cut X;have Y:a.tmps.toList.length=st.slots.length:=by{simpa using k.size.symm};rw[Y]at y F;have Zo:=au.length y;refine⟨n.defers,u,t,u,rfl,v,_,γ',S',m,T,U,{n with size:=?_,slot:=?_,held:=F,defers:=k.defers,mem:=?_,lU:=?_},lF.later (bf.refl S' w') hρ' _ W⟩;{grind[leave]};{intro i;have:=au.slots y i;grind[leave,St.slot,Array.getD_eq_getD_getElem?]};{intro id q g;simp[leave]at g;rw[oU]at g;exact eK.later (bf.refl S' w') hρ' rfl (fun _ _=>rfl) (n.mem id q g)};intro i b o;simp only[leave];rw[oU];exact n.lU i b o};simp_all};cases e with|normal=>exact key m|ret=>exact key m|exit id=>exact m.elim
theorem eM(e:P.follows .mixedOrders=true)(hT:∀f a b c,T f=some (a,b,c)->∃accs,gF P G accs f=some (a,b,c)):oI (CC P G) aF (Hf P G) T:=by intro f a b c g d st K h;grind[IP]
def vQ:Mj:=fun _=>none
theorem HQ:oI C A I vQ:=by intro f b c d a;cases a
theorem aiZ{x:bp}(h:x=r)(a:r.holds C A I Q):x.holds C A I Q:=h▸a
theorem go(n:Nat)(h:run A vQ false n a st=r)(b:r.holds (CC P G) A (Hf P G) Q): bH (CC P G) A (Hf P G) a Q .normal st:=pF (Hf.mono P G) HQ n r h b
theorem go1{b:cf}(n:Nat)(h:run A vQ false n [.code b] st=r)(a:r.holds (CC P G) A (Hf P G) Q): fw (CC P G) A (Hf P G) b st Q:=pF (Hf.mono P G) HQ (is:=[.code b]) n r h a
theorem tS(P:Program)(G:Nat->Option (List PV)):Gv (Hf P G):=Hf.mono P G
theorem QH{b:cf}(dp:α->St->St)(J:α->Prop)(μ:α->Nat)(c:α)(g:Fg st0 (dp c st0))(i:J c)(h:∀a,J a->fw (CC P G) A (Hf P G) b (dp a st0) (fun e f=>match e with|.normal=>∃d,J d/\μ d<μ a/\Fg f (dp d st0)|e=>Q e f)): fw (CC P G) A (Hf P G) (.loop b) st0 Q:=by refine HW (tS P G) (fun n s=>∃a,J a/\n=μ a/\s=dp a st0) ⟨_,_,g,c,i,rfl,rfl⟩ ?_;grind
theorem X3{b:cf}(dp:Nat->St->St)(n:Nat)(ok:Nat->Prop)(c:Fg st0 (dp 0 st0))(h:∀v:Nat,v<=n->(∀k,k<v->ok k)->fw (CC P G) A (Hf P G) b (dp v st0) (fun e a=>match e with|.normal=>v<n/\ok v/\Fg a (dp (v+1) st0)|e=>Q e a)): fw (CC P G) A (Hf P G) (.loop b) st0 Q:=by refine QH (α:=Nat) dp (fun v=>v<=n/\∀k,k<v->ok k) (fun v=>n-v) 0 c ⟨qcK _,fun k d=>absurd d (Nat.not_lt_zero _)⟩ ?_;grind[fC,tS]
def de(C:CT)(A:Ar)(I:IC)(a:List Item)(Q:Ex->St->Prop)(N:St->Prop):Ex->St->Prop
 |.normal,s=>N s
 |.ret,s=>match kb a with
  |some ((b,n,base,d),r)=>Kx b n base (fun v c=>bH C A I r Q .normal (c.put d v)) .ret s
  |none=>Q .ret s
 |.exit id,s=>match exitTo id a with
  |some r=>bH C A I r Q .normal s
  |none=>qf id a=true/\Q (.exit id) s
theorem de.norm(h:N s):de C A I a Q N .normal s:=h
theorem de.oV(b:kb a=none)(h:Q .ret s):de C A I a Q N .ret s:=by grind[de]
theorem de.X4{r:List Item}{id:Nat}(b:exitTo id a=some r)(h:bH C A I r Q .normal s):de C A I a Q N (.exit id) s:=by grind[de]
theorem aB(h:N s):(bp.fin .normal s).holds C A I (de C A I a Q N):=h
theorem ff(b:kb a=none)(h:Q .ret s):(bp.fin .ret s).holds C A I (de C A I a Q N):=de.oV (N:=N) b h
theorem wW{r:List Item}{id:Nat}(b:exitTo id a=some r)(h:bH C A I r Q .normal s):(bp.fin (.exit id) s).holds C A I (de C A I a Q N):=de.X4 (N:=N) b h
theorem aN{enc:α->List PV}{l:List α}(h:v<l.length):aF.rat (l.map enc) (Int.ofNat v)=enc l[v]:=by simp[aF,h]
theorem aO{enc:α->List PV}{l:List α}(h:v<l.length){a:Nat}(hs:(enc l[v]).length=a):aF.tu (Int.ofNat v) (l.map enc) a:=by grind[aF]
theorem jJ{b:cf}(dp:Nat->St->St)(n:Nat)(ok:Nat->Prop)(d:Fg st0 (dp 0 st0))(h:∀v:Nat,v<=n->(∀k,k<v->ok k)->fw (CC P G) A (Hf P G) b (dp v st0) (de (CC P G) A (Hf P G) a Q (fun c=>v<n/\ok v/\Fg c (dp (v+1) st0)))): (bp.loop b st0 a).holds (CC P G) A (Hf P G) Q:=by refine X3 dp n ok d ?_;intro v f g;refine fC (tS P G) b ?_ (h v f g);intro e c i;cases e with|normal=>exact i|ret=>grind[jv,de]|exit id=>grind[de,iq,acx]
theorem bp.af{c:Bool}{a b:bp}(d:c=true->a.holds C A I Q)(e:c=false->b.holds C A I Q):(match c with|true=>a|false=>b).holds C A I Q:=by grind
@[simp] theorem ade{a b:Int}:aF.lt a b=decide (a<b):=rfl
@[simp] theorem agR{a b:Int}:aF.le a b=decide (a<=b):=rfl
@[simp] theorem std_eq{a b:Int}:aF.eq a b=decide (a=b):=rfl
@[simp] theorem X5{r:R_}:aF.mi r=r.length:=rfl
@[simp] theorem X6{r:B_}:aF.wY r=r.length:=rfl
theorem ao{a:List AV}(h:dB st.mem a=some (ps,b))(e:bE P G f ps res)(g:b=true->res.jf=true)(i:bH (CC P G) A (Hf P G) c Q .normal (st.put d (.pv res))):(bp.call f a d st c).holds (CC P G) A (Hf P G) Q:=.inl ⟨ps,b,res,h,e,g,i⟩
theorem bF{a:List AV}(h:dB st.mem a=some (ps,b))(e:bE P G f ps res)(g:b=true->res.jf=true)(i:bH (CC P G) A (Hf P G) c Q .normal (st.put d (.pv res))):(bp.afq f a d st c).holds (CC P G) A (Hf P G) Q:=.inl ⟨ps,b,res,h,e,g,i⟩
theorem ae{p:Prop}(b:p)(h:bH C A I a Q .normal st):(bp.pre p st a).holds C A I Q:=⟨b,h⟩
def ints(ps:List Int):R_:=ps.map fun p=>[.i p]
theorem gv{ps:List Int}(a:0<=j)(h1:j<ps.length):aF.rat (ints ps) j=[.i (ps.getD j.toNat 0)]:=by grind[aF,ints]
theorem gW{ps:List Int}(a:0<=j)(h1:j<ps.length):aF.tu j (ints ps) 1:=by grind[aF,ints]
theorem wrap64{n:Int}(a: -9223372036854775808<=n)(h1:n<9223372036854775808):aF.wrap .i64 n=n:=by have b:(2:Int)^IntKind.i64.bits=18446744073709551616:=d_;have c:(2:Int)^(IntKind.i64.bits-1)=9223372036854775808:=d_;simp[aF];unfold IntKind.wrap;have hs:IntKind.i64.signed=true:=rfl;grind
theorem kY(h:v<2^62):aF.wrap .i64 (aF.add (Int.ofNat v) 1)=Int.ofNat (v+1):=by grind[wrap64,aF]
def St.tidy(s:St)(b:List Nat)(a:List (Option Nat)):St:=(s.norm.mj a).sM b
theorem Fg.ca{b:St}(c:List Nat)(a:List (Option Nat))(d:jN a=true)(h:s.tidy c a=b):Fg s b:=h▸Fg.trans (Fg.norm s) (Fg.trans (Fg.mj _ a d) (Fg.sM _ c))
theorem run_eq{B:Ar}(h:run B T U n a st=r)(b:r.holds C A I Q):(run B T U n a st).holds C A I Q:=h▸b
@[simp] theorem kT{a b:Int}:aF.add a b=a+b:=rfl
@[simp] theorem iQ{a b:Int}:aF.sub a b=a-b:=rfl
@[simp] theorem E3{a b:Int}:aF.mul a b=a*b:=rfl
@[simp] theorem ad2{a b:Int}:aF.quo a b=a.tdiv b:=rfl
@[simp] theorem E4{a b:Int}:aF.rem a b=a.tmod b:=rfl
@[simp] theorem n9{a:Int}:aF.wrap k a=k.wrap a:=rfl
@[simp] theorem std_not{a:Bool}:aF.not a= !a:=rfl
@[simp] theorem std_nz{a:Int}:aF.nz a=(a≠0):=rfl
@[simp] theorem X7{a:Int}:aF.CY a=(0<=a):=rfl
@[simp] theorem WU{a:Nat}:aF.ofNat a=a:=rfl
@[simp] theorem X8{a b:B_}:aF.Lm a b=a++b:=rfl
@[simp] theorem X9{a b:B_}:aF.Ln a b=(a.length+b.length<=9223372036854775807):=rfl
@[simp] theorem std_seq{a b:B_}:aF.seq a b=decide (a=b):=rfl
@[simp] theorem dj{a b:R_}:aF.oi a b=a++b:=rfl
@[simp] theorem Ya{a b:R_}{c:Nat}:aF.oj a b n c=((a.length+b.length+256)*n<=2^46/\a.length+b.length<=2^46/\fS c b/\aK c a):=rfl
@[simp] theorem aeg{a b:R_}:aF.Qn a b=(a=[]\/b≠[]):=rfl
@[simp] theorem std_mkp{l c:Int}{b:Nat}:aF.WD l c b=(0<=l/\l<=c/\c*b<=2^47/\c<=2^47):=rfl
@[simp] theorem Yb{n:Int}{z:List PV}:aF.AK n z=List.replicate n.toNat z:=rfl
@[simp] theorem gX{r:R_}{l h:Int}:aF.uS r l h=(r.drop l.toNat).take (h.toNat-l.toNat):=rfl
@[simp] theorem std_rbd{l h:Int}{r s:R_}{a:Nat}:aF.Xg l h r s a=(0<=l/\l<=h/\h<=r.length+s.length/\(l=0\/aK a (r++s))):=rfl
@[simp] theorem Yc{l h:Int}{r:R_}{a:Nat}:aF.wZ l h r a=(0<=l/\l<=h/\h<=r.length/\(l=0\/aK a r)):=rfl
theorem dy{n:Int}(a: -9223372036854775808<=n)(h1:n<9223372036854775808):IntKind.i64.wrap n=n:=wrap64 a h1
@[simp] theorem one_int{n:Int}:(AV.pv (.int k n)).one=true:=rfl
@[simp] theorem Yd:(AV.pv (.bool b)).one=true:=rfl
@[simp] theorem one_str{b:B_}:(AV.pv (.str b)).one=true:=rfl
@[simp] theorem one_sl{r s:R_}:(AV.pv (.sl r s)).one=true:=rfl
@[simp] theorem aic:aK n []:=by simp[aK]
@[simp] theorem cN{r:List PV}{a:R_}:aK n (r::a)↔r.length=n/\aK n a:=by simp[aK]
@[simp] theorem K8{a b:R_}:aK n (a++b)↔aK n a/\aK n b:=by simp only[aK,qav];exact⟨fun h=>⟨fun r c=>h r (.inl c),fun r c=>h r (.inr c)⟩,fun h r c=>c.elim (h.1 r) (h.2 r)⟩
@[simp] theorem aid:fS n []:=by simp[fS]
@[simp] theorem QI{r:List PV}{a:R_}:fS n (r::a)↔(r.length=n/\∀p∈r,(AV.pv p).one=true)/\fS n a:=by simp[fS]
theorem Kh{enc:α->List PV}(h:∀x,(enc x).length=n)(l:List α):aK n (l.map enc):=by intro r a;grind
theorem iX{enc:α->List PV}(h:∀x,(enc x).length=n/\∀p∈enc x,(AV.pv p).one=true)(l:List α):fS n (l.map enc):=by intro r a;grind
@[simp] theorem QJ:aK 1 (ints l):=Kh (enc:=fun p=>[.i p]) (fun _=>rfl) l
@[simp] theorem QK:fS 1 (ints l):=iX (enc:=fun p=>[.i p]) (fun _=>⟨rfl,s_⟩) l
@[simp] theorem QL:(ints l).length=l.length:=by simp[ints]
@[simp] theorem Ye:ints []=[]:=rfl
@[simp] theorem QM{a b:List Int}:ints (a++b)=ints a++ints b:=by simp[ints]
theorem vR{a:List AV}{c:Int}(h:dB st.mem a=some (ps,b))(g:bE P G f ps (.int k c))(i:b=true->(.int k c:PV).jf=true)(j:∀(x:Int),c=x->bH (CC P G) A (Hf P G) e Q .normal (st.put d (.pv (.int k x)))):(bp.call f a d st e).holds (CC P G) A (Hf P G) Q:=ao h g i (j c rfl)
theorem HT{a:List AV}{c:Int}(h:dB st.mem a=some (ps,b))(g:bE P G f ps (.int k c))(i:b=true->(.int k c:PV).jf=true)(j:∀(x:Int),c=x->bH (CC P G) A (Hf P G) e Q .normal (st.put d (.pv (.int k x)))):(bp.afq f a d st e).holds (CC P G) A (Hf P G) Q:=bF h g i (j c rfl)
@[simp] theorem std_peq{a b:List PV}:aF.Xf a b=JK a b:=rfl
@[simp] theorem Yh{c:List Nat}{a b:List PV}:aF.HP c a b=aR c a b:=rfl
@[simp] theorem std_rat{r:R_}{n:Int}:aF.rat r n=r.getD n.toNat []:=rfl
@[simp] theorem std_slt{a b:B_}:aF.slt a b=Op.bytesLess a b:=rfl
@[simp] theorem std_min{a b:Int}:aF.min a b=if b<a then b else a:=rfl
@[simp] theorem std_max{a b:Int}:aF.max a b=if b>a then b else a:=rfl
@[simp] theorem std_sat{s:B_}:aF.sat s j=((s.getD j.toNat 0).toNat:Nat):=rfl
@[simp] theorem std_sin{s:B_}:aF.sin j s=(0<=j/\j<s.length):=rfl
@[simp] theorem Yi{s:B_}{l h:Int}:aF.Lp s l h=(s.drop l.toNat).take (h.toNat-l.toNat):=rfl
@[simp] theorem std_sbd{s:B_}{l h:Int}:aF.sbd l h s=(0<=l/\l<=h/\h<=s.length):=rfl
theorem ME{a b:R_}(h:v<a.length){c:Nat}(hs:aF.tu (Int.ofNat v) a c):aF.tu (Int.ofNat v) (a++b) c:=by grind[aF]
theorem H7{a b:R_}(h:a.length<=v):aF.rat (a++b) (Int.ofNat v)=aF.rat b (Int.ofNat (v-a.length)):=by grind[aF]
theorem IM{a b:R_}(h:a.length<=v){c:Nat}(hs:aF.tu (Int.ofNat (v-a.length)) b c):aF.tu (Int.ofNat v) (a++b) c:=by simp only[aF]at hs ⊢;grind
theorem cU{a:List AV}{c:Bool}(h:dB st.mem a=some (ps,b))(g:bE P G f ps (.bool c))(j:c=true->bH (CC P G) A (Hf P G) e Q .normal (st.put d (.pv (.bool true))))(i:c=false->bH (CC P G) A (Hf P G) e Q .normal (st.put d (.pv (.bool false)))):(bp.call f a d st e).holds (CC P G) A (Hf P G) Q:=ao h g (fun _=>rfl) (by cases c;exact i rfl;simp_all)
theorem gG{a:List AV}{c:Bool}(h:dB st.mem a=some (ps,b))(g:bE P G f ps (.bool c))(j:c=true->bH (CC P G) A (Hf P G) e Q .normal (st.put d (.pv (.bool true))))(i:c=false->bH (CC P G) A (Hf P G) e Q .normal (st.put d (.pv (.bool false)))):(bp.afq f a d st e).holds (CC P G) A (Hf P G) Q:=bF h g (fun _=>rfl) (by cases c;exact i rfl;simp_all)
theorem oW{a:List RD}(h:fN a s=some res):(bp.fin .ret s).holds C A I (rQ a res):=h
theorem Mw(hT:oI (CC P G) A (Hf P G) T)(n:Nat)(h:run A T U n a st=r)(b:r.holds (CC P G) A (Hf P G) Q): bH (CC P G) A (Hf P G) a Q .normal st:=pF (Hf.mono P G) hT n r h b
theorem agS{b:cf}(hT:oI (CC P G) A (Hf P G) T)(n:Nat)(h:run A T U n [.code b] st=r)(a:r.holds (CC P G) A (Hf P G) Q): fw (CC P G) A (Hf P G) b st Q:=pF (Hf.mono P G) hT (is:=[.code b]) n r h a
mutual
def sV{H:Type}:DataW H->List PV
 |.lit (.bool b)=>[.bool b]
 |.lit (.int k n)=>[.int k n]
 |.lit (.string s)=>[.str s]
 |.lit _=>[]
 |.nil=>[.sl [] []]
 |.ptr _=>[]
 |.slice es sp=>[.sl (iY es) (iY sp)]
 |.agg parts=>oc parts
 |.iface _ _=>[]
 |.map _=>[]
 |.held _=>[]
def iY{H:Type}:List (DataW H)->R_
 |[]=>[]
 |d::ds=>sV d::iY ds
def oc{H:Type}:List (DataW H)->List PV
 |[]=>[]
 |d::ds=>sV d++oc ds
end
theorem jT{H:Type}:∀(l:List (DataW H)),iY l=l.map sV
|[]=>by simp[iY]
|d::ds=>by simp[iY,jT ds]
structure Dt(H:Type) where
 bk:DataW H->Nat
 al:List (DataW H)->Nat
 one:∀d,1<=bk d
 cons:∀x r,al (x::r)=bk x+al r
 slice:∀es sp,al es+al sp+1<=bk (.slice es sp)
 agg:∀ps,al ps<=bk (.agg ps)
 str:∀s,s.length<=bk (.lit (.string s))
theorem Dt.le{H:Type}(k:Dt H):∀{l:List (DataW H)} {d:DataW H},d∈l->k.bk d<=k.al l
|[],_,h=>by cases h
|x::r,d,h=>by rw[k.cons];cases h with|head=>omega|tail _ h=>have:=k.le h;omega
theorem Dt.len{H:Type}(k:Dt H):∀(l:List (DataW H)),l.length<=k.al l
|[]=>s_
|x::r=>by rw[k.cons];have:=k.len r;have:=k.one x;grind
inductive Sh where
 |b
 |i (k:IntKind)
 |s
 |l (row:List Sh)
mutual
def K9(B:Nat):Sh->PV->Prop
 |.b,p=>∃x,p=.bool x
 |.i k,p=>∃n,p=.int k n/\(Lit.int k n).wf=true
 |.s,p=>∃x,p=.str x/\x.length<=B
 |.l row,p=>∃rows spare,p=.sl rows spare/\rows.length+spare.length<=B/\(∀r∈rows,iR B row r)/\(∀r∈spare,iR B row r)
def iR(B:Nat):List Sh->List PV->Prop
 |[],ps=>ps=[]
 |s::ss,ps=>∃p r,ps=p::r/\K9 B s p/\iR B ss r
end
theorem iR.length{B:Nat}:∀{a:List Sh} {ps:List PV},iR B a ps->ps.length=a.length
|[],ps,h=>by grind[iR]
|s::a,ps,h=>by obtain⟨p,r,rfl,_,h⟩:=h;simp[iR.length h]
theorem iR.append{B:Nat}:∀{c b:List Sh} {ps a:List PV},iR B c ps->iR B b a->iR B (c++b) (ps++a)
|[],b,ps,a,h,d=>by grind[iR]
|s::c,b,ps,a,h,d=>by obtain⟨p,r,rfl,e,h⟩:=h;exact⟨p,r++a,rfl,e,iR.append h d⟩
def IU(P:Program)(f:TypeId->Option (List Sh)):Nat->List Field->Option (List Sh)
 |_,[]=>some []
 |off,x::xs=>match f x.type with
  |none=>none
  |some row=>match x.offset==off&&row.length==P.cellsOf x.type with
   |false=>none
   |true=>match IU P f (off+row.length) xs with
    |none=>none
    |some r=>some (row++r)
def mY(P:Program):Nat->TypeId->Option (List Sh)
 |0,_=>none
 |n+1,t=>match P.underlying t with
  |some .bool=>some [.b]
  |some (.int k)=>some [.i k]
  |some .string=>some [.s]
  |some (.slice e)=>match mY P n e with
   |none=>none
   |some row=>match row.length==P.cellsOf e&&decide (0<row.length)with
    |false=>none
    |true=>some [.l row]
  |some (.struct fs)=>match IU P (mY P n) 0 fs.toList with
   |none=>none
   |some row=>match row.length==P.cellsOf t with
    |false=>none
    |true=>some row
  |some (.array m e)=>match mY P n e with
   |none=>none
   |some row=>match row.length==P.cellsOf e&&m*row.length==P.cellsOf t with
    |false=>none
    |true=>some (List.replicate m row).flatten
  |_=>none
section
variable {H:Type} {enc:TypeId×Value->H} {held:Bool}
theorem vS{a:Addr}{v:Value}(h:w.cell? a=some v):a.spot=none/\a.block<w.heap.size/\∃c,At w a.block=some c/\c[a.off]? =some v:=by unfold World.cell? at h;unfold At;split at h;{rename_i c t f b;split at h;{cases h};refine⟨a_,?_,c,by rw[b],h⟩;grind};cases h
theorem mZ(k:Dt H)(B:Nat):∀(p n:Nat) (t:TypeId) (row:List Sh) (s:List Value) (d:DataW H) (ps:List MemPlace),mY P n t=some row->DataW.trod enc P w 0 (fun _=>true) held p t s=some (d,ps)->k.bk d<=B->aM (fun b=>b<w.heap.size) w (sV d) s/\iR B row (sV d):=by intro p;induction p with|zero=>simp_all[DataW.trod]|succ p S=>intro n t row s d ps hs h Q;cases n with|zero=>grind[mY]|succ n=>unfold mY at hs;split at hs;{grind[DataW.trod_bool,sV,aM,aD,iR,K9]};{grind[DataW.trod_int,sV,aM,aD,iR,K9]};{rename_i F;obtain⟨b,rfl,u,hw⟩:=DataW.trod_string F h;have:=k.str b.data.toList;grind[sV,aM,aD,iR,K9]};{rename_i e F;split at hs;{cases hs};rename_i G T;split at hs;{cases hs};rename_i C;cases hs;simp at C;obtain⟨GD,pH⟩:=C;rcases DataW.trod_slice F h with⟨rfl,u⟩|⟨a,len,U,l,o,m,K,rfl,u,_,ag,_,ah,h1,V,_⟩;{grind[sV,aM,aD,iR,K9]};obtain rfl:p=m:=o_;simp only[qas]at u;obtain⟨rfl,rfl⟩:=u;obtain⟨mn,V⟩:=V rfl;have M:=k.slice (l.map (·.1)) (o.map (·.1));have ai:=k.len (l.map (·.1));have aj:=k.len (o.map (·.1));have W:∀i x,(l++o)[i]? =some x->k.bk x.1<=B/\∃c,At w a.block=some c/\(i=0->a.spot=none)/\a.block<w.heap.size/\∃s,s.length=P.cellsOf e/\(∀j v,s[j]? =some v->c[a.off+i*P.cellsOf e+j]? =some v)/\aM (fun b=>b<w.heap.size) w (sV x.1) s/\iR B G (sV x.1):=by{intro i x I;have mV:x∈l\/x∈o:=g_;have Yl:k.bk x.1<=B:=by{rcases mV with K|K;{have:=k.le (qbP (f:=(·.1)) K);omega};have:=k.le (qbP (f:=(·.1)) K);omega};have Ym:(w.cells? 0 (a.add (i*P.cellsOf e)) (P.cellsOf e)).bind (DataW.trod enc P w 0 (fun _=>true) held p e)=some x:=by{by_cases N:i<l.length;{grind};rw[qaV o_]at I;have R:i-l.length<o.length:=by{grind};have:=V (i-l.length) o_;simp_all};obtain⟨s,X,J⟩:=qac.1 Ym;obtain⟨Y,Z⟩:=S n e G s x.1 x.2 T J Yl;obtain⟨_,uy,z⟩:=World.cells?_some X;have D:=z 0 o_;obtain⟨v0,pN⟩:∃v0,s[0]? =some v0:=⟨_,qag o_⟩;rw[pN]at D;have ak:∀n,(a.add n).block=a.block:=by{grind[Addr.add]};have QN:∀n m,((a.add n).add m).block=a.block:=by{grind[Addr.add]};have Dd:∀n m,((a.add n).add m).off=a.off+n+m:=by{grind[Addr.add]};obtain⟨af,N,c,C,_⟩:=vS D;rw[QN]at N C;refine⟨Yl,c,C,?_,N,s,uy,?_,Y,Z⟩;{grind[Addr.add]};intro j v R;have xe:j<P.cellsOf e:=by{grind};have:=z j xe;rw[R]at this;obtain⟨_,_,c',E0,hv⟩:=vS this;simp_all};have Mc:(∀r∈iY (l.map (·.1)),iR B G r)/\(∀r∈iY (o.map (·.1)),iR B G r):=by{constructor;{intro r E;rw[jT,qcA]at E;obtain⟨x,u,rfl⟩:=qaw.1 E;obtain⟨i,I⟩:=List.mem_iff_getElem?.1 (qcU o u);grind};intro r E;rw[jT,qcA]at E;obtain⟨x,u,rfl⟩:=qaw.1 E;obtain⟨i,I⟩:=List.mem_iff_getElem?.1 (List.mem_append_right l u);grind};have E6:(iY (l.map (·.1))).length=l.length/\(iY (o.map (·.1))).length=o.length:=by{simp[jT]};refine⟨?_,?_⟩;{simp only[sV,aM,aD];refine⟨_,_,rfl,⟨some a,U,a_,o_,?_⟩,rfl⟩;by_cases he:l++o=[];{simp_all[iY]};right;obtain⟨x0,Md⟩:∃x0,(l++o)[0]? =some x0:=by{grind};obtain⟨_,c,C,mG,N,_⟩:=W 0 x0 Md;have Yo:aK (P.cellsOf e) (iY (l.map (·.1))):=fun r E=>by{rw[(Mc.1 r E).length,GD]};have Yp:aK (P.cellsOf e) (iY (o.map (·.1))):=fun r E=>by{rw[(Mc.2 r E).length,GD]};refine⟨a.block,a.off,c,P.cellsOf e,by rw[<-mG rfl],N,C,Yo,Yp,?_,?_⟩;{refine bM.lV Yo fun i I=>?_;rw[E6.1]at I;obtain⟨_,c',E0,_,_,s,_,h5,h6,_⟩:=W i l[i] g_;grind[jT,dm.eD]};rw[E6.1];refine bM.lV Yp fun i I=>?_;rw[E6.2]at I;obtain⟨_,c',E0,_,_,s,_,h5,h6,_⟩:=W (l.length+i) o[i] g_;grind[jT,dm.eD]};grind[sV,iR,K9]};{rename_i fs F;split at hs;{cases hs};split at hs;{cases hs};rename_i C;cases hs;simp at C;obtain⟨xs,m,K,u,uy,oX,ad⟩:=DataW.trod_struct F h;obtain rfl:p=m:=o_;simp at u;obtain⟨rfl,rfl⟩:=u;have M:=k.agg (xs.map (·.1));have key:∀(L:List Field) (q:List (DataW H×List MemPlace)) (A:Nat) (row:List Sh),IU P (mY P n) A L=some row->q.length=L.length->k.al (q.map (·.1))<=B->A+row.length<=s.length->(∀(i:Nat) (f:Field),L[i]? =some f->DataW.trod enc P w 0 (fun _=>true) held p f.type ((s.drop f.offset).take (P.cellsOf f.type))=q[i]?)->aM (fun b=>b<w.heap.size) w (oc (q.map (·.1))) ((s.drop A).take row.length)/\iR B row (oc (q.map (·.1))):=by{intro L;induction L with|nil=>grind[IU,oc,aM,iR]|cons f L Xz=>intro q A row hs hl Q ae J;cases q with|nil=>simp_all|cons y q=>unfold IU at hs;split at hs;{cases hs};rename_i r1 Y;split at hs;{cases hs};rename_i lY;split at hs;{cases hs};rename_i r2 Z;cases hs;simp at lY;obtain⟨Dd,O⟩:=lY;simp[k.cons]at Q;have D:=J 0 f rfl;simp at D;rw[Dd,<-O]at D;obtain⟨a1,a2⟩:=S n f.type r1 _ y.1 y.2 Y D o_;simp at ae;obtain⟨b1,b2⟩:=Xz q (A+r1.length) r2 Z a_ o_ o_ (fun i g hg=>by simpa using J (i+1) g a_);grind[oc,List.drop_drop,aM.append,iR.append]};grind[sV]};{rename_i m e F;split at hs;{cases hs};rename_i G T;split at hs;{cases hs};obtain⟨xs,m',K,u,uy,oX,ad⟩:=DataW.trod_array F h;obtain⟨rfl,rfl⟩:=u;have M:=k.agg (xs.map (·.1));have key:∀(q:List (DataW H×List MemPlace)) (i:Nat),(∀j,j<q.length->DataW.trod enc P w 0 (fun _=>true) held p e ((s.drop ((i+j)*P.cellsOf e)).take (P.cellsOf e))=q[j]?)->k.al (q.map (·.1))<=B->aM (fun b=>b<w.heap.size) w (oc (q.map (·.1))) ((s.drop (i*P.cellsOf e)).take (q.length*P.cellsOf e))/\iR B (List.replicate q.length G).flatten (oc (q.map (·.1))):=by{intro q;induction q with|nil=>simp_all[oc,aM,iR]|cons y q IL=>intro i J Q;simp[k.cons]at Q;have D:=J 0 s_;simp at D;obtain⟨a1,a2⟩:=S n e G _ y.1 y.2 T D o_;obtain⟨b1,b2⟩:=IL (i+1) (fun j R=>by have:=J (j+1) a_;grind) o_;grind[oc,Nat.add_mul,List.drop_drop,aM.append,iR.append]};obtain⟨k1,k2⟩:=key xs 0 (fun j R=>a_) o_;grind[sV]};grind
theorem qm(hl:laidOutB P=true){W g:World}(i:RowKit.Below W.heap.size W g){j:Nat->Bool}:∀{e:List TypeId} {b:List Value} {c:List (DataW H)} {ps:List MemPlace},(e.all fun t=>P.readableRec t&&decide (t<P.types.size))=true->DataW.TrodAll enc P W 0 (fun _=>true) true e b c ps->(∀x∈ps,x.block<W.heap.size)->(∀x∈ps,j x.block=true)->DataW.TrodAll enc P g 0 j true e b c ps
|[],b,c,ps,_,h,_,_=>by obtain⟨rfl,rfl,rfl⟩:=ChangeShapes.trodAll_nil h;rfl
|t::e,b,c,ps,f,h,k,l=>by obtain⟨v,b,d,c,p,q,rfl,rfl,rfl,m,n⟩:=ChangeShapes.trodAll_cons h;simp only[List.all_cons,qaG,qae]at f;exact⟨p,q,WideElems.Trod_stays hl f.1.1 f.1.2 m (fun x a=>i.same (k x (by simp[a]))) (fun x a=>l x (by simp[a])),qm hl i a_ n (fun x a=>k x (by simp[a])) (fun x a=>l x (by simp[a])),rfl⟩
theorem oY(hl:laidOutB P=true){W i:World}(j:RowKit.Below W.heap.size W i){l:Nat->Bool}:∀{b:List String} {m:List (DataW H)} {ps:List MemPlace},RowKit.varsRowed P b=true->DataW.TrodVars enc P W (fun _=>true) b m ps->(∀x∈ps,l x.block=true)->DataW.TrodVars enc P i l b m ps
|[],[],_,_,h,_=>h
|[],_::_,_,_,h,_=>h.elim
|_::_,[],_,_,h,_=>h.elim
|n::b,d::ds,ps,s,h,o=>by have u:=h.lt;obtain⟨g,t,r,a,p,q,h1,h2,c,v,hs,e⟩:=h;simp only[RowKit.varsRowed,List.all_cons,qaG]at s;have k:P.readableRec t=true/\t<P.types.size:=by{grind};have w:∀x∈p,x.block<W.heap.size:=fun x f=>u x a_;have y:i.var? P n=some r:=by{unfold World.var? at c ⊢;rw[h1]at c ⊢;simp at c ⊢;have z:g<W.heap.size:=by{grind};rw[j.block g z];exact c};exact⟨g,t,r,a,p,q,h1,h2,y,DataW.trod_stays (kids_book hl k.1) (book_sized k.1) (fun h=>by cases h) ⟨k.2,book_self t⟩ v (fun x f=>j.same (w x f)) (fun x f=>o x a_),oY hl j (by grind[RowKit.varsRowed]) hs (fun x f=>o x a_),e⟩
end
end
section
open Go.ChangeShapes Go.RowKit
variable {G:Nat->Option (List PV)} {H:Type} {P:Program} {W:World} {a:Array Value} {c:Code} {f:FuncId} {ps:List PV} {s:ChangeSpec}
theorem xj{d:Func}{res:PV}{w:World}{S:Nat->Prop}(g:P.funcs[f]? =some d)(i:d.body=some c)(n:(d.name== "runtime.NumGoroutine")=false)(j:bE P G f ps res)(hs:∀b,S b->b<w.heap.size)(k:rh G S w)(l:aM S w ps a.toList): Calls P f a w fun e w'=>∃v,e=.returned v/\RowKit.Below w.heap.size w w'/\aD (fun b=>S b\/(w.heap.size<=b/\b<w'.heap.size)) w' res v:=by have h:=j S w a.toList hs k l;unfold dN at h;have o:(callFunc f a.toList.toArray).run P w=.ok (.enter f a.toList.toArray) w:=by{have m:¬d.name= "runtime.NumGoroutine" :=a_;simp[callFunc,g,m,i]};simp_all
theorem Du{enc:TypeId×Value->H}{f:Func}{apart fresh c again:Bool}{h:World}{d:Array Value}{v:Value}{i k:List (DataW H)}{a pa pv:List MemPlace}(n:DataW.Whole enc P f.params.toList s.vars apart W d.toList i k a)(o:∀(b:Nat) (g:Nat->Bool) (y:Bool),DataW.TrodAll enc P h b g y f.resultTypes.toList (v.resultList f.resultTypes.size) (s.fn H (i++k)).results [])(q:∀g:Nat->Bool,(∀p∈a,g p.block=true)->DataW.TrodAll enc P h 0 g true f.params.toList d.toList (s.fn H (i++k)).args pa)(u:∀g:Nat->Bool,(∀p∈a,g p.block=true)->DataW.TrodVars enc P h g s.vars (s.fn H (i++k)).vars pv)(C:a=pa++pv)(w:Below W.heap.size W h)(z:∀(j:Nat) (t:TypeId) (r:Value),f.resultTypes[j]? =some t->(v.resultList f.resultTypes.size)[j]? =some r->Value.okWide P h .any 0 t r): s.post enc P f apart fresh c again W d v h:=by have A:∀p∈a,p.block<W.heap.size:=fun p l=>n.lt p l;have e:∀p∈a,(fun b=>decide (b<W.heap.size)) p.block=true:=fun p l=>a_;refine⟨i,k,a,[],pa,pv,n,o _ _ _,q _ e,u _ e,World.keptBut_mono (fun p l=>⟨l,?_⟩) (w.frame (·∈a)),fun _=>?_⟩;{simp_all};obtain⟨_,_,_,_,_,B,D⟩:=n;refine⟨z,_,_,([]++pa)++pv,⟨[]++pa,pv,trodAll_append (q _ (fun _ _=>rfl)) (o _ _ _),u _ (fun _ _=>rfl),rfl,?_,?_⟩,?_⟩;{intro b m l;have x:MemPlace.cell b m∈a:=a_;rw[w.frozen (A _ x)];exact B b m x};{simp_all};simp_all
theorem IV{enc:TypeId×Value->H}{i:Func}{apart fresh d again:Bool}{m n:List (DataW H)}{g:List MemPlace}{tb:TypeId}(hl:laidOutB P=true)(u:P.funcs[f]? =some i)(w:i.body=some c)(y:(i.name== "runtime.NumGoroutine")=false)(z:bE P G f ps (.bool true))(A:rh G (fun b=>b<W.heap.size) W)(B:aM (fun b=>b<W.heap.size) W ps a.toList)(o:DataW.Whole enc P i.params.toList s.vars apart W a.toList m n g)(C:(i.params.toList.all fun t=>P.readableRec t&&decide (t<P.types.size))=true)(L:RowKit.varsRowed P s.vars=true)(j:i.resultTypes=#[tb])(k:P.underlying tb=some .bool)(hs:s.fn H (m++n)=⟨[.lit (.bool true)],m,n⟩): Calls P f a W fun e r=>∃v,e=.returned v/\s.post enc P i apart fresh d again W a v r:=by refine(xj u w y z (fun _ h=>h) A B).mono fun e r ⟨v,D,E,F⟩=>⟨v,D,?_⟩;subst F;have l:=o;obtain⟨p,q,M,N,rfl,I,J⟩:=o;have O:∀x∈p++q,x.block<W.heap.size:=fun x K=>l.lt x K;refine Du (pa:=p) (pv:=q) l ?_ ?_ ?_ rfl E ?_;{intro b R S;rw[j,hs];exact trodAll_mk1 (shut_bool k true)};{grind[qm]};{grind[oY]};exact ok_one j rfl (okWide_bool_mk k true)
theorem zk{l:List (String×DataW Unit)}{ps:List MemPlace}(k:Dt Unit)(B:Nat)(h:DataW.LaidVars P W l ps)(j:∀g row,G g=some row->∃n d t e m,(n,d)∈l/\P.globalNamed n=some g/\(P.globals[g]?).map (·.type)=some t/\mY P m t=some e/\sV d=row/\k.bk d<=B):rh G (fun b=>b<W.heap.size) W:=by intro g row o;obtain⟨n,d,t,e,m,r,z,A,s,C,u⟩:=j g row o;have key:∀{l:List (String×DataW Unit)} {ps:List MemPlace},DataW.LaidVars P W l ps->(n,d)∈l->∃c a p,W.var? P n=some c/\DataW.trod (fun _=>()) P W 0 (fun _=>true) false a t c.toList=some (d,p):=by{intro l;induction l with|nil=>simp_all|cons x l v=>intro ps hl f;obtain⟨D,E,c,a,p,q,F,H,w,i,y,_⟩:=hl;cases f with|head=>grind|tail _ f=>exact v y f};obtain⟨c,a,p,w,i⟩:=key h r;obtain⟨I,_⟩:=mZ k B a m t e c.toList d p s i u;grind[World.var?,At,dm.eD,aM.length,Array.length_toList]
end
end Go.Am
namespace Go.aA
section
open Go Go.Am
structure aL where
 bay:Int
 row:Int
 deck:Bool
 dv:Int
 ko:Int
 tT:Int
 tU:Int
 kj:Int
 cq:List Int
 Vj:R_
 x:Int
 y:Int
 z:Int
def aL.enc(c:aL):List PV:=[.i c.bay,.i c.row,.bool c.deck,.i c.dv,.i c.ko,.i c.tT,.i c.tU,.i c.kj,.sl (ints c.cq) c.Vj,.i c.x,.i c.y,.i c.z]
structure bz where
 bay:Int
 rows:List Int
 rsp:R_
def bz.enc(c:bz):List PV:=[.i c.bay,.sl (ints c.rows) c.rsp]
structure Row where
 a:Int
 b:Int
 c:Int
 d:Int
 e:Int
def Row.enc(c:Row):List PV:=[.i c.a,.i c.b,.i c.c,.i c.d,.i c.e]
structure zX where
 cD:Int
 x:Int
 y:Int
 z:Int
 ad3:Int
 steps:List Int
 ssp:R_
def zX.enc(c:zX):List PV:=[.i c.cD,.i c.x,.i c.y,.i c.z,.i c.ad3,.sl (ints c.steps) c.ssp]
structure bw where
 id:Int
 number:B_
 size:Int
 high:Bool
 cD:Int
 load:Int
 discharge:Int
 cls:Int
 cK:Bool
def bw.enc(c:bw):List PV:=[.i c.id,.str c.number,.u c.size,.bool c.high,.i c.cD,.i c.load,.i c.discharge,.u c.cls,.bool c.cK]
structure Slot where
 column:Int
 ct:Int
 half:Int
def Slot.enc(c:Slot):List PV:=[.i c.column,.i c.ct,.u c.half]
structure aH where
 box:Int
 slot:Slot
def aH.enc(c:aH):List PV:=[.i c.box,.i c.slot.column,.i c.slot.ct,.u c.slot.half]
structure Rest where
 l1:Int
 l2:Int
 l3:Int
 l4:Int
 r:R_
 rsp:R_
 f:R_
 fsp:R_
 t:R_
 tsp:R_
 m1:Int
 m2:Int
 m3:Int
 m4:Int
def Y1(i:Nat):Int:=8000024+(i:Int)
def marks:List Int:=(List.range 12).map Y1
def aL.cV(c:aL):aL:={c with Vj:=ints marks}
def bz.cV(c:bz):bz:={c with rsp:=ints marks}
def zX.cV(c:zX):zX:={c with ssp:=ints marks}
def aL.mark(i:Nat):aL:=⟨Y1 i,0,false,0,0,0,0,0,[],[],0,0,0⟩
def bz.mark(i:Nat):bz:=⟨Y1 i,[],[]⟩
def Row.aoa(i:Nat):Row:=⟨0,Y1 i,0,0,0⟩
def Row.aob(i:Nat):Row:=⟨Y1 i,0,0,0,0⟩
def zX.mark(i:Nat):zX:=⟨Y1 i,0,0,0,0,[],[]⟩
def bw.mark(i:Nat):bw:=⟨Y1 i,[],0,false,0,0,0,0,false⟩
def aH.mark(i:Nat):aH:=⟨Y1 i,⟨0,0,0⟩⟩
end
section
open Go Go.Am Go.Proofs
open Tryz (prog)
def g1:List PV:=[.i 2,.i 1,.i 3]
def Bu:R_:=[[.str [50,50,71,49],.u 20,.bool false,.bool false],[.str [50,50,82,49],.u 20,.bool false,.bool true],[.str [52,50,71,49],.u 40,.bool false,.bool false],[.str [52,50,82,49],.u 40,.bool false,.bool true],[.str [52,53,71,49],.u 40,.bool true,.bool false],[.str [52,53,82,49],.u 40,.bool true,.bool true]]
def g2:List PV:=[.sl Bu []]
def g4:List PV:=((List.replicate 128 240++List.replicate 66 241++List.replicate 30 2++[19,3,3,3,3,3,3,3,3,3,3,3,3,35,3,3,52,4,4,4,68,241,241,241,241,241,241,241,241,241,241,241]:List Int).map (PV.int .u8))
def g5:List PV:=(([128,191,160,191,128,159,144,191,128,143]++List.replicate 22 0:List Int).map (PV.int .u8))
def g6:List PV:=(([1,10,100,1000,10000,100000,1000000,10000000,100000000,1000000000,10000000000,100000000000,1000000000000,10000000000000,100000000000000,1000000000000000,10000000000000000,100000000000000000,1000000000000000000,10000000000000000000]:List Int).map (PV.int .u64))
def g7:List PV:=[.iface 403 (.ptr [.str [105,110,118,97,108,105,100,32,115,121,110,116,97,120]])]
def g8:List PV:=[.iface 403 (.ptr [.str [118,97,108,117,101,32,111,117,116,32,111,102,32,114,97,110,103,101]])]
def g9:List PV:=(([0,1,28,2,29,14,24,3,30,22,20,15,25,17,4,8,31,27,13,23,21,19,16,7,26,12,18,6,11,5,10,9]:List Int).map (PV.int .u8))
def g10:List PV:=(([0,1,56,2,57,49,28,3,61,58,42,50,38,29,17,4,62,47,59,36,45,43,51,22,53,39,33,30,24,18,12,5,63,55,48,27,60,41,37,16,46,35,44,21,52,32,23,11,54,26,40,15,34,20,31,10,25,14,19,9,13,8,7,6]:List Int).map (PV.int .u8))
def gE:List PV:=[.iface 403 (.ptr [])]
def GG(mx:Int):Nat->Option (List PV)
 |1=>some g1
 |2=>some g2
 |3=>some [.i mx]
 |4=>some g4
 |5=>some g5
 |6=>some g6
 |7=>some gE
 |8=>some gE
 |9=>some g9
 |10=>some g10
 |_=>none
theorem mixed:Tryz.prog.follows .mixedOrders=true:=k_
end
end Go.aA
namespace Go.Am
variable {A:Ar} {C:CT} {G:Nat->Option (List PV)} {I:IC} {P:Program} {Q:Ex->St->Prop} {b:cf} {rs:R_} {s st:St}
def St.T5(s:St)(d id a:Nat):St:=(s.aq id (.rows a [] 0)).put (some d) (.c8 id 0)
theorem Fg.E5{c:St}(b:List Nat)(a:List (Option Nat))(d id e:Nat)(f:jN a=true)(h1:(s.tidy b a).slot d=.full [])(h2:aj (s.tidy b a).mem id=none)(g:id<=(s.tidy b a).mem.length)(h:(s.tidy b a).T5 d id e=c):Fg s c:=h▸Fg.trans (Fg.ca b a f rfl) (Fg.own h1 h2 g)
theorem acG{a:List Item}(h:fw (CC P G) A (Hf P G) b st (de (CC P G) A (Hf P G) a Q (fun c=>(bp.loop b c a).holds (CC P G) A (Hf P G) Q))): (bp.loop b st a).holds (CC P G) A (Hf P G) Q:=by refine k8 (tS P G) (.refl _) (fC (tS P G) b ?_ h);intro e c d;cases e with|normal=>exact d|ret=>grind[jv,de]|exit id=>grind[de,iq,acx]
theorem T6{st0:St}{f:List Item}{α:Type}(dp:α->St->St)(J:α->Prop)(μ:α->Nat)(c:α)(i:Fg st0 (dp c st0))(j:J c)(h:∀a,J a->fw (CC P G) A (Hf P G) b (dp a st0) (de (CC P G) A (Hf P G) f Q (fun g=>∃d,J d/\μ d<μ a/\Fg g (dp d st0)))): (bp.loop b st0 f).holds (CC P G) A (Hf P G) Q:=by refine QH dp J μ c i j ?_;intro a k;refine fC (tS P G) b ?_ (h a k);intro e g l;cases e with|normal=>exact l|ret=>grind[jv,de]|exit id=>grind[de,iq,acx]
theorem xI(φ:AV->AV):∀(m:List (Option Obj)) (i:Nat),aj (mapM φ m) i=(aj m i).map (mK φ)
|[],i=>r_
|none::r,0=>r_
|some o::r,0=>r_
|none::r,i+1=>by have:=xI φ r i;grind[mapM,aj]
|some o::r,i+1=>by have:=xI φ r i;grind[mapM,aj]
theorem Og(φ:AV->AV)(W:R_):(W.map (·.map AV.pv)).map (·.map (kZ φ))=W.map (·.map AV.pv):=by simp_all[kZ,ju]
theorem Fg.aiS{id a g d c b:Nat}{e f:R_}(i:a≠id)(h1:aj s.mem id=some (.rows g e c))(h2:aj s.mem a=some (.cw d (f.map (·.map AV.pv)++[[AV.c8 id c]]) b)): Fg s ((s.AP id (iP e c)).aq a (.rows d (f++[[.sl e []]]) b)):=by refine Fg.trans (Fg.AQ h1) (Fg.plain (rs':=f++[[PV.sl e []]]) ?_ rfl);have j:aj (Fe s.mem id) a=aj s.mem a:=by{grind[Fe,aj]};simp_all[St.AP,St.C1,xI,mK,kZ,ju,mL,iP]
theorem Fg.amT{id sz ver:Nat}{W:List (List AV)}(h:aj s.mem id=some (.rows sz rs ver))(a:W=rs.map (·.map AV.pv)):Fg s (s.aq id (.cw sz W ver)):=by subst a;exact Fg.Xi h
theorem Fg.B5{id oid sz osz ver over:Nat}{Wd Z:R_}{V:List (List AV)}(a:oid≠id)(h1:aj s.mem id=some (.rows sz rs ver))(h2:aj s.mem oid=some (.cw osz V over))(b:V=Wd.map (·.map AV.pv)++[[AV.c8 id ver]])(c:Z=Wd++[[.sl rs []]]): Fg s ((s.AP id (iP rs ver)).aq oid (.rows osz Z over)):=by grind[Fg.aiS]
theorem Za{x:AI}{xs:List AI}{a:cf}{c:St}(d:Fg st c)(h:fw C A I (.seq (.seq (.pA (x::xs) none) a) b) c Q):fw C A I (.seq (.seq (.pA (x::xs) none) a) b) st Q:=by obtain⟨e,f,g⟩:=h;exact⟨e,Fg.trans d f,g⟩
theorem MG{ops:List AI}{lt:List (List Nat)}{r:List Item}{a:St}(b:Fg st a)(h:bH C A I (.code (.pA ops (some lt))::r) Q .normal a):bH C A I (.code (.pA ops (some lt))::r) Q .normal st:=by obtain⟨c,d,e⟩:=h;exact⟨c,Fg.trans b d,e⟩
end Go.Am
namespace Go.aA
open Go Go.Am Go.Proofs
open Tryz (prog)
variable {a:Nat} {accs:List Nat} {f:FuncId} {ps:List PV} {res:PV} {mx:Int}
abbrev cF(mx:Int)(accs:List Nat)(f:FuncId)(ac:cf)(eF:List RD)(nt:Nat):Prop:=gF prog (GG mx) accs f=some (ac,eF,nt)
theorem kC{a:cf}{b:List RD}{c:Nat}(h:gF prog (GG mx) accs f=some (a,b,c):=by kernel_rfl):cF mx accs f a b c:=h
abbrev pC(mx:Int)(f:FuncId)(ps:List PV)(res:PV):Prop:=bE prog (GG mx) f ps res
def AZ(F:Ar->Prop):Prop:=∀a:BinOp->IntKind->Int->Int->Int,∀b:IntKind->Int->Int->Int,∀c:IntKind->Int->Int->Int,∀d:Int->Int->Bool,∀e:Int->Int->Bool,∀f:Int->Int->Bool,∀g:Bool->Bool,∀h:Int->Int->Int,∀i:Int->Int->Int,∀j:Int->Prop,∀k:Int->Prop,∀l:Nat->Int,∀m:B_->Int,∀n:B_->B_->Prop,∀o:Int->Int->B_->Prop,∀p:B_->B_->Bool,∀q:B_->B_->Bool,∀r:R_->R_->Nat->Nat->Prop,∀s:R_->R_->Prop,∀t:List PV->List PV->Bool,∀u:List Nat->List PV->List PV->Prop,∀v:B_->R_,∀w:R_->Prop,∀x:Int->Int->R_->R_->Nat->Prop,∀y:Int->Int->R_->Nat->Prop,∀z:Int->Int->Nat->Prop,∀A:List (List AV)->Int->List AV,∀B:Int->List (List AV)->Nat->Prop,∀C:List (List AV)->Int->Nat->List AV->List (List AV),∀D:List (List AV)->List (List AV)->List (List AV),∀E:List (List AV)->List (List AV)->Nat->Nat->Prop,∀G:List (List AV)->Int,∀H:Int->Nat->Prop,∀I:Nat->R_->List PV->Bool,∀J:Nat->R_->List PV->List PV->List PV,∀K:Nat->R_->List PV->Int,∀L:Nat->R_->List PV->List PV->R_,∀M:Nat->R_->Int->List PV->R_,∀N:Int->R_->Prop,∀O:List Nat->R_->Nat->Prop,∀P:List Nat->R_->Bool,∀Q:Bool->Nat->R_->Nat->PV,∀R:Bool->Nat->R_->Nat->PV,∀S:B_->Int->Int,∀T:B_->Int->Int,∀U:Int->Int->Int,aF.bits=a->aF.shl=b->aF.shr=c->aF.min=h->aF.max=i->aF.CY=k->aF.ofNat=l->aF.slt=q->aF.bytes=v->aF.aat=A->aF.ain=B->aF.Lq=C->aF.yT=D->aF.AL=E->aF.Lr=G->aF.yU=I->aF.HR=J->aF.mix=K->aF.sK=L->aF.PT=M->aF.min1=N->aF.mleft=O->aF.AM=P->aF.Ls=Q->aF.Lt=R->aF.rune=S->aF.C0=T->aF.Lu=U->∀V:Nat->R_->List PV->List PV->R_,aF.HS=V->∀W:Nat->R_->List PV->List PV->PV,aF.xJ=W->aF.PS=H->∀X:Int->Nat->Nat,aF.off=X->aF.WD=z->∀Y:Int->List PV->R_,aF.AK=Y->∀Z:R_->Int->Nat->List PV->R_,aF.Gt=Z->aF.HP=u->aF.Xf=t->∀yw:List Nat->Nat->R_->List PV->Prop,aF.CZ=yw->aF.sbd=o->∀zw:B_->Int->Int->B_,aF.Lp=zw->∀I9:B_->B_->B_,aF.wZ=y->aF.Ln=n->aF.Lm=I9->∀yx:R_->B_,aF.qE=w->aF.gN=yx->aF.Xg=x->aF.nz=j->∀lB:Int->B_->Prop,∀tV:Int->Int->Int,aF.mul=tV->aF.Qn=s->∀yy:Int->Int->Int,aF.quo=yy->∀eo:R_->Int->Int->R_,aF.sin=lB->∀km:B_->Int->Int,aF.sat=km->∀oZ:Int->Int->Int,aF.rem=oZ->aF.uS=eo->∀l8:R_->Int,aF.oj=r->∀bJ:R_->R_->R_,aF.oi=bJ->∀cP:Int->Int->Int,aF.sub=cP->∀df:Int->Int->Int,aF.add=df->∀bu:IntKind->Int->Int,aF.wrap=bu->∀aI:R_->Int->List PV,aF.rat=aI->∀aJ:Int->R_->Nat->Prop,aF.tu=aJ->aF.wY=m->aF.seq=p->aF.not=g->aF.le=e->aF.eq=f->aF.mi=l8->aF.lt=d->F ⟨bu,df,cP,tV,yy,oZ,a,b,c,d,e,f,g,h,i,j,k,l,m,km,lB,I9,n,zw,o,p,q,l8,aI,aJ,bJ,r,s,t,u,v,yx,w,eo,x,y,Z,Y,z,A,B,C,D,E,G,X,H,yw,I,J,W,K,V,L,M,N,O,P,Q,R,S,T,U⟩
theorem az{F:Ar->Prop}(h:AZ F):F aF:=h _ _ _ _ _ _ _ _ _ _ _ _ _ _ _ _ _ _ _ _ _ _ _ _ _ _ _ _ _ _ _ _ _ _ _ _ _ _ _ _ _ _ _ _ _ _ rfl rfl rfl rfl rfl rfl rfl rfl rfl rfl rfl rfl rfl rfl rfl rfl rfl rfl rfl rfl rfl rfl rfl rfl rfl rfl rfl rfl _ rfl _ rfl rfl _ rfl rfl _ rfl _ rfl rfl rfl _ rfl rfl _ rfl _ rfl rfl rfl _ rfl rfl rfl rfl _ _ rfl rfl _ rfl _ rfl _ rfl _ rfl rfl _ rfl _ rfl _ rfl _ rfl _ rfl _ rfl _ rfl rfl rfl rfl rfl rfl rfl rfl
theorem pZ{c:cf}{d:List RD}(e:cF mx accs f c d a)(h:AZ fun A=>bH (CC prog (GG mx)) A (Hf prog (GG mx)) [.code c] (rQ d res) .normal (Am.start a ps))(b:Nat.ble ps.length a=true:=by exact rfl):pC mx f ps res:=E2 mixed e (qaH b) (az h:)
theorem pT{b:cf}{c:List RD}{T:Mj}(hT:∀f b c a,T f=some (b,c,a)->∃accs,gF prog (GG mx) accs f=some (b,c,a))(e:cF mx accs f b c a)(h:AZ fun A=>oI (CC prog (GG mx)) A (Hf prog (GG mx)) T->bH (CC prog (GG mx)) A (Hf prog (GG mx)) [.code b] (rQ c res) .normal (Am.start a ps))(d:Nat.ble ps.length a=true:=by exact rfl):pC mx f ps res:=E2 mixed e (qaH d) ((az h:) (eM mixed hT))
end Go.aA
namespace Go.Am
open Go Go.Am
variable {α:Type}
abbrev Pz(α:Type):=List Nat->α×List Nat
def dX:Pz Nat:=fun l=>match l with|[]=>(0,[])|x::r=>(x,r)
def rS:Pz Bool:=fun l=>match l with|[]=>(false,[])|x::r=>((match x with|0=>false|_=>true),r)
def Yu{α:Type}(p:Pz α):Nat->Pz (List α)
 |0,l=>([],l)
 |n+1,l=>match p l with|(x,r)=>match Yu p n r with|(xs,r)=>(x::xs,r)
def fV(p:Pz α):Pz (List α):=fun l=>match dX l with|(n,r)=>Yu p n r
def Dv(p:Pz α):Pz (Option α):=fun l=>match dX l with|(0,r)=>(none,r)|(_+1,r)=>match p r with|(x,r)=>(some x,r)
def ak4:Pz IntKind:=fun l=>match dX l with|(0,r)=>(.i64,r)|(1,r)=>(.u8,r)|(_,r)=>(.i32,r)
def GS:Pz BinOp:=fun l=>match dX l with|(0,r)=>(.add,r)|(1,r)=>(.mul,r)|(2,r)=>(.lss,r)|(3,r)=>(.neq,r)|(4,r)=>(.eql,r)|(5,r)=>(.geq,r)|(6,r)=>(.sub,r)|(7,r)=>(.gtr,r)|(8,r)=>(.leq,r)|(9,r)=>(.quo,r)|(10,r)=>(.shl,r)|(_,r)=>(.rem,r)
def zUn:Pz UnOp:=fun l=>match dX l with|(_,r)=>(.not,r)
def Yv:List Int:=[0,1,-1,2,7,1000003,12,65,90,5,100000000,500000,999999,85,74,48,57,11,10,9,30,31,40,20,32000,40000,2000,60,2896,2591,6,14,3,32,126,100,80,4,5000,63,43,58,39,65536,390,391,-500000,500000000,1000000000000,200,19,15,393,392,52,9000,82,41,42,51,50,255,13,53,18,8]
def T8:B_:=[72,69,68,78,50,71,49,82,52,53,32,39,43,58,63,66,65,89,80,76,86,79,67,81,77,70,83,48,56,85,51,57,55,109,114,54,45,100,88]
def Bz{α:Type}(z:α):List α->Nat->α
 |[],_=>z
 |x::r,n=>match n with|0=>x|m+1=>Bz z r m
def zBy:List Nat->B_
 |[]=>[]
 |n::r=>Bz 0 T8 n::zBy r
def T9:Nat->Pz PV
 |0,l=>(.mh,l)
 |f+1,l=>match dX l with
  |(0,r)=>match rS r with|(b,r)=>(.bool b,r)
  |(1,r)=>match ak4 r with|(k,r)=>match dX r with|(n,r)=>(.int k (Bz 0 Yv n),r)
  |(2,r)=>match fV dX r with|(s,r)=>(.str (zBy s),r)
  |(3,r)=>(.mh,r)
  |(4,r)=>(.yS,r)
  |(5,r)=>(.j8,r)
  |(6,r)=>(.oh,r)
  |(7,r)=>match dX r with|(g,r)=>match fV (T9 f) r with|(c,r)=>(.gM g c,r)
  |(8,r)=>match fV (T9 f) r with|(c,r)=>(.agg c,r)
  |(9,r)=>(.sl [] [],r)
  |(10,r)=>match fV (fV (T9 f)) r with|(a,r)=>match fV (fV (T9 f)) r with|(b,r)=>(.sl a b,r)
  |(11,r)=>match dX r with|(t,r)=>match T9 f r with|(v,r)=>(.iface t v,r)
  |(_,r)=>match fV (T9 f) r with|(c,r)=>(.ptr c,r)
def zP:Pz PV:=T9 9
def cA(p:Nat):Pz bR:=fun l=>match dX l with
 |(0,r)=>match zP r with|(p,r)=>(.k p,r)
 |(1,r)=>match fV zP r with|(p,r)=>(.g p,r)
 |(2,r)=>(.t p,r)
 |(3,r)=>(.t (p-1),r)
 |(4,r)=>(.t (p-2),r)
 |(5,r)=>(.t (p-3),r)
 |(n+6,r)=>(.t n,r)
def Yw(p:Nat):Pz (Nat×Nat×bR):=fun l=>match dX l with|(a,r)=>match dX r with|(b,r)=>match cA p r with|(x,r)=>((a,b,x),r)
def zOp(p:Nat):Nat->Pz wQ:=fun t r=>match t with
 |0=>match cA p r with|(x0,r)=>(.mv x0,r)
 |1=>match cA p r with|(x0,r)=>match Dv dX r with|(a,r)=>(.ld x0 a,r)
 |2=>match cA p r with|(x0,r)=>(.Ws x0,r)
 |3=>match cA p r with|(x0,r)=>match dX r with|(a,r)=>(.pad x0 a,r)
 |4=>match GS r with|(x0,r)=>match cA p r with|(a,r)=>match cA p r with|(b,r)=>(.bin x0 a b,r)
 |5=>match cA p r with|(x0,r)=>match dX r with|(a,r)=>(.ext x0 a,r)
 |6=>match cA p r with|(x0,r)=>(.len x0,r)
 |7=>match cA p r with|(x0,r)=>match cA p r with|(a,r)=>match dX r with|(b,r)=>(.idx x0 a b,r)
 |8=>match dX r with|(x0,r)=>match fV (cA p) r with|(a,r)=>(.call x0 a,r)
 |9=>match cA p r with|(x0,r)=>match cA p r with|(a,r)=>match dX r with|(b,r)=>(.st x0 a b,r)
 |10=>match dX r with|(x0,r)=>match fV (cA p) r with|(a,r)=>(.SI x0 a,r)
 |11=>match fV zP r with|(x0,r)=>match fV (Yw p) r with|(a,r)=>(.mk x0 a,r)
 |12=>match dX r with|(x0,r)=>match cA p r with|(a,r)=>match Dv (cA p) r with|(b,r)=>match Dv (cA p) r with|(c,r)=>(.Li x0 a b c,r)
 |13=>match dX r with|(x0,r)=>match dX r with|(a,r)=>match cA p r with|(b,r)=>match cA p r with|(c,r)=>(.app x0 a b c,r)
 |14=>match ak4 r with|(x0,r)=>match cA p r with|(a,r)=>(.Wt x0 a,r)
 |15=>match cA p r with|(x0,r)=>match dX r with|(a,r)=>(.box x0 a,r)
 |16=>match fV zP r with|(x0,r)=>(.alloc x0,r)
 |17=>match cA p r with|(x0,r)=>match dX r with|(a,r)=>match Dv dX r with|(b,r)=>(.SW x0 a b,r)
 |18=>match zUn r with|(x0,r)=>match cA p r with|(a,r)=>(.un x0 a,r)
 |19=>match cA p r with|(x0,r)=>(.lens x0,r)
 |20=>match cA p r with|(x0,r)=>match cA p r with|(a,r)=>match cA p r with|(b,r)=>(.pick x0 a b,r)
 |21=>match dX r with|(x0,r)=>match fV (cA p) r with|(a,r)=>(.c8 x0 a,r)
 |22=>match GS r with|(x0,r)=>match fV dX r with|(a,r)=>match cA p r with|(b,r)=>match cA p r with|(c,r)=>(.beq x0 a b c,r)
 |23=>match GS r with|(x0,r)=>match cA p r with|(a,r)=>match cA p r with|(b,r)=>(.CU x0 a b,r)
 |24=>match GS r with|(x0,r)=>match cA p r with|(a,r)=>match cA p r with|(b,r)=>(.ahI x0 a b,r)
 |25=>match cA p r with|(x0,r)=>(.Xe x0,r)
 |26=>match cA p r with|(x0,r)=>(.Wu x0,r)
 |27=>match cA p r with|(x0,r)=>(.Ql x0,r)
 |28=>match dX r with|(x0,r)=>match cA p r with|(a,r)=>(.mif x0 a,r)
 |29=>match dX r with|(x0,r)=>match fV (cA p) r with|(a,r)=>(.SJ x0 a,r)
 |30=>match dX r with|(x0,r)=>match dX r with|(a,r)=>match fV zP r with|(b,r)=>match cA p r with|(c,r)=>match cA p r with|(d,r)=>(.SK x0 a b c d,r)
 |31=>match cA p r with|(x0,r)=>match Dv (cA p) r with|(a,r)=>match Dv (cA p) r with|(b,r)=>(.sH x0 a b,r)
 |32=>match cA p r with|(x0,r)=>match cA p r with|(a,r)=>match dX r with|(b,r)=>match dX r with|(c,r)=>(.Lj x0 a b c,r)
 |33=>match cA p r with|(x0,r)=>match cA p r with|(a,r)=>(.SL x0 a,r)
 |34=>match cA p r with|(x0,r)=>match fV (cA p) r with|(a,r)=>(.Ox x0 a,r)
 |35=>match rS r with|(x0,r)=>match cA p r with|(a,r)=>match cA p r with|(b,r)=>(.mnx x0 a b,r)
 |36=>match dX r with|(x0,r)=>match fV (cA p) r with|(a,r)=>(.CW x0 a,r)
 |37=>match dX r with|(x0,r)=>match fV (cA p) r with|(a,r)=>(.SP x0 a,r)
 |38=>match dX r with|(x0,r)=>match cA p r with|(a,r)=>match cA p r with|(b,r)=>(.UM x0 a b,r)
 |39=>match cA p r with|(x0,r)=>(.SQ x0,r)
 |40=>match cA p r with|(x0,r)=>match dX r with|(a,r)=>(.SU x0 a,r)
 |41=>match cA p r with|(x0,r)=>match cA p r with|(a,r)=>match dX r with|(b,r)=>(.ixa x0 a b,r)
 |42=>match rS r with|(x0,r)=>match GS r with|(a,r)=>match cA p r with|(b,r)=>match cA p r with|(c,r)=>(.AG x0 a b c,r)
 |43=>match rS r with|(x0,r)=>match rS r with|(a,r)=>match dX r with|(b,r)=>(.mkm x0 a b,r)
 |44=>(.Ww,r)
 |45=>match rS r with|(x0,r)=>match fV dX r with|(a,r)=>match dX r with|(b,r)=>match cA p r with|(c,r)=>match cA p r with|(d,r)=>match cA p r with|(e,r)=>(.Qm x0 a b c d e,r)
 |46=>match rS r with|(x0,r)=>match fV dX r with|(a,r)=>match zP r with|(b,r)=>match cA p r with|(c,r)=>match cA p r with|(d,r)=>(.sI x0 a b c d,r)
 |47=>match dX r with|(x0,r)=>match cA p r with|(a,r)=>match cA p r with|(b,r)=>match cA p r with|(c,r)=>(.AH x0 a b c,r)
 |48=>match rS r with|(x0,r)=>match fV dX r with|(a,r)=>match zP r with|(b,r)=>match rS r with|(c,r)=>match cA p r with|(d,r)=>match cA p r with|(e,r)=>(.Ll x0 a b c d e,r)
 |49=>match cA p r with|(x0,r)=>(.Wx x0,r)
 |50=>match cA p r with|(x0,r)=>(.Wy x0,r)
 |51=>match cA p r with|(x0,r)=>(.Wz x0,r)
 |52=>match cA p r with|(x0,r)=>(.WA x0,r)
 |53=>match cA p r with|(x0,r)=>(.Gr x0,r)
 |54=>match cA p r with|(x0,r)=>(.Gs x0,r)
 |55=>match cA p r with|(x0,r)=>(.CX x0,r)
 |56=>match dX r with|(x0,r)=>match fV zP r with|(a,r)=>(.sJ x0 a,r)
 |57=>match cA p r with|(x0,r)=>(.WB x0,r)
 |58=>match dX r with|(x0,r)=>match dX r with|(a,r)=>match cA p r with|(b,r)=>(.WC x0 a b,r)
 |59=>match GS r with|(x0,r)=>match cA p r with|(a,r)=>match cA p r with|(b,r)=>(.pp x0 a b,r)
 |60=>match cA p r with|(x0,r)=>(.SY x0,r)
 |61=>match dX r with|(x0,r)=>match cA p r with|(a,r)=>match cA p r with|(b,r)=>(.ust x0 a b,r)
 |_=>match dX r with|(x0,r)=>match cA p r with|(a,r)=>match cA p r with|(b,r)=>(.AJ x0 a b,r)
def zAI(a:Nat):Pz AI:=fun l=>match dX l with
 |(h,r)=>match h%3 with
  |0=>match zOp a (h/3) r with|(o,r)=>(⟨some (a+1),o,none⟩,r)
  |1=>match zOp a (h/3) r with|(o,r)=>(⟨none,o,none⟩,r)
  |_=>match dX r with|(d,r)=>match dX r with|(g,r)=>match zOp a (h/3) r with|(o,r)=>(⟨(match d with|0=>none|n+1=>some n),o,(match g with|0=>none|n+1=>some (n/2,(match n%2 with|0=>false|_=>true)))⟩,r)
def Yx:Nat->Nat->Pz (List AI)
 |0,_,l=>([],l)
 |n+1,prev,l=>match zAI prev l with|(x,r)=>match Yx n (match x.d with|some d=>d|none=>prev) r with|(xs,r)=>(x::xs,r)
def aoc(k:Nat):List Nat->Bool
 |[]=>false
 |x::r=>match Nat.beq x k with|true=>true|false=>aoc k r
def aod:List Nat->List Nat->List Nat
 |[],l=>l
 |k::r,l=>aod r (match aoc k l with|true=>l|false=>l++[k])
def zEs(i:Nat)(a:List (List Nat)):List Nat->List Nat->List Nat
 |[],l=>l
 |d::r,l=>zEs i a r (aod ((i-d)::Bz [] a (i-d)) l)
def zLt:Nat->Nat->List (List Nat)->Pz (List (List Nat))
 |0,_,a,l=>(a,l)
 |n+1,i,a,l=>match dX l with|(h,r)=>match Yu dX (h/2) r with|(e,r)=>zLt n (i+1) (a++[match h%2 with|0=>zEs i a e []|_=>e.map fun d=>i-d]) r
def vV:Nat->Pz cf
 |0,l=>(.skip,l)
 |f+1,l=>match dX l with
  |(0,r)=>(.skip,r)
  |(1,r)=>match dX r with|(n,r)=>match Yx n 0 r with|(o,r)=>match dX r with|(0,r)=>(.pA o none,r)|(_,r)=>match zLt n 0 [] r with|(t,r)=>(.pA o (some t),r)
  |(2,r)=>match vV f r with|(a,r)=>match vV f r with|(b,r)=>(.seq a b,r)
  |(3,r)=>match cA 0 r with|(c,r)=>match vV f r with|(a,r)=>match vV f r with|(b,r)=>(.cond c a b,r)
  |(4,r)=>match dX r with|(i,r)=>match vV f r with|(b,r)=>(.block i b,r)
  |(5,r)=>match vV f r with|(b,r)=>(.loop b,r)
  |(6,r)=>match dX r with|(i,r)=>(.exit i,r)
  |(_,r)=>(.ret,r)
def zT1:List (List Nat):=[[2],[5],[12]]
def zT2:List (List (List Nat)):=[[[3],[9],[0,2],[11],[4],[1],[0],[6],[2,1],[1,2],[4,2],[2,2],[7],[24],[14],[3,2]],[[0,3],[8],[0,7],[0,1,0],[0,0],[13],[0,2,1],[23],[60],[15],[10],[22],[26],[17],[0,0,2],[16]],[[0,1],[0,9],[6,2],[5,2],[20],[21],[28],[0,0,1,0,0],[18],[2,1,2,1],[19],[0,2,0,7],[0,1,1],[3,2,0],[30],[0,2,2]],[[0,0,1],[47],[2,0],[0,1,0,0],[0,6],[33],[50],[0,11],[4,1],[28,2],[7,2],[32],[27],[0,2,0,2,1],[36],[0,2,2,1]],[[31],[9,2],[2,1,4],[3,1],[2,1,2],[18,2,12],[0,2,3],[57],[35],[29],[56],[25],[45],[54],[2,12],[0,0,1,0,0,1]],[[0,1,0,1],[3,2,0,0],[37],[39],[2,1,2,2],[0,12],[0,10],[3,2,1],[2,1,1,2,3],[2,1,1,2,5],[0,0,0,1],[0,8],[0,4],[4,2,1,2,1],[42],[34]],[[0,0,0,0,0,7],[0,0,0,0],[0,1,0,1,2],[9,1],[0,0,1,0,0,0,4,0],[18,2],[2,3,2],[38],[0,16],[21,3,2],[48],[3,2,0,12],[4,0,2],[2,0,14],[0,6,0,2,4,1],[2,3]],[[2,5],[0,13],[0,0,0,0,0,2,1],[40],[62],[4,5],[0,0,1,2],[0,2,1,2],[12,0,2,0,1,0,1,2],[0,15],[90],[0,2,11],[5,2,2,1],[2,1,3],[0,1,3,2],[0,2,0,3]],[[2,4,2],[52],[0,0,1,2,0,3],[0,0,9],[63],[7,1],[30,1,1,2],[0,0,2,1],[46],[1,3],[41],[0,2,5],[8,2],[9,2,0],[7,6],[0,14]],[[0,0,1,0],[43],[4,3,2],[0,2,17],[0,2,0,15],[64],[2,0,0],[21,3,2,1],[7,0,2],[3,2,0,2],[3,2,0,24],[99],[0,7,0,2,1],[1,13],[65],[11,2]],[[44],[55],[0,2,2,1,3,2],[5,2,1,1,14],[4,11],[2,0,2],[1,1],[0,2,1,2,1,2,1],[2,14],[2,1,1],[102],[59],[2,1,1,2],[0,1,2,14],[53],[1,4]],[[27,27],[1,5],[39,1],[0,0,1,1],[12,0,2],[68],[49],[0,60],[0,5],[0,2,1,1,2],[87],[6,0,2],[2,9],[0,2,2,1,1,2],[66],[51]]]
def zT3:List (List (List Nat)):=[[[4,3,1],[67],[79],[61],[101],[93],[76],[131],[80],[58],[136],[72],[73],[71],[77],[83]],[[85],[69],[104],[75],[74],[84],[81],[96],[106],[92],[82],[30,1],[0,4,0],[70],[98],[78]],[[100],[91],[94],[95],[108],[147],[103],[125],[186],[191],[302],[240],[117],[121],[86],[170]],[[97],[109],[105],[114],[244],[213],[89],[122],[115],[149],[227],[88],[0,6,0,2],[112],[329],[144]],[[124],[130],[110],[195],[150],[168],[134],[120],[133],[205],[107],[155],[129],[111],[290],[162]],[[258],[146],[160],[127],[212],[179],[135],[237],[140],[197],[123],[126],[132],[156],[113],[139]],[[171],[243],[194],[141],[2,1,1,14],[185],[180],[137],[142],[285],[217],[116],[119],[145],[143],[190]],[[254],[166],[167],[163],[261],[169],[161],[283],[206],[207],[208],[209],[210],[138],[183],[178]],[[118],[276],[309],[291],[204],[187],[228],[189],[275],[164],[165],[157],[259],[128],[216],[287]],[[214],[327],[211],[177],[151],[172],[175],[176],[278],[311],[317],[305],[268],[293],[330],[331]],[[332],[328],[319],[320],[292],[230],[233],[229],[231],[232],[234],[235],[236],[269],[306],[271]],[[270],[307],[273],[272],[274],[308],[188],[192],[193],[255],[256],[262],[196],[257],[260],[295]],[[239],[241],[152],[153],[154],[158],[159],[242],[286],[219],[218],[220],[221],[215],[316],[284]],[[238],[294],[174],[173],[181],[182],[198],[199],[184],[277],[310],[312],[313],[326],[250],[249]],[[222],[223],[224],[225],[288],[289],[318],[148],[300]]]
def zW(k:List Nat):Nat->Nat->List Nat
 |0,_=>k
 |_,1=>k
 |f+1,n=>match Nat.blt (n%16) 3 with
  |true=>Bz [] zT1 (n%16)++zW k f (n/16)
  |false=>match Nat.blt (n%16) 15 with
   |true=>Bz [] (Bz [] zT2 (n%16-3)) (n/16%16)++zW k f (n/256)
   |false=>Bz [] (Bz [] zT3 (n/16%16)) (n/256%16)++zW k f (n/4096)
def zS:List Char->Nat->Nat
 |[],n=>n
 |c::r,n=>zS r (n*62+(match Nat.blt c.toNat 58 with|true=>c.toNat-48|false=>match Nat.blt c.toNat 91 with|true=>c.toNat-55|false=>c.toNat-61))
def dc(l:List Char):cf:=(vV 300 (zW [] 9999 (zS l 0))).1
def dL(s:String){l:List Char}{c:cf}(_:s=String.ofList l:=by rfl)(_:dc l=c:=by cbv):cf:=c
end Go.Am
