import Derived.ChangeShapes
import Derived.OpenShut
import Derived.OpenVars
import Derived.Carry
import Derived.ChangeSame
import Derived.RowKit
import Derived.Test.YtjclmfaodngbfaaGreatDoorProg
import Derived.Test.YtjclmfaodngbfaaGreatDoorT06
set_option linter.all false
set_option maxRecDepth 100000
set_option maxHeartbeats 1000000
namespace Go.Am
section
variable {P:Program} {G:Nat->Option (List PV)} {S:Nat->Prop} {st:St} {w:World} {accs:List Nat} {ρ:AV->Value->Prop} {A:Ar} {C:CT} {I:IC} {N:St->Prop} {Q:Ex->St->Prop} {T:Mj} {U:Bool} {a:List Item} {b c:Bool} {d:Option Nat} {e:List Item} {f:FuncId} {g:List Item} {j:Int} {k:IntKind} {l:List Int} {n:Nat} {r:List (List PV)} {s:List UInt8} {st0:St} {v:Nat} {α:Type}
def uD(P:Program):ResultVar->Option RD
 |.tmp t=>some (.tmp t)
 |.cell a t=>match ey P t with
  |some true=>match dK P t with|some n=>some (.cell a (some n))|none=>none
  |some false=>some (.cell a none)
  |none=>none
def fe(P:Program):List ResultVar->Option (List RD)
 |[]=>some []
 |x::r=>match uD P x with
  |some d=>match fe P r with|some ds=>some (d::ds)|none=>none
  |none=>none
def fN(a:List RD)(st:St):Option PV:=
 match mN st a with
 |some vs=>match lS st.mem (one? vs)with|some (p,_)=>some p|none=>none
 |none=>none
def rQ(b:List RD)(a:PV):Ex->St->Prop
 |.exit _,_=>False
 |_,st=>fN b st=some a
def start(a:Nat)(b:List PV):St:=⟨b.map .pv++List.replicate (a-b.length) .dead,[],0,List.replicate a none⟩
section
variable {w0:World} {own0:Nat->Prop} {hvs:List Value×List Deferred} {S0:Nat->Prop} {γ:Nat->Option Nat} {a:Act} (h:dW w0 own0 hvs G γ S st a w)
include h
theorem L9{r:ResultVar}{d:RD}{v:AV}(k:uD P r=some d)(f:Lx st d=some v): ∃u,((match r with|.tmp t=>pure (a.tmps.getD t undef)|.cell x t=>do loadVar t (<-asAddr (a.tmps.getD x undef)):Sem Value)).run P w=.ok u w/\lF S w (Ref γ S w st.mem) v u:=by cases r with|tmp t=>simp[uD]at k;subst k;simp[Lx]at f;subst f;exact⟨_,Sem.run_pure _ _ _,h.slot t⟩|cell x t=>simp[uD]at k;have y:∃g n,d=.cell x n/\ey P t=some g/\(match g with|true=>∃m,dK P t=some m/\n=some m|false=>n=none):=by{split at k;{grind};{simp_all};grind};obtain⟨g,n,rfl,z,p⟩:=y;simp[Lx]at f;split at f;{rename_i id l A;split at f;{rename_i F q;have i:=h.slot x;rw[A]at i;simp only[lF,Ref,q]at i;obtain⟨b,G,i⟩:=i;obtain⟨H,c,e,I,J,K,B⟩:=h.mem id _ q;have o:ai w b=some c:=by{grind[ai]};simp[i,asAddr];cases g with|false=>grind[js,bB.get,kH]|true=>simp at p;obtain⟨m,C,rfl⟩:=p;simp[js]at f;split at f;{rename_i L hl;split at hl;{rename_i D;simp at hl;subst hl;simp at f;subst f;obtain⟨E,M,N,s⟩:=bB.list ((B.1.drop l).take m);rw[Nat.zero_add]at s;have j:E.length=m:=by{grind};exact⟨_,kA z C o j s,by grind[lF]⟩};grind};grind};grind};grind
theorem vM:∀{l:List ResultVar} {b:List RD} {c:List AV},fe P l=some b->mN st b=some c->∃e:List Value,(l.mapM fun r=>(match r with|.tmp t=>pure (a.tmps.getD t undef)|.cell x t=>do loadVar t (<-asAddr (a.tmps.getD x undef)):Sem Value)).run P w=.ok e w/\au S w (Ref γ S w st.mem) c e
|[],b,c,hd,f=>by simp_all[fe,mN,au]
|r::l,b,c,hd,f=>by simp[fe]at hd;split at hd;{rename_i d g;split at hd;{rename_i i j;simp at hd;subst hd;simp[mN]at f;split at f;{rename_i v k;split at f;{rename_i m n;obtain⟨u,o,p⟩:=L9 h g k;obtain⟨e,q,s⟩:=vM j n;refine⟨u::e,?_,by grind[au]⟩;simp_all};grind};grind};grind};grind
theorem vN{b:Func}{f:List RD}{v:AV}(g:fe P b.results.toList=some f)(c:lT f st=some v): ∃u,(results b a.tmps).run P w=.ok u w/\lF S w (Ref γ S w st.mem) v u:=by unfold lT at c;split at c;{rename_i i hvs;simp at c;subst c;obtain⟨d,l,j⟩:=vM h g hvs;have m:(results b a.tmps).run P w=.ok (if n:d.toArray.size=1 then d.toArray[0]else .tuple d.toArray) w:=by{have e:b.results=b.results.toList.toArray:=by{simp};unfold results;rw[e,List.mapM_toArray];grind[Sem.run_bind,Sem.run_pure,map_eq_pure_bind,Result.andThen]};rcases i with _|⟨x,_|⟨y,z⟩⟩;{grind[au,one?,lF]};{obtain⟨u,r,rfl,k,rfl⟩:=j;exact⟨u,by simp_all,k⟩};grind[au,one?,lF]};grind
theorem vO{e:Func}{f:List RD}{c:PV}(g:fe P e.results.toList=some f)(d:fN f st=some c): ∃v b,(results e a.tmps).run P w=.ok v w/\aD (cV γ S b) w c v:=by unfold fN at d;split at d;{rename_i i hvs;split at d;{rename_i p b hl;simp at d;subst d;obtain⟨u,j,k⟩:=vN h g (v:=one? i) (by grind[lT]);exact⟨u,b,j,x9 h hl k⟩};grind};grind
end
theorem xD{nt:Nat}{a:List PV}:∀{b:List Value},aM S w a b->∀(n i:Nat),lF S w ρ ((a.map AV.pv++List.replicate n AV.dead).getD i AV.dead) ((b.toArray++Array.replicate n undef).getD i undef):=by induction a with|nil=>grind[lF]|cons p a c=>intro b h n i;obtain⟨v,r,rfl,f,d⟩:=h;cases i with|zero=>have e:((v::r).toArray++Array.replicate n undef).getD 0 undef=v:=by{simp_all[Array.getElem?_append]};grind[lF]|succ i=>have:=c d n i;have e:((v::r).toArray++Array.replicate n undef).getD (i+1) undef=(r.toArray++Array.replicate n undef).getD i undef:=by{rw[Array.getD_eq_getD_getElem?,Array.getD_eq_getD_getElem?];grind};simp_all
theorem aM.uE{a:List PV}{b:List Value}(h:aM S w a b):b.length=a.length:=by grind[aM.length]
theorem Bq(y:P.follows .mixedOrders=true){l:Func}{c:Code}{r:cf}{p:List RD}{g:Nat}(z:P.funcs[f]? =some l)(A:l.body=some c)(L:(l.name== "runtime.NumGoroutine")=false)(B:bD P G accs c=some r)(C:fe P l.results.toList=some p)(M:l.ntmps=g){m:List PV}{a:PV}(N:m.length<=g)(h:bH (CC P G) aF (Hf P G) [.code r] (rQ p a) .normal (start g m)):bE P G f m a:=by intro S w q D E s;have t:=aM.uE s;unfold dN;have F:(callFunc f q.toArray).run P w=.ok (.enter f q.toArray) w:=by{simp_all[callFunc]};rw[F];refine calls_of_wp z A ?_;have H:ft w (fun _=>False) ([],[]) G S (start g m) {tmps:=q.toArray++Array.replicate (l.ntmps-q.toArray.size) undef,defers:=[]} w:=by{have O:∀id,aj (start g m).mem id=none:=by{grind[start,aj]};refine⟨fun _=>none,S,fun _ h=>h,fun _ h=>.inl h,{size:=?_,slot:=?_,held:=?_,defers:=rfl,mem:=?_,lU:=?_,inj:=?_,own:=?_,bound:=D,eJ:=?_,eZ:=E,kept:=fun _ _ _=>rfl,os:=rfl,tape:=rfl,output:=rfl,eY:=Nat.le_refl _}⟩;{grind[start]};{intro i;have:=xD (nt:=g) (ρ:=Ref (fun _=>none) S w (start g m).mem) s (g-m.length) i;grind[start,St.slot]};{rfl};{simp_all};{simp_all};{simp_all};{simp_all};simp_all};refine nH y c B H (Qa:=rQ p a) h ?_;intro e st' u w' I o;obtain⟨γ,S',bg,Cy,d⟩:=I;have key:fN p st'=some a->u.defers=[]/\∃v,(results l u.tmps).run P w'=.ok v w'/\∃x,Ending.returned v=.returned x/\(RowKit.Below w.heap.size w w'/\aD (fun b=>S b\/(w.heap.size<=b/\b<w'.heap.size)) w' a x):=by{intro o;obtain⟨v,b,J,K⟩:=vO d C o;refine⟨d.defers,v,J,v,rfl,⟨d.os,d.tape,d.output,d.eY,fun k j=>d.kept k j (fun h=>h)⟩,?_⟩;refine aD.later (fun k j=>⟨?_,rfl,rfl⟩) _ K;rcases j with j|⟨_,i,j⟩;{rcases Cy k j with n|n|n;{simp_all};{exact .inr ⟨n,d.bound k j⟩};simp_all};rcases(d.own i k j).2 with n|n;{exact .inr ⟨n,d.eJ i k j⟩};simp_all};cases e with|normal=>exact key o|ret=>exact key o|exit id=>exact o.elim
theorem rR:∀{mem:List (Option Obj)},pD mem=true->∀i,aj mem i=none
|[],_,i=>by simp[aj]
|none::r,h,i=>by cases i with|zero=>simp[aj]|succ i=>have:=rR (mem:=r) (by grind[pD]) i;grind[aj]
|some _::_,h,_=>by grind[pD]
theorem oU(n:Nat)(mem:List (Option Obj))(i:Nat):aj (AR n mem) i=aj mem i:=by unfold AR;split;{rename_i h;unfold aj;by_cases a:i<n;{simp_all};have:=rR h (i-n);grind[aj]};rfl
theorem au.vP:∀{xs:List AV} {a:List Value},xs.length=a.length->(∀i,lF S w ρ (xs.getD i .dead) (a.getD i undef))->au S w ρ xs a
|[],[],_,_=>by rfl
|x::xs,v::a,hl,h=>by exact⟨v,a,rfl,by simpa using h 0,au.vP (by simp_all) (fun i=>by simpa using h (i+1))⟩
|[],_::_,hl,_=>by simp_all
|_::_,[],hl,_=>by simp_all
theorem au.slots:∀{xs:List AV} {a:List Value},au S w ρ xs a->∀i,lF S w ρ (xs.getD i .dead) (a.getD i undef)
|[],a,h,i=>by grind[lF]
|x::xs,a,h,i=>by obtain⟨v,r,rfl,c,b⟩:=h;cases i with|zero=>simp_all|succ i=>simpa using au.slots b i
theorem au.XZ(n:Nat):au S w ρ (List.replicate n .dead) (List.replicate n undef):=by induction n with|zero=>rfl|succ n a=>grind[au,lF]
theorem au.cut{xs:List AV}{a b:List Value}(h:au S w ρ xs (a++b)):au S w ρ (xs.take a.length) a/\au S w ρ (xs.drop a.length) b:=by grind[au.length,List.take_append_drop,au.split,List.length_append,List.append_inj]
def gF(P:Program)(G:Nat->Option (List PV))(accs:List Nat)(f:FuncId):Option (cf×List RD×Nat):=
 match P.funcs[f]? with
 |none=>none
 |some fn=>match fn.body with
  |none=>none
  |some c=>match fn.name== "runtime.NumGoroutine" with
   |true=>none
   |false=>match bD P G accs c with
    |none=>none
    |some ac=>match fe P fn.results.toList with
     |none=>none
     |some a=>some (ac,a,fn.ntmps)
theorem acy{b:cf}{d:List RD}{e:Nat}(h:gF P G accs f=some (b,d,e)): ∃a c,P.funcs[f]? =some a/\a.body=some c/\(a.name== "runtime.NumGoroutine")=false/\bD P G accs c=some b/\fe P a.results.toList=some d/\a.ntmps=e:=by unfold gF at h;split at h;{cases h};grind
theorem E2{d:cf}{e:List RD}{b:Nat}(g:P.follows .mixedOrders=true)(h:gF P G accs f=some (d,e,b)){c:List PV}{a:PV}(i:c.length<=b)(j:bH (CC P G) aF (Hf P G) [.code d] (rQ e a) .normal (start b c)):bE P G f c a:=by grind[acy,Bq]
theorem IP{z:cf}{s:List RD}{j:Nat}(g:P.follows .mixedOrders=true)(h:gF P G accs f=some (z,s,j)){d:List AV}{K:AV->St->Prop}(H:fw (CC P G) aF (Hf P G) z (enter j d st) (xu s st.slots.length st.base K)):Hf P G f d st K:=by obtain⟨A,c,I,o,Z,J,L,M⟩:=acy h;intro w0 own0 hvs S0 γ S a w vs bg Cy k B;have p:=au.length B;unfold dN;have N:(callFunc f vs.toArray).run P w=.ok (.enter f vs.toArray) w:=by{simp_all[callFunc]};rw[N];refine calls_of_wp I o ?_;have C:∀i,aj (st.mem++List.replicate j none) i=aj st.mem i:=by{grind[aj]};have hρ:∀x v,Ref γ S w st.mem x v->Ref γ S w (st.mem++List.replicate j none) x v:=Ref.later (bf.refl S w) (fun id q g=>⟨by simp_all,rfl,fun _ _=>⟨rfl,rfl⟩⟩);have O:au S w (Ref γ S w st.mem) st.slots a.tmps.toList:=au.vP (by simpa using k.size) (fun i=>by have:=k.slot i;grind[St.slot,Array.getD_eq_getD_getElem?]);have Q:ft w0 own0 (a.tmps.toList++hvs.1,[]) G S0 (enter j d st) {tmps:=vs.toArray++Array.replicate (A.ntmps-vs.toArray.size) undef,defers:=[]} w:=by{refine⟨γ,S,bg,Cy,{k with size:=?_,slot:=?_,held:=?_,defers:=rfl,mem:=?_,lU:=?_}⟩;{grind[enter]};{intro i;have t:au S w (Ref γ S w (enter j d st).mem) (d++List.replicate (j-d.length) .dead) (vs++List.replicate (j-d.length) undef):=au.append (au.later (bf.refl S w) hρ _ B) (au.XZ _);have:=au.slots t i;simpa[enter,St.slot,p,M,<-Array.getElem?_toList]using this};{exact au.later (bf.refl S w) hρ _ (au.append O k.held)};{intro id q g;simp[enter]at g;rw[C]at g;exact eK.later (bf.refl S w) hρ rfl (fun _ _=>rfl) (k.mem id q g)};intro i b o;simp only[enter];rw[C];exact k.lU i b o};refine nH g c J Q H ?_;intro e st' D w' R m;obtain⟨γ',S',T,U,n⟩:=R;have key:(match lT s st' with|some v=>K v (leave st.slots.length st.base st')|none=>False)->D.defers=[]/\∃v,(results A D.tmps).run P w'=.ok v w'/\∃E,Ending.returned v=.returned E/\ ∃r l γ' S',K r l/\(∀b,S0 b->S' b)/\(∀b,S' b->S0 b\/w0.heap.size<=b\/own0 b)/\dW w0 own0 hvs G γ' S' l a w'/\lF S' w' (Ref γ' S' w' l.mem) r E:=by{intro m;split at m;{rename_i v V;obtain⟨u,t,W⟩:=vN n L V;have hρ':∀x v,Ref γ' S' w' st'.mem x v->Ref γ' S' w' (AR st'.base st'.mem) x v:=Ref.later (bf.refl S' w') (fun id q g=>⟨by grind[oU],rfl,fun _ _=>⟨rfl,rfl⟩⟩);have X:=au.later (bf.refl S' w') hρ' _ n.held;obtain⟨y,F⟩:=au.cut X;have Y:a.tmps.toList.length=st.slots.length:=by{simpa using k.size.symm};rw[Y]at y F;have Zo:=au.length y;refine⟨n.defers,u,t,u,rfl,v,_,γ',S',m,T,U,{n with size:=?_,slot:=?_,held:=F,defers:=k.defers,mem:=?_,lU:=?_},lF.later (bf.refl S' w') hρ' _ W⟩;{grind[leave]};{intro i;have:=au.slots y i;grind[leave,St.slot,Array.getD_eq_getD_getElem?]};{intro id q g;simp[leave]at g;rw[oU]at g;exact eK.later (bf.refl S' w') hρ' rfl (fun _ _=>rfl) (n.mem id q g)};intro i b o;simp only[leave];rw[oU];exact n.lU i b o};simp_all};cases e with|normal=>exact key m|ret=>exact key m|exit id=>exact m.elim
theorem eM(e:P.follows .mixedOrders=true)(hT:∀f a b c,T f=some (a,b,c)->∃accs,gF P G accs f=some (a,b,c)):oI (CC P G) aF (Hf P G) T:=by intro f a b c g d st K h;grind[IP]
def vQ:Mj:=fun _=>none
theorem yt:oI C A I vQ:=by intro f b c d a;cases a
theorem aiZ{x r:bp}(h:x=r)(a:r.holds C A I Q):x.holds C A I Q:=h▸a
theorem go(n:Nat){r:bp}(h:run A vQ false n a st=r)(b:r.holds (CC P G) A (Hf P G) Q): bH (CC P G) A (Hf P G) a Q .normal st:=pF (Hf.mono P G) yt n r h b
theorem go1{b:cf}(n:Nat){r:bp}(h:run A vQ false n [.code b] st=r)(a:r.holds (CC P G) A (Hf P G) Q): fw (CC P G) A (Hf P G) b st Q:=pF (Hf.mono P G) yt (is:=[.code b]) n r h a
theorem qp(P:Program)(G:Nat->Option (List PV)):Gv (Hf P G):=Hf.mono P G
theorem QH{b:cf}(dp:α->St->St)(J:α->Prop)(μ:α->Nat)(c:α)(g:Fg st0 (dp c st0))(i:J c)(h:∀a,J a->fw (CC P G) A (Hf P G) b (dp a st0) (fun e f=>match e with|.normal=>∃d,J d/\μ d<μ a/\Fg f (dp d st0)|e=>Q e f)): fw (CC P G) A (Hf P G) (.loop b) st0 Q:=by refine HW (qp P G) (fun n s=>∃a,J a/\n=μ a/\s=dp a st0) ⟨_,_,g,c,i,rfl,rfl⟩ ?_;grind
theorem X3{b:cf}(dp:Nat->St->St)(n:Nat)(ok:Nat->Prop)(c:Fg st0 (dp 0 st0))(h:∀v:Nat,v<=n->(∀k,k<v->ok k)->fw (CC P G) A (Hf P G) b (dp v st0) (fun e a=>match e with|.normal=>v<n/\ok v/\Fg a (dp (v+1) st0)|e=>Q e a)): fw (CC P G) A (Hf P G) (.loop b) st0 Q:=by refine QH (α:=Nat) dp (fun v=>v<=n/\∀k,k<v->ok k) (fun v=>n-v) 0 c ⟨Nat.zero_le _,fun k d=>absurd d (Nat.not_lt_zero _)⟩ ?_;grind[fC,qp]
def de(C:CT)(A:Ar)(I:IC)(a:List Item)(Q:Ex->St->Prop)(N:St->Prop):Ex->St->Prop
 |.normal,s=>N s
 |.ret,s=>match kb a with
  |some ((b,n,base,d),r)=>xu b n base (fun v c=>bH C A I r Q .normal (c.put d v)) .ret s
  |none=>Q .ret s
 |.exit id,s=>match exitTo id a with
  |some r=>bH C A I r Q .normal s
  |none=>qf id a=true/\Q (.exit id) s
theorem de.norm{s:St}(h:N s):de C A I a Q N .normal s:=h
theorem de.oV{s:St}(b:kb a=none)(h:Q .ret s):de C A I a Q N .ret s:=by grind[de]
theorem de.X4{r:List Item}{s:St}{id:Nat}(b:exitTo id a=some r)(h:bH C A I r Q .normal s):de C A I a Q N (.exit id) s:=by grind[de]
theorem aB{s:St}(h:N s):(bp.fin .normal s).holds C A I (de C A I a Q N):=h
theorem ff{s:St}(b:kb a=none)(h:Q .ret s):(bp.fin .ret s).holds C A I (de C A I a Q N):=de.oV (N:=N) b h
theorem wW{r:List Item}{s:St}{id:Nat}(b:exitTo id a=some r)(h:bH C A I r Q .normal s):(bp.fin (.exit id) s).holds C A I (de C A I a Q N):=de.X4 (N:=N) b h
theorem aN{enc:α->List PV}{l:List α}(h:v<l.length):aF.rat (l.map enc) (Int.ofNat v)=enc l[v]:=by simp[aF,h]
theorem aO{enc:α->List PV}{l:List α}(h:v<l.length){a:Nat}(b:(enc l[v]).length=a):aF.tu (Int.ofNat v) (l.map enc) a:=by grind[aF]
theorem jJ{b:cf}(dp:Nat->St->St)(n:Nat)(ok:Nat->Prop)(d:Fg st0 (dp 0 st0))(h:∀v:Nat,v<=n->(∀k,k<v->ok k)->fw (CC P G) A (Hf P G) b (dp v st0) (de (CC P G) A (Hf P G) a Q (fun c=>v<n/\ok v/\Fg c (dp (v+1) st0)))): (bp.loop b st0 a).holds (CC P G) A (Hf P G) Q:=by refine X3 dp n ok d ?_;intro v f g;refine fC (qp P G) b ?_ (h v f g);intro e c i;cases e with|normal=>exact i|ret=>grind[jv,de]|exit id=>grind[de,iq,acx]
theorem bp.af{a b:bp}(d:c=true->a.holds C A I Q)(e:c=false->b.holds C A I Q):(match c with|true=>a|false=>b).holds C A I Q:=by grind
@[simp] theorem ade{a b:Int}:aF.lt a b=decide (a<b):=rfl
@[simp] theorem agR{a b:Int}:aF.le a b=decide (a<=b):=rfl
@[simp] theorem std_eq{a b:Int}:aF.eq a b=decide (a=b):=rfl
@[simp] theorem X5:aF.jA r=r.length:=rfl
@[simp] theorem X6{r:List UInt8}:aF.wY r=r.length:=rfl
theorem ao{c:List AV}{e:List PV}{a:PV}(h:dB st.mem c=some (e,b))(i:bE P G f e a)(j:b=true->a.jf=true)(k:bH (CC P G) A (Hf P G) g Q .normal (st.put d (.pv a))):(bp.call f c d st g).holds (CC P G) A (Hf P G) Q:=.inl ⟨e,b,a,h,i,j,k⟩
theorem bF{c:List AV}{e:List PV}{a:PV}(h:dB st.mem c=some (e,b))(i:bE P G f e a)(j:b=true->a.jf=true)(k:bH (CC P G) A (Hf P G) g Q .normal (st.put d (.pv a))):(bp.afq f c d st g).holds (CC P G) A (Hf P G) Q:=.inl ⟨e,b,a,h,i,j,k⟩
theorem ae{p:Prop}(b:p)(h:bH C A I a Q .normal st):(bp.pre p st a).holds C A I Q:=⟨b,h⟩
def ints(a:List Int):List (List PV):=a.map fun p=>[.int .i64 p]
theorem gv{a:List Int}(b:0<=j)(c:j<a.length):aF.rat (ints a) j=[.int .i64 (a.getD j.toNat 0)]:=by grind[aF,ints]
theorem gW{a:List Int}(b:0<=j)(c:j<a.length):aF.tu j (ints a) 1:=by grind[aF,ints]
theorem wrap64{n:Int}(a: -9223372036854775808<=n)(b:n<9223372036854775808):aF.wrap .i64 n=n:=by have c:(2:Int)^IntKind.i64.bits=18446744073709551616:=by{decide};have d:(2:Int)^(IntKind.i64.bits-1)=9223372036854775808:=by{decide};simp[aF];unfold IntKind.wrap;have e:IntKind.i64.signed=true:=rfl;grind
theorem kY(h:v<2^62):aF.wrap .i64 (aF.add (Int.ofNat v) 1)=Int.ofNat (v+1):=by grind[wrap64,aF]
def St.tidy(s:St)(b:List Nat)(a:List (Option Nat)):St:=(s.norm.mj a).keep b
theorem Fg.ah{s b:St}(c:List Nat)(a:List (Option Nat))(d:jN a=true)(h:s.tidy c a=b):Fg s b:=h▸Fg.trans (Fg.norm s) (Fg.trans (Fg.mj _ a d) (Fg.keep _ c))
theorem run_eq{B:Ar}{r:bp}(h:run B T U n a st=r)(b:r.holds C A I Q):(run B T U n a st).holds C A I Q:=h▸b
@[simp] theorem kT{a b:Int}:aF.add a b=a+b:=rfl
@[simp] theorem iQ{a b:Int}:aF.sub a b=a-b:=rfl
@[simp] theorem E3{a b:Int}:aF.mul a b=a*b:=rfl
@[simp] theorem std_quo{a b:Int}:aF.quo a b=a.tdiv b:=rfl
@[simp] theorem E4{a b:Int}:aF.rem a b=a.tmod b:=rfl
@[simp] theorem n9{a:Int}:aF.wrap k a=k.wrap a:=rfl
@[simp] theorem std_not{a:Bool}:aF.not a= !a:=rfl
@[simp] theorem std_nz{a:Int}:aF.nz a=(a≠0):=rfl
@[simp] theorem X7{a:Int}:aF.z6 a=(0<=a):=rfl
@[simp] theorem WU{a:Nat}:aF.ofNat a=a:=rfl
@[simp] theorem X8{a b:List UInt8}:aF.Lm a b=a++b:=rfl
@[simp] theorem X9{a b:List UInt8}:aF.Ln a b=(a.length+b.length<=9223372036854775807):=rfl
@[simp] theorem std_seq{a b:List UInt8}:aF.seq a b=decide (a=b):=rfl
@[simp] theorem dj{a b:List (List PV)}:aF.oi a b=a++b:=rfl
@[simp] theorem Ya{a b:List (List PV)}{c:Nat}:aF.oj a b n c=((a.length+b.length+256)*n<=2^46/\a.length+b.length<=2^46/\fS c b/\aK c a):=rfl
@[simp] theorem aeg{a b:List (List PV)}:aF.Qn a b=(a=[]\/b≠[]):=rfl
@[simp] theorem std_mkp{l c:Int}{b:Nat}:aF.WD l c b=(0<=l/\l<=c/\c*b<=2^47/\c<=2^47):=rfl
@[simp] theorem Yb{n:Int}{z:List PV}:aF.AK n z=List.replicate n.toNat z:=rfl
@[simp] theorem gX{l h:Int}:aF.uS r l h=(r.drop l.toNat).take (h.toNat-l.toNat):=rfl
@[simp] theorem std_rbd{l h:Int}{s:List (List PV)}{a:Nat}:aF.Xg l h r s a=(0<=l/\l<=h/\h<=r.length+s.length/\(l=0\/aK a (r++s))):=rfl
@[simp] theorem Yc{l h:Int}{a:Nat}:aF.wZ l h r a=(0<=l/\l<=h/\h<=r.length/\(l=0\/aK a r)):=rfl
theorem dy{n:Int}(a: -9223372036854775808<=n)(b:n<9223372036854775808):IntKind.i64.wrap n=n:=wrap64 a b
@[simp] theorem one_int{n:Int}:(AV.pv (.int k n)).one=true:=rfl
@[simp] theorem Yd:(AV.pv (.bool b)).one=true:=rfl
@[simp] theorem one_str{b:List UInt8}:(AV.pv (.str b)).one=true:=rfl
@[simp] theorem one_sl{s:List (List PV)}:(AV.pv (.sl r s)).one=true:=rfl
@[simp] theorem aic:aK n []:=by simp[aK]
@[simp] theorem cN{r:List PV}{a:List (List PV)}:aK n (r::a)↔r.length=n/\aK n a:=by simp[aK]
@[simp] theorem K8{a b:List (List PV)}:aK n (a++b)↔aK n a/\aK n b:=by simp only[aK,List.mem_append];exact⟨fun h=>⟨fun r c=>h r (.inl c),fun r c=>h r (.inr c)⟩,fun h r c=>c.elim (h.1 r) (h.2 r)⟩
@[simp] theorem aid:fS n []:=by simp[fS]
@[simp] theorem QI{r:List PV}{a:List (List PV)}:fS n (r::a)↔(r.length=n/\∀p∈r,(AV.pv p).one=true)/\fS n a:=by simp[fS]
theorem Kh{enc:α->List PV}(h:∀x,(enc x).length=n)(l:List α):aK n (l.map enc):=by intro r a;grind
theorem iX{enc:α->List PV}(h:∀x,(enc x).length=n/\∀p∈enc x,(AV.pv p).one=true)(l:List α):fS n (l.map enc):=by intro r a;grind
@[simp] theorem QJ:aK 1 (ints l):=Kh (enc:=fun p=>[.int .i64 p]) (fun _=>rfl) l
@[simp] theorem QK:fS 1 (ints l):=iX (enc:=fun p=>[.int .i64 p]) (fun _=>⟨rfl,by simp⟩) l
@[simp] theorem QL:(ints l).length=l.length:=by simp[ints]
@[simp] theorem Ye:ints []=[]:=rfl
@[simp] theorem QM{a b:List Int}:ints (a++b)=ints a++ints b:=by simp[ints]
@[simp] theorem std_peq{a b:List PV}:aF.peq a b=JK a b:=rfl
@[simp] theorem Yh{c:List Nat}{a b:List PV}:aF.HP c a b=aR c a b:=rfl
@[simp] theorem std_rat{n:Int}:aF.rat r n=r.getD n.toNat []:=rfl
@[simp] theorem std_slt{a b:List UInt8}:aF.slt a b=Op.bytesLess a b:=rfl
@[simp] theorem std_min{a b:Int}:aF.min a b=if b<a then b else a:=rfl
@[simp] theorem std_max{a b:Int}:aF.max a b=if b>a then b else a:=rfl
@[simp] theorem MC:aF.sat s j=((s.getD j.toNat 0).toNat:Nat):=rfl
@[simp] theorem std_sin:aF.sin j s=(0<=j/\j<s.length):=rfl
@[simp] theorem Yi{l h:Int}:aF.Lp s l h=(s.drop l.toNat).take (h.toNat-l.toNat):=rfl
@[simp] theorem std_sbd{l h:Int}:aF.sbd l h s=(0<=l/\l<=h/\h<=s.length):=rfl
theorem cU{a:List AV}{g:List PV}(h:dB st.mem a=some (g,b))(i:bE P G f g (.bool c))(k:c=true->bH (CC P G) A (Hf P G) e Q .normal (st.put d (.pv (.bool true))))(j:c=false->bH (CC P G) A (Hf P G) e Q .normal (st.put d (.pv (.bool false)))):(bp.call f a d st e).holds (CC P G) A (Hf P G) Q:=ao h i (fun _=>rfl) (by cases c;exact j rfl;simp_all)
theorem gG{a:List AV}{g:List PV}(h:dB st.mem a=some (g,b))(i:bE P G f g (.bool c))(k:c=true->bH (CC P G) A (Hf P G) e Q .normal (st.put d (.pv (.bool true))))(j:c=false->bH (CC P G) A (Hf P G) e Q .normal (st.put d (.pv (.bool false)))):(bp.afq f a d st e).holds (CC P G) A (Hf P G) Q:=bF h i (fun _=>rfl) (by cases c;exact j rfl;simp_all)
theorem oW{b:List RD}{a:PV}{s:St}(h:fN b s=some a):(bp.fin .ret s).holds C A I (rQ b a):=h
theorem fm(hT:oI (CC P G) A (Hf P G) T)(n:Nat){r:bp}(h:run A T U n a st=r)(b:r.holds (CC P G) A (Hf P G) Q): bH (CC P G) A (Hf P G) a Q .normal st:=pF (Hf.mono P G) hT n r h b
mutual
def sV{H:Type}:DataW H->List PV
 |.lit (.bool b)=>[.bool b]
 |.lit (.int k n)=>[.int k n]
 |.lit (.string s)=>[.str s]
 |.lit _=>[]
 |.nil=>[.sl [] []]
 |.ptr _=>[]
 |.slice es sp=>[.sl (iY es) (iY sp)]
 |.agg parts=>oc parts
 |.iface _ _=>[]
 |.map _=>[]
 |.held _=>[]
def iY{H:Type}:List (DataW H)->List (List PV)
 |[]=>[]
 |d::ds=>sV d::iY ds
def oc{H:Type}:List (DataW H)->List PV
 |[]=>[]
 |d::ds=>sV d++oc ds
end
theorem jT{H:Type}:∀(l:List (DataW H)),iY l=l.map sV
|[]=>by simp[iY]
|d::ds=>by simp[iY,jT ds]
structure Dt(H:Type) where
 bk:DataW H->Nat
 al:List (DataW H)->Nat
 one:∀d,1<=bk d
 cons:∀x r,al (x::r)=bk x+al r
 slice:∀es sp,al es+al sp+1<=bk (.slice es sp)
 agg:∀ps,al ps<=bk (.agg ps)
 str:∀s,s.length<=bk (.lit (.string s))
theorem Dt.le{H:Type}(k:Dt H):∀{l:List (DataW H)} {d:DataW H},d∈l->k.bk d<=k.al l
|[],_,h=>by cases h
|x::r,d,h=>by rw[k.cons];cases h with|head=>omega|tail _ h=>have:=k.le h;omega
theorem Dt.len{H:Type}(k:Dt H):∀(l:List (DataW H)),l.length<=k.al l
|[]=>by simp
|x::r=>by rw[k.cons];have:=k.len r;have:=k.one x;grind
inductive Sh where
 |b
 |i (k:IntKind)
 |s
 |l (row:List Sh)
mutual
def K9(B:Nat):Sh->PV->Prop
 |.b,p=>∃x,p=.bool x
 |.i k,p=>∃n,p=.int k n/\(Lit.int k n).wf=true
 |.s,p=>∃x,p=.str x/\x.length<=B
 |.l row,p=>∃rows spare,p=.sl rows spare/\rows.length+spare.length<=B/\(∀r∈rows,iR B row r)/\(∀r∈spare,iR B row r)
def iR(B:Nat):List Sh->List PV->Prop
 |[],ps=>ps=[]
 |s::ss,ps=>∃p r,ps=p::r/\K9 B s p/\iR B ss r
end
theorem iR.length{B:Nat}:∀{b:List Sh} {a:List PV},iR B b a->a.length=b.length
|[],a,h=>by grind[iR]
|s::b,a,h=>by obtain⟨p,r,rfl,_,h⟩:=h;simp[iR.length h]
theorem iR.append{B:Nat}:∀{d b:List Sh} {c a:List PV},iR B d c->iR B b a->iR B (d++b) (c++a)
|[],b,c,a,h,e=>by grind[iR]
|s::d,b,c,a,h,e=>by obtain⟨p,r,rfl,f,h⟩:=h;exact⟨p,r++a,rfl,f,iR.append h e⟩
def IU(P:Program)(f:TypeId->Option (List Sh)):Nat->List Field->Option (List Sh)
 |_,[]=>some []
 |off,x::xs=>match f x.type with
  |none=>none
  |some row=>match x.offset==off&&row.length==P.cellsOf x.type with
   |false=>none
   |true=>match IU P f (off+row.length) xs with
    |none=>none
    |some r=>some (row++r)
def mY(P:Program):Nat->TypeId->Option (List Sh)
 |0,_=>none
 |n+1,t=>match P.underlying t with
  |some .bool=>some [.b]
  |some (.int k)=>some [.i k]
  |some .string=>some [.s]
  |some (.slice e)=>match mY P n e with
   |none=>none
   |some row=>match row.length==P.cellsOf e&&decide (0<row.length)with
    |false=>none
    |true=>some [.l row]
  |some (.struct fs)=>match IU P (mY P n) 0 fs.toList with
   |none=>none
   |some row=>match row.length==P.cellsOf t with
    |false=>none
    |true=>some row
  |some (.array m e)=>match mY P n e with
   |none=>none
   |some row=>match row.length==P.cellsOf e&&m*row.length==P.cellsOf t with
    |false=>none
    |true=>some (List.replicate m row).flatten
  |_=>none
section
variable {H:Type} {enc:TypeId×Value->H} {held:Bool}
theorem vS{a:Addr}{v:Value}(h:w.cell? a=some v):a.spot=none/\a.block<w.heap.size/\∃c,ai w a.block=some c/\c[a.off]? =some v:=by unfold World.cell? at h;unfold ai;split at h;{rename_i c t f b;split at h;{cases h};refine⟨by simp_all,?_,c,by rw[b],h⟩;grind};cases h
theorem mZ(k:Dt H)(B:Nat):∀(p n:Nat) (t:TypeId) (row:List Sh) (u:List Value) (d:DataW H) (ps:List MemPlace),mY P n t=some row->DataW.trod enc P w 0 (fun _=>true) held p t u=some (d,ps)->k.bk d<=B->aM (fun b=>b<w.heap.size) w (sV d) u/\iR B row (sV d):=by intro p;induction p with|zero=>simp_all[DataW.trod]|succ p S=>intro n t row u d ps q h Q;cases n with|zero=>grind[mY]|succ n=>unfold mY at q;split at q;{grind[DataW.trod_bool,sV,aM,aD,iR,K9]};{grind[DataW.trod_int,sV,aM,aD,iR,K9]};{rename_i G;obtain⟨b,rfl,z,hw⟩:=DataW.trod_string G h;have:=k.str b.data.toList;grind[sV,aM,aD,iR,K9]};{rename_i e G;split at q;{cases q};rename_i I T;split at q;{cases q};rename_i D;cases q;simp at D;obtain⟨GD,pH⟩:=D;rcases DataW.trod_slice G h with⟨rfl,z⟩|⟨a,len,U,l,o,m,L,rfl,z,_,RH,_,af,h1,V,_⟩;{grind[sV,aM,aD,iR,K9]};obtain rfl:p=m:=by{omega};simp only[Prod.mk.injEq]at z;obtain⟨rfl,rfl⟩:=z;obtain⟨gZ,V⟩:=V rfl;have R6:=k.slice (l.map (·.1)) (o.map (·.1));have ag:=k.len (l.map (·.1));have O1:=k.len (o.map (·.1));have W:∀i x,(l++o)[i]? =some x->k.bk x.1<=B/\∃c,ai w a.block=some c/\(i=0->a.spot=none)/\a.block<w.heap.size/\∃u,u.length=P.cellsOf e/\(∀j v,u[j]? =some v->c[a.off+i*P.cellsOf e+j]? =some v)/\aM (fun b=>b<w.heap.size) w (sV x.1) u/\iR B I (sV x.1):=by{intro i x J;have mV:x∈l\/x∈o:=by{grind};have Yl:k.bk x.1<=B:=by{rcases mV with L|L;{have:=k.le (List.mem_map_of_mem (f:=(·.1)) L);omega};have:=k.le (List.mem_map_of_mem (f:=(·.1)) L);omega};have Ym:(w.cells? 0 (a.add (i*P.cellsOf e)) (P.cellsOf e)).bind (DataW.trod enc P w 0 (fun _=>true) held p e)=some x:=by{by_cases N:i<l.length;{grind};rw[List.getElem?_append_right (by omega)]at J;have R:i-l.length<o.length:=by{grind};have:=V (i-l.length) (by omega);simp_all};obtain⟨u,X,K⟩:=Option.bind_eq_some_iff.1 Ym;obtain⟨Y,Z⟩:=S n e I u x.1 x.2 T K Yl;obtain⟨_,uy,A⟩:=World.cells?_some X;have E:=A 0 (by omega);obtain⟨v0,pN⟩:∃v0,u[0]? =some v0:=⟨_,List.getElem?_eq_getElem (by omega)⟩;rw[pN]at E;have ah:∀n,(a.add n).block=a.block:=by{grind[Addr.add]};have QN:∀n m,((a.add n).add m).block=a.block:=by{grind[Addr.add]};have Dd:∀n m,((a.add n).add m).off=a.off+n+m:=by{grind[Addr.add]};obtain⟨ae,N,c,D,_⟩:=vS E;rw[QN]at N D;refine⟨Yl,c,D,?_,N,u,uy,?_,Y,Z⟩;{grind[Addr.add]};intro j v R;have Jj:j<P.cellsOf e:=by{grind};have:=A j Jj;rw[R]at this;obtain⟨_,_,c',E0,hv⟩:=vS this;simp_all};have Mc:(∀r∈iY (l.map (·.1)),iR B I r)/\(∀r∈iY (o.map (·.1)),iR B I r):=by{constructor;{intro r F;rw[jT,List.map_map]at F;obtain⟨x,z,rfl⟩:=List.mem_map.1 F;obtain⟨i,J⟩:=List.mem_iff_getElem?.1 (List.mem_append_left o z);grind};intro r F;rw[jT,List.map_map]at F;obtain⟨x,z,rfl⟩:=List.mem_map.1 F;obtain⟨i,J⟩:=List.mem_iff_getElem?.1 (List.mem_append_right l z);grind};have E6:(iY (l.map (·.1))).length=l.length/\(iY (o.map (·.1))).length=o.length:=by{simp[jT]};refine⟨?_,?_⟩;{simp only[sV,aM,aD];refine⟨_,_,rfl,⟨some a,U,by simp_all,by omega,?_⟩,rfl⟩;by_cases he:l++o=[];{simp_all[iY]};right;obtain⟨x0,Md⟩:∃x0,(l++o)[0]? =some x0:=by{grind};obtain⟨_,c,D,mG,N,_⟩:=W 0 x0 Md;have Yo:aK (P.cellsOf e) (iY (l.map (·.1))):=fun r F=>by{rw[(Mc.1 r F).length,GD]};have Yp:aK (P.cellsOf e) (iY (o.map (·.1))):=fun r F=>by{rw[(Mc.2 r F).length,GD]};refine⟨a.block,a.off,c,P.cellsOf e,by rw[<-mG rfl],N,D,Yo,Yp,?_,?_⟩;{refine bM.lV Yo fun i J=>?_;rw[E6.1]at J;obtain⟨_,c',E0,_,_,u,_,h5,h6,_⟩:=W i l[i] (by grind);grind[jT,dm.eD]};rw[E6.1];refine bM.lV Yp fun i J=>?_;rw[E6.2]at J;obtain⟨_,c',E0,_,_,u,_,h5,h6,_⟩:=W (l.length+i) o[i] (by grind);grind[jT,dm.eD]};grind[sV,iR,K9]};{rename_i fs G;split at q;{cases q};split at q;{cases q};rename_i D;cases q;simp at D;obtain⟨xs,m,L,z,uy,oX,FE⟩:=DataW.trod_struct G h;obtain rfl:p=m:=by{omega};simp at z;obtain⟨rfl,rfl⟩:=z;have R6:=k.agg (xs.map (·.1));have key:∀(M:List Field) (s:List (DataW H×List MemPlace)) (C:Nat) (row:List Sh),IU P (mY P n) C M=some row->s.length=M.length->k.al (s.map (·.1))<=B->C+row.length<=u.length->(∀(i:Nat) (f:Field),M[i]? =some f->DataW.trod enc P w 0 (fun _=>true) held p f.type ((u.drop f.offset).take (P.cellsOf f.type))=s[i]?)->aM (fun b=>b<w.heap.size) w (oc (s.map (·.1))) ((u.drop C).take row.length)/\iR B row (oc (s.map (·.1))):=by{intro M;induction M with|nil=>grind[IU,oc,aM,iR]|cons f M Xz=>intro s C row q hl Q ad K;cases s with|nil=>simp_all|cons y s=>unfold IU at q;split at q;{cases q};rename_i r1 Y;split at q;{cases q};rename_i lY;split at q;{cases q};rename_i r2 Z;cases q;simp at lY;obtain⟨Dd,O⟩:=lY;simp[k.cons]at Q;have E:=K 0 f rfl;simp at E;rw[Dd,<-O]at E;obtain⟨a1,a2⟩:=S n f.type r1 _ y.1 y.2 Y E (by omega);simp at ad;obtain⟨b1,b2⟩:=Xz s (C+r1.length) r2 Z (by simp_all) (by omega) (by omega) (fun i g hg=>by simpa using K (i+1) g (by simp_all));grind[oc,List.drop_drop,aM.append,iR.append]};grind[sV]};{rename_i m e G;split at q;{cases q};rename_i I T;split at q;{cases q};obtain⟨xs,m',L,z,uy,oX,FE⟩:=DataW.trod_array G h;obtain⟨rfl,rfl⟩:=z;have R6:=k.agg (xs.map (·.1));have key:∀(s:List (DataW H×List MemPlace)) (i:Nat),(∀j,j<s.length->DataW.trod enc P w 0 (fun _=>true) held p e ((u.drop ((i+j)*P.cellsOf e)).take (P.cellsOf e))=s[j]?)->k.al (s.map (·.1))<=B->aM (fun b=>b<w.heap.size) w (oc (s.map (·.1))) ((u.drop (i*P.cellsOf e)).take (s.length*P.cellsOf e))/\iR B (List.replicate s.length I).flatten (oc (s.map (·.1))):=by{intro s;induction s with|nil=>simp_all[oc,aM,iR]|cons y s IL=>intro i K Q;simp[k.cons]at Q;have E:=K 0 (by simp);simp at E;obtain⟨a1,a2⟩:=S n e I _ y.1 y.2 T E (by omega);obtain⟨b1,b2⟩:=IL (i+1) (fun j R=>by have:=K (j+1) (by simp_all);grind) (by omega);grind[oc,Nat.add_mul,List.drop_drop,aM.append,iR.append]};obtain⟨k1,k2⟩:=key xs 0 (fun j R=>by simp_all) (by omega);grind[sV]};grind
theorem qm(hl:laidOutB P=true){W i:World}(j:RowKit.Below W.heap.size W i){k:Nat->Bool}:∀{f:List TypeId} {c:List Value} {e:List (DataW H)} {b:List MemPlace},(f.all fun t=>P.readableRec t&&decide (t<P.types.size))=true->DataW.TrodAll enc P W 0 (fun _=>true) true f c e b->(∀x∈b,x.block<W.heap.size)->(∀x∈b,k x.block=true)->DataW.TrodAll enc P i 0 k true f c e b
|[],c,e,b,_,h,_,_=>by obtain⟨rfl,rfl,rfl⟩:=ChangeShapes.trodAll_nil h;rfl
|t::f,c,e,b,g,h,l,m=>by obtain⟨v,c,d,e,p,q,rfl,rfl,rfl,n,o⟩:=ChangeShapes.trodAll_cons h;simp only[List.all_cons,Bool.and_eq_true,decide_eq_true_eq]at g;exact⟨p,q,WideElems.Trod_stays hl g.1.1 g.1.2 n (fun x a=>j.same (l x (by simp[a]))) (fun x a=>m x (by simp[a])),qm hl j (by simp_all) o (fun x a=>l x (by simp[a])) (fun x a=>m x (by simp[a])),rfl⟩
theorem oY(hl:laidOutB P=true){W j:World}(k:RowKit.Below W.heap.size W j){m:Nat->Bool}:∀{b:List String} {o:List (DataW H)} {c:List MemPlace},RowKit.varsRowed P b=true->DataW.TrodVars enc P W (fun _=>true) b o c->(∀x∈c,m x.block=true)->DataW.TrodVars enc P j m b o c
|[],[],_,_,h,_=>h
|[],_::_,_,_,h,_=>h.elim
|_::_,[],_,_,h,_=>h.elim
|n::b,d::ds,c,v,h,r=>by have w:=h.lt;obtain⟨g,t,s,a,p,q,u,y,f,z,A,e⟩:=h;simp only[RowKit.varsRowed,List.all_cons,Bool.and_eq_true]at v;have l:P.readableRec t=true/\t<P.types.size:=by{grind};have B:∀x∈p,x.block<W.heap.size:=fun x i=>w x (by simp_all);have C:j.var? P n=some s:=by{unfold World.var? at f ⊢;rw[u]at f ⊢;simp at f ⊢;have D:g<W.heap.size:=by{grind};rw[k.block g D];exact f};exact⟨g,t,s,a,p,q,u,y,C,DataW.trod_stays (kids_book hl l.1) (book_sized l.1) (fun h=>by cases h) ⟨l.2,book_self t⟩ z (fun x i=>k.same (B x i)) (fun x i=>r x (by simp_all)),oY hl k (by grind[RowKit.varsRowed]) A (fun x i=>r x (by simp_all)),e⟩
end
end
section
open Go.ChangeShapes Go.RowKit
variable {G:Nat->Option (List PV)} {H:Type} {P:Program} {W:World} {a:Array Value} {c:Code} {f:FuncId} {s:ChangeSpec}
theorem xy{g:Func}{i:List PV}{d:PV}{w:World}{S:Nat->Prop}(j:P.funcs[f]? =some g)(k:g.body=some c)(q:(g.name== "runtime.NumGoroutine")=false)(l:bE P G f i d)(m:∀b,S b->b<w.heap.size)(n:rh G S w)(o:aM S w i a.toList): Calls P f a w fun e w'=>∃v,e=.returned v/\RowKit.Below w.heap.size w w'/\aD (fun b=>S b\/(w.heap.size<=b/\b<w'.heap.size)) w' d v:=by have h:=l S w a.toList m n o;unfold dN at h;have r:(callFunc f a.toList.toArray).run P w=.ok (.enter f a.toList.toArray) w:=by{have p:¬g.name= "runtime.NumGoroutine" :=by{simp_all};simp[callFunc,j,p,k]};simp_all
theorem Du{enc:TypeId×Value->H}{f:Func}{apart fresh c g:Bool}{i:World}{d:Array Value}{v:Value}{k l:List (DataW H)}{a pa pv:List MemPlace}(o:DataW.Whole enc P f.params.toList s.vars apart W d.toList k l a)(q:∀(b:Nat) (h:Nat->Bool) (z:Bool),DataW.TrodAll enc P i b h z f.resultTypes.toList (v.resultList f.resultTypes.size) (s.fn H (k++l)).results [])(u:∀h:Nat->Bool,(∀p∈a,h p.block=true)->DataW.TrodAll enc P i 0 h true f.params.toList d.toList (s.fn H (k++l)).args pa)(w:∀h:Nat->Bool,(∀p∈a,h p.block=true)->DataW.TrodVars enc P i h s.vars (s.fn H (k++l)).vars pv)(D:a=pa++pv)(x:Below W.heap.size W i)(A:∀(j:Nat) (t:TypeId) (r:Value),f.resultTypes[j]? =some t->(v.resultList f.resultTypes.size)[j]? =some r->Value.okWide P i .any 0 t r): s.post enc P f apart fresh c g W d v i:=by have B:∀p∈a,p.block<W.heap.size:=fun p m=>o.lt p m;have e:∀p∈a,(fun b=>decide (b<W.heap.size)) p.block=true:=fun p m=>by{simp_all};refine⟨k,l,a,[],pa,pv,o,q _ _ _,u _ e,w _ e,World.keptBut_mono (fun p m=>⟨m,?_⟩) (x.frame (·∈a)),fun _=>?_⟩;{simp_all};obtain⟨_,_,_,_,_,C,E⟩:=o;refine⟨A,_,_,([]++pa)++pv,⟨[]++pa,pv,trodAll_append (u _ (fun _ _=>rfl)) (q _ _ _),w _ (fun _ _=>rfl),rfl,?_,?_⟩,?_⟩;{intro b n m;have y:MemPlace.cell b n∈a:=by{simp_all};rw[x.frozen (B _ y)];exact C b n y};{simp_all};simp_all
theorem IV{enc:TypeId×Value->H}{i:Func}{apart fresh d j:Bool}{m n:List (DataW H)}{g:List MemPlace}{tb:TypeId}{o:List PV}(hl:laidOutB P=true)(y:P.funcs[f]? =some i)(z:i.body=some c)(A:(i.name== "runtime.NumGoroutine")=false)(B:bE P G f o (.bool true))(C:rh G (fun b=>b<W.heap.size) W)(D:aM (fun b=>b<W.heap.size) W o a.toList)(r:DataW.Whole enc P i.params.toList s.vars apart W a.toList m n g)(M:(i.params.toList.all fun t=>P.readableRec t&&decide (t<P.types.size))=true)(N:RowKit.varsRowed P s.vars=true)(u:i.resultTypes=#[tb])(k:P.underlying tb=some .bool)(E:s.fn H (m++n)=⟨[.lit (.bool true)],m,n⟩): Calls P f a W fun e w=>∃v,e=.returned v/\s.post enc P i apart fresh d j W a v w:=by refine(xy y z A B (fun _ h=>h) C D).mono fun e w ⟨v,F,I,J⟩=>⟨v,F,?_⟩;subst J;have l:=r;obtain⟨p,q,O,Q,rfl,R,K⟩:=r;have S:∀x∈p++q,x.block<W.heap.size:=fun x L=>l.lt x L;refine Du (pa:=p) (pv:=q) l ?_ ?_ ?_ rfl I ?_;{intro b U V;rw[u,E];exact trodAll_mk1 (shut_bool k true)};{grind[qm]};{grind[oY]};exact ok_one u rfl (okWide_bool_mk k true)
theorem zk{l:List (String×DataW Unit)}{e:List MemPlace}(k:Dt Unit)(B:Nat)(h:DataW.LaidVars P W l e)(o:∀g row,G g=some row->∃n d t f m,(n,d)∈l/\P.globalNamed n=some g/\(P.globals[g]?).map (·.type)=some t/\mY P m t=some f/\sV d=row/\k.bk d<=B):rh G (fun b=>b<W.heap.size) W:=by intro g row r;obtain⟨n,d,t,f,m,s,A,C,u,D,v⟩:=o g row r;have key:∀{l:List (String×DataW Unit)} {e:List MemPlace},DataW.LaidVars P W l e->(n,d)∈l->∃c a p,W.var? P n=some c/\DataW.trod (fun _=>()) P W 0 (fun _=>true) false a t c.toList=some (d,p):=by{intro l;induction l with|nil=>simp_all|cons x l w=>intro e hl i;obtain⟨E,F,c,a,p,q,H,I,y,j,z,_⟩:=hl;cases i with|head=>grind|tail _ i=>exact w z i};obtain⟨c,a,p,y,j⟩:=key h s;obtain⟨J,_⟩:=mZ k B a m t f c.toList d p u j v;grind[World.var?,ai,dm.eD,aM.length,Array.length_toList]
end
end Go.Am
namespace Go.bt
section
open Go Go.Am
structure aL where
 bay:Int
 row:Int
 deck:Bool
 dv:Int
 ko:Int
 tT:Int
 tU:Int
 kj:Int
 cq:List Int
 psp:List (List PV)
 x:Int
 y:Int
 z:Int
def aL.enc(c:aL):List PV:=[.int .i64 c.bay,.int .i64 c.row,.bool c.deck,.int .i64 c.dv,.int .i64 c.ko,.int .i64 c.tT,.int .i64 c.tU,.int .i64 c.kj,.sl (ints c.cq) c.psp,.int .i64 c.x,.int .i64 c.y,.int .i64 c.z]
structure bz where
 bay:Int
 rows:List Int
 rsp:List (List PV)
def bz.enc(c:bz):List PV:=[.int .i64 c.bay,.sl (ints c.rows) c.rsp]
structure Row where
 a:Int
 b:Int
 c:Int
 d:Int
 e:Int
def Row.enc(c:Row):List PV:=[.int .i64 c.a,.int .i64 c.b,.int .i64 c.c,.int .i64 c.d,.int .i64 c.e]
structure D8 where
 cD:Int
 x:Int
 y:Int
 z:Int
 MD:Int
 steps:List Int
 RI:List (List PV)
def D8.enc(c:D8):List PV:=[.int .i64 c.cD,.int .i64 c.x,.int .i64 c.y,.int .i64 c.z,.int .i64 c.MD,.sl (ints c.steps) c.RI]
structure bw where
 id:Int
 number:List UInt8
 size:Int
 high:Bool
 cD:Int
 load:Int
 discharge:Int
 cls:Int
 cK:Bool
def bw.enc(c:bw):List PV:=[.int .i64 c.id,.str c.number,.int .u8 c.size,.bool c.high,.int .i64 c.cD,.int .i64 c.load,.int .i64 c.discharge,.int .u8 c.cls,.bool c.cK]
structure Slot where
 column:Int
 cm:Int
 half:Int
def Slot.enc(c:Slot):List PV:=[.int .i64 c.column,.int .i64 c.cm,.int .u8 c.half]
structure aH where
 box:Int
 slot:Slot
def aH.enc(c:aH):List PV:=[.int .i64 c.box,.int .i64 c.slot.column,.int .i64 c.slot.cm,.int .u8 c.slot.half]
structure Rest where
 l1:Int
 l2:Int
 l3:Int
 l4:Int
 r:List (List PV)
 rsp:List (List PV)
 f:List (List PV)
 fsp:List (List PV)
 t:List (List PV)
 tsp:List (List PV)
 m1:Int
 m2:Int
 m3:Int
 m4:Int
def N7(i:Nat):Int:=8000024+(i:Int)
def marks:List Int:=(List.range 12).map N7
def aL.cV(c:aL):aL:={c with psp:=ints marks}
def bz.cV(c:bz):bz:={c with rsp:=ints marks}
def D8.cV(c:D8):D8:={c with RI:=ints marks}
def aL.mark(i:Nat):aL:=⟨N7 i,0,false,0,0,0,0,0,[],[],0,0,0⟩
def bz.mark(i:Nat):bz:=⟨N7 i,[],[]⟩
def D8.mark(i:Nat):D8:=⟨N7 i,0,0,0,0,[],[]⟩
def bw.mark(i:Nat):bw:=⟨N7 i,[],0,false,0,0,0,0,false⟩
def aH.mark(i:Nat):aH:=⟨N7 i,⟨0,0,0⟩⟩
end
section
open Go Go.Am Go.Proofs
def g4:List PV:=((List.replicate 128 240++List.replicate 66 241++List.replicate 30 2++[19,3,3,3,3,3,3,3,3,3,3,3,3,35,3,3,52,4,4,4,68,241,241,241,241,241,241,241,241,241,241,241]:List Int).map (PV.int .u8))
def g5:List PV:=(([128,191,160,191,128,159,144,191,128,143]++List.replicate 22 0:List Int).map (PV.int .u8))
def g6:List PV:=(([1,10,100,1000,10000,100000,1000000,10000000,100000000,1000000000,10000000000,100000000000,1000000000000,10000000000000,100000000000000,1000000000000000,10000000000000000,100000000000000000,1000000000000000000,10000000000000000000]:List Int).map (PV.int .u64))
def g9:List PV:=(([0,1,28,2,29,14,24,3,30,22,20,15,25,17,4,8,31,27,13,23,21,19,16,7,26,12,18,6,11,5,10,9]:List Int).map (PV.int .u8))
def g10:List PV:=(([0,1,56,2,57,49,28,3,61,58,42,50,38,29,17,4,62,47,59,36,45,43,51,22,53,39,33,30,24,18,12,5,63,55,48,27,60,41,37,16,46,35,44,21,52,32,23,11,54,26,40,15,34,20,31,10,25,14,19,9,13,8,7,6]:List Int).map (PV.int .u8))
def gE:List PV:=[.iface 388 (.ptr [])]
def GG(mx:Int):Nat->Option (List PV)
 |2=>some [.int .i64 mx]
 |3=>some g4
 |4=>some g5
 |5=>some gE
 |6=>some gE
 |7=>some g6
 |8=>some g9
 |9=>some g10
 |_=>none
theorem mixed:Tryz.prog.follows .mixedOrders=true:=by kernel_rfl
end
end Go.bt
namespace Go.Am
theorem T6{P:Program}{G:Nat->Option (List PV)}{A:Ar}{Q:Ex->St->Prop}{b:cf}{st0:St}{f:List Item}{α:Type}(dp:α->St->St)(J:α->Prop)(μ:α->Nat)(c:α)(i:Fg st0 (dp c st0))(j:J c)(h:∀a,J a->fw (CC P G) A (Hf P G) b (dp a st0) (de (CC P G) A (Hf P G) f Q (fun g=>∃d,J d/\μ d<μ a/\Fg g (dp d st0)))): (bp.loop b st0 f).holds (CC P G) A (Hf P G) Q:=by refine QH dp J μ c i j ?_;intro a k;refine fC (qp P G) b ?_ (h a k);intro e g l;cases e with|normal=>exact l|ret=>grind[jv,de]|exit id=>grind[de,iq,acx]
end Go.Am
namespace Go.bt
open Go Go.Am Go.Proofs
variable {accs:List Nat} {f:FuncId} {mx:Int}
abbrev cF(mx:Int)(accs:List Nat)(f:FuncId)(ac:cf)(eF:List RD)(nt:Nat):Prop:=gF Tryz.prog (GG mx) accs f=some (ac,eF,nt)
theorem kC{a:cf}{b:List RD}{c:Nat}(h:gF Tryz.prog (GG mx) accs f=some (a,b,c):=by kernel_rfl):cF mx accs f a b c:=h
abbrev pC(mx:Int)(f:FuncId)(ps:List PV)(res:PV):Prop:=bE Tryz.prog (GG mx) f ps res
def AZ(F:Ar->Prop):Prop:=∀a:BinOp->IntKind->Int->Int->Int,∀b:IntKind->Int->Int->Int,∀c:IntKind->Int->Int->Int,∀d:Int->Int->Bool,∀e:Int->Int->Bool,∀f:Int->Int->Bool,∀g:Bool->Bool,∀h:Int->Int->Int,∀i:Int->Int->Int,∀j:Int->Prop,∀k:Int->Prop,∀l:Nat->Int,∀m:List UInt8->Int,∀n:List UInt8->List UInt8->Prop,∀o:Int->Int->List UInt8->Prop,∀p:List UInt8->List UInt8->Bool,∀q:List UInt8->List UInt8->Bool,∀r:List (List PV)->List (List PV)->Nat->Nat->Prop,∀s:List (List PV)->List (List PV)->Prop,∀t:List PV->List PV->Bool,∀u:List Nat->List PV->List PV->Prop,∀v:List UInt8->List (List PV),∀w:List (List PV)->Prop,∀x:Int->Int->List (List PV)->List (List PV)->Nat->Prop,∀y:Int->Int->List (List PV)->Nat->Prop,∀z:Int->Int->Nat->Prop,∀A:List (List AV)->Int->List AV,∀B:Int->List (List AV)->Nat->Prop,∀C:List (List AV)->Int->Nat->List AV->List (List AV),∀D:List (List AV)->List (List AV)->List (List AV),∀E:List (List AV)->List (List AV)->Nat->Nat->Prop,∀G:List (List AV)->Int,∀H:Int->Nat->Prop,∀I:Nat->List (List PV)->List PV->Bool,∀J:Nat->List (List PV)->List PV->List PV->List PV,∀K:Nat->List (List PV)->List PV->Int,∀L:Nat->List (List PV)->List PV->List PV->List (List PV),∀M:Nat->List (List PV)->Int->List PV->List (List PV),∀N:Int->List (List PV)->Prop,∀O:List Nat->List (List PV)->Nat->Prop,∀P:List Nat->List (List PV)->Bool,∀Q:Bool->Nat->List (List PV)->Nat->PV,∀R:Bool->Nat->List (List PV)->Nat->PV,∀S:List UInt8->Int->Int,∀T:List UInt8->Int->Int,∀U:Int->Int->Int,aF.bits=a->aF.shl=b->aF.shr=c->aF.min=h->aF.max=i->aF.z6=k->aF.ofNat=l->aF.slt=q->aF.bytes=v->aF.R3=A->aF.ain=B->aF.Lq=C->aF.yT=D->aF.AL=E->aF.Lr=G->aF.yU=I->aF.HR=J->aF.mix=K->aF.sK=L->aF.PT=M->aF.min1=N->aF.mleft=O->aF.AM=P->aF.Ls=Q->aF.Lt=R->aF.rune=S->aF.C0=T->aF.Lu=U->∀V:Nat->List (List PV)->List PV->List PV->List (List PV),aF.HS=V->∀W:Nat->List (List PV)->List PV->List PV->PV,aF.xJ=W->aF.PS=H->∀X:Int->Nat->Nat,aF.off=X->aF.WD=z->∀Y:Int->List PV->List (List PV),aF.AK=Y->∀Z:List (List PV)->Int->Nat->List PV->List (List PV),aF.Gt=Z->aF.HP=u->aF.peq=t->∀yw:List Nat->Nat->List (List PV)->List PV->Prop,aF.CZ=yw->aF.sbd=o->∀zw:List UInt8->Int->Int->List UInt8,aF.Lp=zw->∀I9:List UInt8->List UInt8->List UInt8,aF.wZ=y->aF.Ln=n->aF.Lm=I9->∀yx:List (List PV)->List UInt8,aF.qE=w->aF.gN=yx->aF.Xg=x->aF.nz=j->∀lB:Int->List UInt8->Prop,∀tV:Int->Int->Int,aF.mul=tV->aF.Qn=s->∀yy:Int->Int->Int,aF.quo=yy->∀eo:List (List PV)->Int->Int->List (List PV),aF.sin=lB->∀km:List UInt8->Int->Int,aF.sat=km->∀oZ:Int->Int->Int,aF.rem=oZ->aF.uS=eo->∀l8:List (List PV)->Int,aF.oj=r->∀bJ:List (List PV)->List (List PV)->List (List PV),aF.oi=bJ->∀cP:Int->Int->Int,aF.sub=cP->∀df:Int->Int->Int,aF.add=df->∀bu:IntKind->Int->Int,aF.wrap=bu->∀aI:List (List PV)->Int->List PV,aF.rat=aI->∀aJ:Int->List (List PV)->Nat->Prop,aF.tu=aJ->aF.wY=m->aF.seq=p->aF.not=g->aF.le=e->aF.eq=f->aF.jA=l8->aF.lt=d->F ⟨bu,df,cP,tV,yy,oZ,a,b,c,d,e,f,g,h,i,j,k,l,m,km,lB,I9,n,zw,o,p,q,l8,aI,aJ,bJ,r,s,t,u,v,yx,w,eo,x,y,Z,Y,z,A,B,C,D,E,G,X,H,yw,I,J,W,K,V,L,M,N,O,P,Q,R,S,T,U⟩
theorem az{F:Ar->Prop}(h:AZ F):F aF:=h _ _ _ _ _ _ _ _ _ _ _ _ _ _ _ _ _ _ _ _ _ _ _ _ _ _ _ _ _ _ _ _ _ _ _ _ _ _ _ _ _ _ _ _ _ _ rfl rfl rfl rfl rfl rfl rfl rfl rfl rfl rfl rfl rfl rfl rfl rfl rfl rfl rfl rfl rfl rfl rfl rfl rfl rfl rfl rfl _ rfl _ rfl rfl _ rfl rfl _ rfl _ rfl rfl rfl _ rfl rfl _ rfl _ rfl rfl rfl _ rfl rfl rfl rfl _ _ rfl rfl _ rfl _ rfl _ rfl _ rfl rfl _ rfl _ rfl _ rfl _ rfl _ rfl _ rfl _ rfl rfl rfl rfl rfl rfl rfl rfl
theorem pZ{e:cf}{g:List RD}{b:Nat}{c:List PV}{a:PV}(i:cF mx accs f e g b)(h:AZ fun A=>bH (CC Tryz.prog (GG mx)) A (Hf Tryz.prog (GG mx)) [.code e] (rQ g a) .normal (Am.start b c))(d:Nat.ble c.length b=true:=by exact rfl):pC mx f c a:=E2 mixed i (Nat.le_of_ble_eq_true d) (az h:)
theorem pT{b:cf}{c:List RD}{a:Nat}{e:List PV}{d:PV}{T:Mj}(hT:∀f b c a,T f=some (b,c,a)->∃accs,gF Tryz.prog (GG mx) accs f=some (b,c,a))(i:cF mx accs f b c a)(h:AZ fun A=>oI (CC Tryz.prog (GG mx)) A (Hf Tryz.prog (GG mx)) T->bH (CC Tryz.prog (GG mx)) A (Hf Tryz.prog (GG mx)) [.code b] (rQ c d) .normal (Am.start a e))(g:Nat.ble e.length a=true:=by exact rfl):pC mx f e d:=E2 mixed i (Nat.le_of_ble_eq_true g) ((az h:) (eM mixed hT))
end Go.bt
namespace Go.Am
open Go Go.Am
variable {α:Type}
abbrev Pz(α:Type):=List Nat->α×List Nat
def dX:Pz Nat:=fun l=>match l with|[]=>(0,[])|x::r=>(x,r)
def rS:Pz Bool:=fun l=>match l with|[]=>(false,[])|x::r=>((match x with|0=>false|_=>true),r)
def Yu{α:Type}(p:Pz α):Nat->Pz (List α)
 |0,l=>([],l)
 |n+1,l=>match p l with|(x,r)=>match Yu p n r with|(xs,r)=>(x::xs,r)
def fV(p:Pz α):Pz (List α):=fun l=>match dX l with|(n,r)=>Yu p n r
def Dv(p:Pz α):Pz (Option α):=fun l=>match dX l with|(0,r)=>(none,r)|(_+1,r)=>match p r with|(x,r)=>(some x,r)
def ak4:Pz IntKind:=fun l=>match dX l with|(0,r)=>(.u8,r)|(1,r)=>(.i64,r)|(2,r)=>(.u32,r)|(_,r)=>(.u64,r)
def GS:Pz BinOp:=fun l=>match dX l with|(0,r)=>(.eql,r)|(1,r)=>(.lss,r)|(2,r)=>(.add,r)|(3,r)=>(.geq,r)|(4,r)=>(.gtr,r)|(5,r)=>(.sub,r)|(6,r)=>(.leq,r)|(7,r)=>(.rem,r)|(8,r)=>(.mul,r)|(9,r)=>(.shr,r)|(10,r)=>(.and,r)|(11,r)=>(.neq,r)|(_,r)=>(.quo,r)
def zUn:Pz UnOp:=fun l=>match dX l with|(_,r)=>(.not,r)
def Yv:List Int:=[0,1,-1,2,40,20,200,30,39,10,40000,500000000,1000000000000,-500000,500000,999999,3,6,12,5,4,13000,26000,2500,5000,2000,20000,7,13,120,8,410,100,104,48]
def T8:List UInt8:=[46,32,61,47,98,97,121,48,114,49,100,50,51,99,45,104,55,35,58]
def Bz{α:Type}(z:α):List α->Nat->α
 |[],_=>z
 |x::r,n=>match n with|0=>x|m+1=>Bz z r m
def zBy:List Nat->List UInt8
 |[]=>[]
 |n::r=>Bz 0 T8 n::zBy r
def T9:Nat->Pz PV
 |0,l=>(.mh,l)
 |f+1,l=>match dX l with
  |(0,r)=>match rS r with|(b,r)=>(.bool b,r)
  |(1,r)=>match ak4 r with|(k,r)=>match dX r with|(n,r)=>(.int k (Bz 0 Yv n),r)
  |(2,r)=>match fV dX r with|(s,r)=>(.str (zBy s),r)
  |(3,r)=>(.mh,r)
  |(4,r)=>(.yS,r)
  |(5,r)=>(.j8,r)
  |(6,r)=>(.oh,r)
  |(7,r)=>match dX r with|(g,r)=>match fV (T9 f) r with|(c,r)=>(.gM g c,r)
  |(8,r)=>match fV (T9 f) r with|(c,r)=>(.agg c,r)
  |(9,r)=>(.sl [] [],r)
  |(10,r)=>match fV (fV (T9 f)) r with|(a,r)=>match fV (fV (T9 f)) r with|(b,r)=>(.sl a b,r)
  |(11,r)=>match dX r with|(t,r)=>match T9 f r with|(v,r)=>(.iface t v,r)
  |(_,r)=>match fV (T9 f) r with|(c,r)=>(.ptr c,r)
def zP:Pz PV:=T9 9
def cA(p:Nat):Pz bR:=fun l=>match dX l with
 |(0,r)=>match zP r with|(p,r)=>(.k p,r)
 |(1,r)=>match fV zP r with|(p,r)=>(.g p,r)
 |(2,r)=>(.t p,r)
 |(3,r)=>(.t (p-1),r)
 |(4,r)=>(.t (p-2),r)
 |(5,r)=>(.t (p-3),r)
 |(n+6,r)=>(.t n,r)
def Yw(p:Nat):Pz (Nat×Nat×bR):=fun l=>match dX l with|(a,r)=>match dX r with|(b,r)=>match cA p r with|(x,r)=>((a,b,x),r)
def zOp(p:Nat):Nat->Pz wQ:=fun t r=>match t with
 |0=>match cA p r with|(x0,r)=>(.mv x0,r)
 |1=>match cA p r with|(x0,r)=>match Dv dX r with|(a,r)=>(.ld x0 a,r)
 |2=>match cA p r with|(x0,r)=>(.Ws x0,r)
 |3=>match cA p r with|(x0,r)=>match dX r with|(a,r)=>(.pad x0 a,r)
 |4=>match GS r with|(x0,r)=>match cA p r with|(a,r)=>match cA p r with|(b,r)=>(.bin x0 a b,r)
 |5=>match cA p r with|(x0,r)=>match dX r with|(a,r)=>(.ext x0 a,r)
 |6=>match cA p r with|(x0,r)=>(.len x0,r)
 |7=>match cA p r with|(x0,r)=>match cA p r with|(a,r)=>match dX r with|(b,r)=>(.idx x0 a b,r)
 |8=>match dX r with|(x0,r)=>match fV (cA p) r with|(a,r)=>(.call x0 a,r)
 |9=>match cA p r with|(x0,r)=>match cA p r with|(a,r)=>match dX r with|(b,r)=>(.st x0 a b,r)
 |10=>match dX r with|(x0,r)=>match fV (cA p) r with|(a,r)=>(.OS x0 a,r)
 |11=>match fV zP r with|(x0,r)=>match fV (Yw p) r with|(a,r)=>(.mk x0 a,r)
 |12=>match dX r with|(x0,r)=>match cA p r with|(a,r)=>match Dv (cA p) r with|(b,r)=>match Dv (cA p) r with|(c,r)=>(.Li x0 a b c,r)
 |13=>match dX r with|(x0,r)=>match dX r with|(a,r)=>match cA p r with|(b,r)=>match cA p r with|(c,r)=>(.app x0 a b c,r)
 |14=>match ak4 r with|(x0,r)=>match cA p r with|(a,r)=>(.Wt x0 a,r)
 |15=>match cA p r with|(x0,r)=>match dX r with|(a,r)=>(.box x0 a,r)
 |16=>match fV zP r with|(x0,r)=>(.alloc x0,r)
 |17=>match cA p r with|(x0,r)=>match dX r with|(a,r)=>match Dv dX r with|(b,r)=>(.SW x0 a b,r)
 |18=>match zUn r with|(x0,r)=>match cA p r with|(a,r)=>(.un x0 a,r)
 |19=>match cA p r with|(x0,r)=>(.lens x0,r)
 |20=>match cA p r with|(x0,r)=>match cA p r with|(a,r)=>match cA p r with|(b,r)=>(.pick x0 a b,r)
 |21=>match dX r with|(x0,r)=>match fV (cA p) r with|(a,r)=>(.c8 x0 a,r)
 |22=>match GS r with|(x0,r)=>match fV dX r with|(a,r)=>match cA p r with|(b,r)=>match cA p r with|(c,r)=>(.beq x0 a b c,r)
 |23=>match GS r with|(x0,r)=>match cA p r with|(a,r)=>match cA p r with|(b,r)=>(.CU x0 a b,r)
 |24=>match GS r with|(x0,r)=>match cA p r with|(a,r)=>match cA p r with|(b,r)=>(.ahI x0 a b,r)
 |25=>match cA p r with|(x0,r)=>(.Xe x0,r)
 |26=>match cA p r with|(x0,r)=>(.Wu x0,r)
 |27=>match cA p r with|(x0,r)=>(.Ql x0,r)
 |28=>match dX r with|(x0,r)=>match cA p r with|(a,r)=>(.Wv x0 a,r)
 |29=>match dX r with|(x0,r)=>match fV (cA p) r with|(a,r)=>(.SJ x0 a,r)
 |30=>match dX r with|(x0,r)=>match dX r with|(a,r)=>match fV zP r with|(b,r)=>match cA p r with|(c,r)=>match cA p r with|(d,r)=>(.SK x0 a b c d,r)
 |31=>match cA p r with|(x0,r)=>match Dv (cA p) r with|(a,r)=>match Dv (cA p) r with|(b,r)=>(.sH x0 a b,r)
 |32=>match cA p r with|(x0,r)=>match cA p r with|(a,r)=>match dX r with|(b,r)=>match dX r with|(c,r)=>(.Lj x0 a b c,r)
 |33=>match cA p r with|(x0,r)=>match cA p r with|(a,r)=>(.RX x0 a,r)
 |34=>match cA p r with|(x0,r)=>match fV (cA p) r with|(a,r)=>(.AF x0 a,r)
 |35=>match rS r with|(x0,r)=>match cA p r with|(a,r)=>match cA p r with|(b,r)=>(.RC x0 a b,r)
 |36=>match dX r with|(x0,r)=>match fV (cA p) r with|(a,r)=>(.CW x0 a,r)
 |37=>match dX r with|(x0,r)=>match fV (cA p) r with|(a,r)=>(.RE x0 a,r)
 |38=>match dX r with|(x0,r)=>match cA p r with|(a,r)=>match cA p r with|(b,r)=>(.UM x0 a b,r)
 |39=>match cA p r with|(x0,r)=>(.SQ x0,r)
 |40=>match cA p r with|(x0,r)=>match dX r with|(a,r)=>(.SU x0 a,r)
 |41=>match cA p r with|(x0,r)=>match cA p r with|(a,r)=>match dX r with|(b,r)=>(.RY x0 a b,r)
 |42=>match rS r with|(x0,r)=>match GS r with|(a,r)=>match cA p r with|(b,r)=>match cA p r with|(c,r)=>(.AG x0 a b c,r)
 |43=>match rS r with|(x0,r)=>match rS r with|(a,r)=>match dX r with|(b,r)=>(.SX x0 a b,r)
 |44=>(.Ww,r)
 |45=>match rS r with|(x0,r)=>match fV dX r with|(a,r)=>match dX r with|(b,r)=>match cA p r with|(c,r)=>match cA p r with|(d,r)=>match cA p r with|(e,r)=>(.Qm x0 a b c d e,r)
 |46=>match rS r with|(x0,r)=>match fV dX r with|(a,r)=>match zP r with|(b,r)=>match cA p r with|(c,r)=>match cA p r with|(d,r)=>(.sI x0 a b c d,r)
 |47=>match dX r with|(x0,r)=>match cA p r with|(a,r)=>match cA p r with|(b,r)=>match cA p r with|(c,r)=>(.AH x0 a b c,r)
 |48=>match rS r with|(x0,r)=>match fV dX r with|(a,r)=>match zP r with|(b,r)=>match rS r with|(c,r)=>match cA p r with|(d,r)=>match cA p r with|(e,r)=>(.Ll x0 a b c d e,r)
 |49=>match cA p r with|(x0,r)=>(.Wx x0,r)
 |50=>match cA p r with|(x0,r)=>(.Wy x0,r)
 |51=>match cA p r with|(x0,r)=>(.Wz x0,r)
 |52=>match cA p r with|(x0,r)=>(.WA x0,r)
 |53=>match cA p r with|(x0,r)=>(.Gr x0,r)
 |54=>match cA p r with|(x0,r)=>(.Gs x0,r)
 |55=>match cA p r with|(x0,r)=>(.FB x0,r)
 |56=>match dX r with|(x0,r)=>match fV zP r with|(a,r)=>(.sJ x0 a,r)
 |57=>match cA p r with|(x0,r)=>(.WB x0,r)
 |58=>match dX r with|(x0,r)=>match dX r with|(a,r)=>match cA p r with|(b,r)=>(.WC x0 a b,r)
 |59=>match GS r with|(x0,r)=>match cA p r with|(a,r)=>match cA p r with|(b,r)=>(.pp x0 a b,r)
 |60=>match cA p r with|(x0,r)=>(.SY x0,r)
 |61=>match dX r with|(x0,r)=>match cA p r with|(a,r)=>match cA p r with|(b,r)=>(.RZ x0 a b,r)
 |_=>match dX r with|(x0,r)=>match cA p r with|(a,r)=>match cA p r with|(b,r)=>(.AJ x0 a b,r)
def zAI(a:Nat):Pz AI:=fun l=>match dX l with
 |(h,r)=>match h%3 with
  |0=>match zOp a (h/3) r with|(o,r)=>(⟨some (a+1),o,none⟩,r)
  |1=>match zOp a (h/3) r with|(o,r)=>(⟨none,o,none⟩,r)
  |_=>match dX r with|(d,r)=>match dX r with|(g,r)=>match zOp a (h/3) r with|(o,r)=>(⟨(match d with|0=>none|n+1=>some n),o,(match g with|0=>none|n+1=>some (n/2,(match n%2 with|0=>false|_=>true)))⟩,r)
def Yx:Nat->Nat->Pz (List AI)
 |0,_,l=>([],l)
 |n+1,prev,l=>match zAI prev l with|(x,r)=>match Yx n (match x.d with|some d=>d|none=>prev) r with|(xs,r)=>(x::xs,r)
def Sa(k:Nat):List Nat->Bool
 |[]=>false
 |x::r=>match Nat.beq x k with|true=>true|false=>Sa k r
def Sb:List Nat->List Nat->List Nat
 |[],l=>l
 |k::r,l=>Sb r (match Sa k l with|true=>l|false=>l++[k])
def zEs(i:Nat)(a:List (List Nat)):List Nat->List Nat->List Nat
 |[],l=>l
 |d::r,l=>zEs i a r (Sb ((i-d)::Bz [] a (i-d)) l)
def zLt:Nat->Nat->List (List Nat)->Pz (List (List Nat))
 |0,_,a,l=>(a,l)
 |n+1,i,a,l=>match dX l with|(h,r)=>match Yu dX (h/2) r with|(e,r)=>zLt n (i+1) (a++[match h%2 with|0=>zEs i a e []|_=>e.map fun d=>i-d]) r
def vV:Nat->Pz cf
 |0,l=>(.skip,l)
 |f+1,l=>match dX l with
  |(0,r)=>(.skip,r)
  |(1,r)=>match dX r with|(n,r)=>match Yx n 0 r with|(o,r)=>match dX r with|(0,r)=>(.pA o none,r)|(_,r)=>match zLt n 0 [] r with|(t,r)=>(.pA o (some t),r)
  |(2,r)=>match vV f r with|(a,r)=>match vV f r with|(b,r)=>(.seq a b,r)
  |(3,r)=>match cA 0 r with|(c,r)=>match vV f r with|(a,r)=>match vV f r with|(b,r)=>(.cond c a b,r)
  |(4,r)=>match dX r with|(i,r)=>match vV f r with|(b,r)=>(.block i b,r)
  |(5,r)=>match vV f r with|(b,r)=>(.loop b,r)
  |(6,r)=>match dX r with|(i,r)=>(.exit i,r)
  |(_,r)=>(.ret,r)
def zT1:List (List Nat):=[[2],[0,2],[0],[4]]
def zT2:List (List (List Nat)):=[[[5],[3],[12],[1,2],[1],[11],[24],[9],[4,2],[6],[0,1,1],[14],[7],[0,7],[0,1],[3,2]],[[8],[0,2,1],[16],[10],[0,3],[13],[0,0],[5,2],[20],[21],[15],[2,1],[30],[0,6],[0,2,0,7],[1,2,2]],[[23],[2,2],[22],[0,9],[1,1],[1,1,2],[18],[0,8],[26],[60],[0,1,1,1,2],[1,2,1],[1,3,2],[0,2,0],[0,14],[19]],[[0,11],[47],[0,2,2,1],[28,2],[33],[39],[50],[1,3],[1,13],[0,2,0,2,1],[0,2,2],[4,3,2],[17],[0,12],[54],[0,16]],[[2,3,2],[28],[0,0,0,0],[3,2,0],[0,2,3],[0,3,2],[29],[18,2],[2,5],[45],[0,1,1,1],[0,0,2,1],[4,5],[2,1,2],[32],[25]],[[42],[0,3,0],[0,0,0,0,0,0],[0,13],[0,17],[0,2,0,2],[0,0,9],[63],[2,1,1,2,5],[2,12],[21,3,2],[0,1,1,0],[27],[0,0,0,0,0,7],[0,1,0],[0,6,0,2,4]],[[36],[12,2],[44],[4,3,2,1,4],[2,1,3,2],[34],[0,15],[3,1],[12,2,2],[0,0,0],[48],[102],[1,1,0,1,1],[9,9,1,1,0,1,1,0,1,1],[0,10],[2,0]],[[38],[31],[12,11],[0,2,0,1],[35],[0,0,1,1],[7,2],[0,2,17],[0,2,0,15],[0,24],[1,2,14],[18,2,0,0,1,1,0,0,4,0,5,2,1,1,14],[0,2,11],[59],[56],[6,2]],[[2,1,1,2,3],[0,2,2,1,3,2],[2,1,3],[0,2,13],[1,2,1,2],[1,2,1,4],[0,1,1,0,0],[12,5],[0,19],[0,0,4,2,1,2,1],[2,1,1,2],[1,3,2,0],[0,3,2,0],[41],[0,0,1,2],[9,2]],[[8,2],[12,2,3,2],[0,0,1,1,0,0],[7,0,2],[1,5],[72],[12,0,2],[33,3,1,1,0,1,1,0,1,1],[1,0,0],[62],[64],[14,14],[0,0,1,1,0],[2,1,2,2],[0,0,0,0,0,2,1],[40]],[[0,0,1,2,0,3],[1,1,0,1,1,0,0,0,1,1,0,1,1,0,1,1,0,1,1,0,1,1,0,9,1,1,0,1,1,0,1,1],[0,4],[0,18],[12,5,2],[37],[58],[66],[68],[139],[73],[4,0],[121],[53],[65],[87]]]
def zT3:List (List (List Nat)):=[[[43],[0,1,1,0,9],[135],[141],[1,4],[186],[109],[119],[52],[57],[105],[0,2,4],[55],[61],[71],[84]],[[83],[108],[70],[90],[130],[4,0,5,2],[129],[1,1,14],[67],[74],[76],[93],[113],[123],[1,1,0,1,1,0,1,1],[69]],[[112],[103],[144],[18,2,0,0,1,1,0,0],[82],[91],[179],[95],[96],[98],[99],[100],[101],[49],[46],[89]],[[120],[124],[195],[138],[131],[142],[51],[75],[80],[85],[94],[118],[78],[132],[275],[114]],[[81],[88],[104],[79],[115],[116],[86],[111],[33,3],[125],[297],[4,2,1,2,1],[364],[392],[420],[171]],[[97],[117],[164],[127],[212],[211],[136],[215],[77],[133],[107],[128],[146],[274],[143],[260]],[[210],[92],[156],[161],[221],[9,9],[264],[209],[208],[137],[217],[122],[225],[134],[106],[145]],[[147],[148],[150],[157],[153],[159],[170],[177],[173],[175],[176],[183],[184],[185],[191],[187]],[[290],[192],[193],[197],[198],[199],[205],[201],[206],[207],[213],[219],[220],[226],[165],[110]]]
def zW(k:List Nat):Nat->Nat->List Nat
 |0,_=>k
 |_,1=>k
 |f+1,n=>match Nat.blt (n%16) 4 with
  |true=>Bz [] zT1 (n%16)++zW k f (n/16)
  |false=>match Nat.blt (n%16) 15 with
   |true=>Bz [] (Bz [] zT2 (n%16-4)) (n/16%16)++zW k f (n/256)
   |false=>Bz [] (Bz [] zT3 (n/16%16)) (n/256%16)++zW k f (n/4096)
def zS:List Char->Nat->Nat
 |[],n=>n
 |c::r,n=>zS r (n*62+(match Nat.blt c.toNat 58 with|true=>c.toNat-48|false=>match Nat.blt c.toNat 91 with|true=>c.toNat-55|false=>c.toNat-61))
def dc(l:List Char):cf:=(vV 300 (zW [] 9999 (zS l 0))).1
def dL(s:String){l:List Char}{c:cf}(_:s=String.ofList l:=by rfl)(_:dc l=c:=by cbv):cf:=c
end Go.Am
