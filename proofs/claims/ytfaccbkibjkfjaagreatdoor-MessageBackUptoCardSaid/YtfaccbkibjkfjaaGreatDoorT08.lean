import Derived.RangeFuncIn
import Derived.RangeFuncRecord
import Derived.RangeFuncLeaves
import Derived.RangeFuncCalls
import Derived.OrdersIn
import Derived.TacticsIn
import Derived.Test.YtfaccbkibjkfjaaGreatDoorT07
set_option linter.all false
set_option maxRecDepth 100000
set_option maxHeartbeats 1000000
namespace Go.Am
section
variable {A:Ar} {C:CT} {I:IC} {Q:Ex->St->Prop} {a:List Item} {n:Nat} {p:Nat->Prop} {r:Int} {st:St}
def eW(p:Nat->Prop)(n:Nat)(r:Int):Prop:=((∀k,k<n->¬p k)/\r= -1)\/∃v,v<n/\p v/\(∀k,k<v->¬p k)/\r=Int.ofNat v
theorem eW.ex(p:Nat->Prop)(n:Nat):∃r,eW p n r:=by have:(∀k,k<n->¬p k)\/∃v,v<n/\p v/\∀k,k<v->¬p k:=by{induction n with|zero=>exact Or.inl (fun k h=>o_)|succ n f=>rcases f with h|⟨v,c,a,b⟩;{by_cases d:p n;{exact Or.inr ⟨n,o_,d,h⟩};left;intro k g;by_cases e:k=n;{subst e;exact d};exact h k o_};exact Or.inr ⟨v,o_,a,b⟩};rcases this with h|⟨v,c,a,b⟩;{exact⟨_,.inl ⟨h,rfl⟩⟩};exact⟨_,.inr ⟨v,c,a,b,rfl⟩⟩
theorem eW.at(h:eW p n r){v:Nat}(b:v<n)(a:p v)(c:∀k,k<v->¬p k):r=Int.ofNat v:=by rcases h with⟨h,-⟩|⟨u,g,d,e,f⟩;{exact absurd a (h v b)};rcases qcG u v with hl|hl|hl;{exact absurd d (c u hl)};{subst hl;exact f};exact absurd a (e v hl)
theorem eW.none(h:eW p n r)(a:∀k,k<n->¬p k):r= -1:=by rcases h with⟨-,h⟩|⟨u,b,c,d,e⟩;{exact h};exact absurd c (a u b)
theorem eW.iff(h:eW p n r):0<=r↔∃v,v<n/\p v:=by rcases h with⟨h,rfl⟩|⟨u,a,b,e,rfl⟩;{constructor;{intro h;omega};rintro⟨v,c,d⟩;exact absurd d (h v c)};constructor;{intro _;exact⟨u,a,b⟩};intro _;simp
theorem vW{x:AI}{a:List AI}{r:List Item}{b:St}(c:Fg st b)(h:bH C A I (.ops (x::a)::r) Q .normal b):bH C A I (.ops (x::a)::r) Q .normal st:=by simp only[bH,bP]at h ⊢;obtain⟨d,e,f⟩:=h;exact⟨d,Fg.trans c e,f⟩
theorem BA(h:bH C A I a Q .normal st):(bp.go st a).holds C A I Q:=h
theorem GU{st:Nat->St}(h:∀i,p i->bH C A I a Q .normal (st i)):(bp.all p st a).holds C A I Q:=h
theorem Fg.M0{s a:St}{id:Nat}{cs:List AV}{ps:List PV}(h1:aj s.mem id=some (.cells cs))(h2:AV.lQ cs=some ps)(b:s.AP id (j9 ps)=a):Fg s a:=b▸Fg.HU h1 h2
theorem Fg.ZC{s a:St}{id kn:Nat}{b c:Bool}{rows:R_}(h1:aj s.mem id=some (.map b c kn rows))(d:s.AP id (oF b c kn rows)=a):Fg s a:=d▸Fg.S4 h1
theorem Fg.sC{s s':St}{id sz ver:Nat}{rs:R_}(h1:aj s.mem id=some (.rows sz rs ver))(a:s.AP id (iP rs ver)=s'):Fg s s':=a▸Fg.AQ h1
end
section
open Go Go.Am
variable {A:Ar} {G:Nat->Option (List PV)} {P:Program} {Q:Ex->St->Prop} {d:Option Nat} {f:FuncId} {st:St} {x:AV}
theorem vX(c:∀v w,(callFunc f #[v]).run P w=.ok (.value v) w){K:AV->St->Prop}(d:K x st):Hf P G f [x] st K:=by intro w0 own0 hvs S0 γ S a w vs e g hs b;simp only[au]at b;obtain⟨v,r,rfl,h,rfl⟩:=b;unfold dN;rw[show([v]:List Value).toArray=#[v] from rfl,c v w];exact⟨x,st,γ,S,d,e,g,hs,h⟩
theorem acS{a:List Item}(b:∀v w,(callFunc f #[v]).run P w=.ok (.value v) w)(c:bH (CC P G) A (Hf P G) a Q .normal (st.put d x)):(bp.call f [x] d st a).holds (CC P G) A (Hf P G) Q:=.inr (vX b c)
theorem Yf{a:List AV}{c:List Item}(h:Hf P G f a st (fun v b=>bH (CC P G) A (Hf P G) c Q .normal (b.put d v))):(bp.call f a d st c).holds (CC P G) A (Hf P G) Q:=.inr h
end
variable {P:Program} {G:Nat->Option (List PV)} {accs:List Nat} {γ γ':Nat->Option Nat} {S:Nat->Prop} {w:World} {m':List (Option Obj)} {l n:Nat} {w0:World} {own0:Nat->Prop} {hvs:List Value×List Deferred} {S0:Nat->Prop} {st:St} {a:Act} {D:Nat} {F:Ex->St->Prop} {K:List (Ev×eP)->Prop} {Q:Exit->Act->World->Prop} {S':Nat->Prop} {W:World} {b:List (Nat×R_)} {c:Code} {d:List RD} {e:List (Nat×R_)} {f:FuncId} {i:List AI} {k:cf} {m:List (Nat×R_)} {ps:List PV} {r:Loop} {rs:List AV} {s:St} {t:Nat} {v:Value} {w':World} {x:AV} {α:Type} {ρ:AV->Value->Prop}
abbrev BI:=FuncId->List PV->Option PV
section
variable (T:Mj) (B:BI)
def zz(lt:List (List Nat))(c:Nat):Nat->Nat->List (List Bool)
 |_,0=>[[]]
 |i,n+1=>match(i==c)||(lt.getD i []).contains c with
  |true=>(zz lt c (i+1) n).map (false::·)
  |false=>match(lt.getD c []).contains i with
   |true=>(zz lt c (i+1) n).map (true::·)
   |false=>(zz lt c (i+1) n).map (false::·)++(zz lt c (i+1) n).map (true::·)
def Jg(lt:List (List Nat))(Z:List Bool):Bool:=(List.range Z.length).all fun i=> !(Z.getD i false)||(lt.getD i []).all fun k=>Z.getD k false
end
section
variable {C:CT} {I:IC} {T:Mj} {B:BI} {ox pf hs:FuncId->Bool} (hI:Gv I) (hT:oI C aF I T) (hB:∀f ps res,B f ps=some res->C f ps none res) (hid:∀f,ox f=true->∀x st K,K x st->I f [x] st K)
include hI hT hB hid
omit hI hT hB hid in
omit hI hT hB hid in
omit hI hT hB hid in
omit hI hT hB hid in
theorem BH(lt:List (List Nat))(c:Nat):∀(n i:Nat) (Z:List Bool),Z.length=n->(∀j,j<n->(i+j=c\/c∈lt.getD (i+j) [])->Z.getD j false=false)->(∀j,j<n->i+j∈lt.getD c []->¬(i+j=c\/c∈lt.getD (i+j) [])->Z.getD j false=true)->Z∈zz lt c i n
|0,i,Z,hl,_,_=>by rw[qcE]at hl;subst hl;simp[zz]
|n+1,i,[],hl,_,_=>by simp at hl
|n+1,i,b::Z,hl,h1,h2=>by have e:Z∈zz lt c (i+1) n:=BH lt c n (i+1) Z (by simpa using hl) (fun j f h=>by have:=h1 (j+1) o_ (by rwa [show i+(j+1)=i+1+j by omega]);simpa using this) (fun j f h l=>by have:=h2 (j+1) o_ (by rwa [show i+(j+1)=i+1+j by omega]) (by rwa [show i+(j+1)=i+1+j by omega]);simpa using this);unfold zz;split;{rename_i a;simp only[qb7,qbA,qbS]at a;have d:=h1 0 o_ (by simpa using a);simp at d;subst d;exact qaw.2 ⟨Z,e,rfl⟩};rename_i a;simp only[Bool.or_eq_false_iff,qar,ne_eq]at a;have g:¬(i=c\/c∈lt.getD i []):=by{rintro(h|h);{exact a.1 h};have:=qbS.2 h;rw[a.2]at this;cases this};split;{rename_i k;have d:=h2 0 o_ (by simpa using qbS.1 k) (by simpa using g);simp at d;subst d;exact qaw.2 ⟨Z,e,rfl⟩};cases b;{exact qcU _ (qaw.2 ⟨Z,e,rfl⟩)};exact List.mem_append_right _ (qaw.2 ⟨Z,e,rfl⟩)
end
def PM(a:List RD)(b:List (B_×PV)):Ex->St->Prop
 |.exit _,_=>False
 |_,st=>∃id,lT a st=some (.fr id)/\aj st.mem id=some (.iw (b.map fun x=>(x.1,.pv x.2)))
theorem fM.rows{S S':Nat->Prop}{w:World}{ρ:AV->Value->Prop}(hl:bf S w S' w):∀{b:List (B_×PV)} {a:List MapEntry},fM S w ρ (b.map fun x=>(x.1,.pv x.2)) a->bV S' w false false 1 (b.map fun x=>[.str x.1,x.2]) a
|[],a,h=>by simpa only[qaF,fM,bV]using h
|(s,p)::b,a,h=>by simp only[qaj,fM]at h;obtain⟨e,t,rfl,h1,h2,c⟩:=h;simp only[qaj,bV];simp only[lF]at h2;refine⟨e,t,[e.key],[e.val],rfl,?_,rfl,rfl,rfl,rfl,rfl,fM.rows hl c⟩;simp only[List.singleton_append,aM,aD];exact⟨_,_,rfl,h1,e.val,[],rfl,aD.later hl p h2,rfl⟩
theorem V7(I:P.follows .mixedOrders=true){m:Func}{u:cf}{q:List RD}{g:Nat}(y:P.funcs[f]? =some m)(d:m.body=some c)(J:(m.name== "runtime.NumGoroutine")=false)(K:bD P G accs c=some u)(L:fe P m.results.toList=some q)(z:m.ntmps=g){o:List (B_×PV)}(mE:ps.length<=g)(h:bH (CC P G) aF (Hf P G) [.code u] (PM q o) .normal (start g ps)):bE P G f ps (.mp false false 1 (o.map fun x=>[.str x.1,x.2])):=by intro S w r M N A;have n:=aM.uE A;unfold dN;have O:(callFunc f r.toArray).run P w=.ok (.enter f r.toArray) w:=by{have Q:¬m.name= "runtime.NumGoroutine" :=by{simpa using J};simp[callFunc,run_program,y,Q,d]};rw[O];simp only;refine qdc y d ?_;have R:ft w (fun _=>False) ([],[]) G S (start g ps) {tmps:=r.toArray++Array.replicate (m.ntmps-r.toArray.size) undef,defers:=[]} w:=by{have T:∀id,aj (start g ps).mem id=none:=by{intro id;simp only[start,aj,List.getD_eq_getElem?_getD,qbD];split<;>rfl};refine⟨fun _=>none,S,fun _ h=>h,fun _ h=>.inl h,{size:=?_,slot:=?_,held:=?_,defers:=rfl,mem:=?_,lU:=?_,inj:=?_,own:=?_,bound:=M,eJ:=?_,jn:=N,kept:=fun _ _ _=>rfl,os:=rfl,tape:=rfl,output:=rfl,eY:=qak _}⟩;{simp[start,n,z]};{intro i;have:=xD (nt:=g) (ρ:=Ref (fun _=>none) S w (start g ps).mem) A (g-ps.length) i;rw[z];simpa[start,St.slot,n]using this};{simp only[start,au]};{intro id ob B;rw[T id]at B;cases B};{intro i b d;cases d};{intro i j b d;cases d};{intro i b d;cases d};intro i b d;cases d};refine nH I c K R (Qa:=PM q o) h ?_;intro e p C w' U t;obtain⟨γ,S',bg,Cy,a⟩:=U;have key:(∃id,lT q p=some (.fr id)/\aj p.mem id=some (.iw (o.map fun x=>(x.1,.pv x.2))))->C.defers=[]/\∃v,(results m C.tmps).run P w'=.ok v w'/\∃D,Ending.returned v=.returned D/\(RowKit.Below w.heap.size w w'/\aD (fun b=>S b\/(w.heap.size<=b/\b<w'.heap.size)) w' (.mp false false 1 (o.map fun x=>[.str x.1,x.2])) D):=by{rintro⟨id,V,E⟩;obtain⟨v,W,F⟩:=vN a L V;refine⟨a.defers,v,W,v,rfl,⟨a.os,a.tape,a.output,a.eY,fun k s=>a.kept k s (fun h=>h)⟩,?_⟩;have hl:bf S' w' (fun b=>S b\/(w.heap.size<=b/\b<w'.heap.size)) w':=fun k s=>⟨by rcases Cy k s with l|l|l;{exact .inl l};{exact .inr ⟨l,a.bound k s⟩};exact l.elim,rfl,rfl⟩;have H:=a.mem id _ E;simp only[eK]at H;obtain⟨b,X,Y,g1,g2,Z,g4⟩:=H;simp only[lF,Ref,E]at F;obtain⟨b',g5,rfl⟩:=F;rw[g1]at g5;cases g5;simp only[aD];refine⟨b,X,Y,rfl,?_,by simp[YB,g2],Z,fM.rows hl g4⟩;rcases(a.own id b g1).2 with l|l;{exact .inr ⟨l,a.eJ id b g1⟩};exact l.elim};cases e with|normal=>exact key t|ret=>exact key t|exit id=>exact t.elim
theorem ahL{b:cf}{a:Nat}(e:P.follows .mixedOrders=true)(h:gF P G accs f=some (b,d,a)){rs:List (B_×PV)}(g:ps.length<=a)(i:bH (CC P G) aF (Hf P G) [.code b] (PM d rs) .normal (start a ps)):bE P G f ps (.mp false false 1 (rs.map fun x=>[.str x.1,x.2])):=by obtain⟨p,c,j,k,l,m,n,o⟩:=acy h;exact V7 e j k l m n o g i
theorem akv{C:CT}{A:Ar}{I:IC}{a:List RD}{b:List (B_×PV)}(id:Nat)(h1:lT a s=some (.fr id))(h2:aj s.mem id=some (.iw (b.map fun x=>(x.1,.pv x.2)))):(bp.fin .ret s).holds C A I (PM a b):=⟨id,h1,h2⟩
def Q4(n:Nat):AV->AV
 |.c8 i v=>.c8 (n+i) v
 |.pv p=>.pv p
 |.full r=>.full r
 |_=>.dead
def ZF(n:Nat):AV->AV
 |.agg cs=>.agg (cs.map (Q4 n))
 |x=>Q4 n x
def ZG(n:Nat):AV->AV
 |.eN cs=>.eN (cs.map (ZF n))
 |x=>ZF n x
theorem tX{i:Nat}{a:Obj}(h:aj (eU b) i=some a):∃c d,a=.rows c d 0:=by unfold aj eU at h;grind
theorem nN{m:List (Option Obj)}(i:Nat):aj (m++m') i=if i<m.length then aj m i else aj m' (i-m.length):=by unfold aj;grind
section
variable {m:List (Option Obj)}
theorem Fk(hγ:∀i,γ' (m.length+i)=γ i)(h:lF S w (Ref γ S w m') x v):lF S w (Ref γ' S w (m++m')) (Q4 m.length x) v:=by cases x with|c8 i a=>simp only[Q4,lF,Ref]at h ⊢;rw[nN,qai o_,qcC,hγ];grind|pv p=>simpa only[Q4,lF]using h|full r=>simpa only[Q4,lF]using h|_=>simp only[Q4,lF]
theorem BJ(hγ:∀i,γ' (m.length+i)=γ i):∀{b:List AV} {a:List Value},au S w (Ref γ S w m') b a->au S w (Ref γ' S w (m++m')) (b.map (Q4 m.length)) a
|[],a,h=>by simpa only[qaF,au]using h
|x::b,a,h=>by simp only[qaj,au]at h ⊢;obtain⟨v,r,rfl,h1,h2⟩:=h;exact⟨v,r,rfl,Fk hγ h1,BJ hγ h2⟩
theorem Fl(hγ:∀i,γ' (m.length+i)=γ i)(h:lF S w (Ref γ S w m') x v):lF S w (Ref γ' S w (m++m')) (ZF m.length x) v:=by cases x with|agg cs=>simp only[ZF,lF]at h ⊢;obtain⟨a,rfl,h⟩:=h;exact⟨a,rfl,BJ hγ h⟩|_=>exact Fk hγ h
theorem BK(hγ:∀i,γ' (m.length+i)=γ i):∀{b:List AV} {a:List Value},au S w (Ref γ S w m') b a->au S w (Ref γ' S w (m++m')) (b.map (ZF m.length)) a
|[],a,h=>by simpa only[qaF,au]using h
|x::b,a,h=>by simp only[qaj,au]at h ⊢;obtain⟨v,r,rfl,h1,h2⟩:=h;exact⟨v,r,rfl,Fl hγ h1,BK hγ h2⟩
theorem Na(hγ:∀i,γ' (m.length+i)=γ i)(h:lF S w (Ref γ S w m') x v):lF S w (Ref γ' S w (m++m')) (ZG m.length x) v:=by cases x with|eN cs=>simp only[ZG,lF]at h ⊢;obtain⟨a,rfl,h⟩:=h;exact⟨a,rfl,BK hγ h⟩|_=>exact Fl hγ h
end
theorem yD{ρ':AV->Value->Prop}{id b:Nat}{a:Obj}(e:∃c d,a=.rows c d 0)(hγ:γ' b=γ id)(h:eK γ S w ρ id a):eK γ' S w ρ' b a:=by obtain⟨c,d,rfl⟩:=e;simp only[eK]at h ⊢;grind
theorem BL{q:List AV}{K:AV->St->Prop}{z:List (Nat×R_)}{r:AV}(L:oQ P G f ps z r)(hl:dB st.mem q=some (ps,false))(M:K (ZG st.mem.length r) ⟨st.slots,st.held,st.base,st.mem++eU z⟩):Hf P G f q st K:=by intro w0 own0 hvs S0 γ S a w vs bg Cy m N;have O:aM S w ps vs:=aM.later (fun b p=>⟨p.elim id (fun h=>nomatch h.1),rfl,rfl⟩) _ (ac5 m hl N);refine dN.mono (fun v w' Q=>?_) (L S w vs m.bound m.jn O);obtain⟨p,γf,s,D,E,t,R,T,U⟩:=Q;obtain⟨e,Y,hρ⟩:=dW.grow m (w':=w') (S':=s) p.block p.size p.os p.tape p.output D E;obtain⟨n,F⟩:∃n,n=st.mem.length:=⟨_,rfl⟩;(obtain⟨γ',hγ'⟩:∃γ':Nat->Option Nat,γ'=fun i=>if i<n then γ i else γf (i-n):=⟨_,rfl⟩);have B:∀i,i<n->γ' i=γ i:=fun i c=>by{rw[hγ'];simp[c]};have C:∀i,γ' (n+i)=γf i:=fun i=>by{rw[hγ'];show(if n+i<n then _ else _)=_;rw[qai o_,qcC]};have H:∀i b,γ i=some b->i<n:=fun i b c=>by{rw[F];cases l:aj st.mem i with|none=>exact absurd l (m.lU i b c)|some o=>exact mS l};have u:∀i b,γ' i=some b->(i<n/\γ i=some b)\/∃j,i=n+j/\γf j=some b:=fun i b c=>by{by_cases I:i<n;{rw[B i I]at c;exact .inl ⟨I,c⟩};obtain⟨j,rfl⟩:∃j,i=n+j:=⟨i-n,o_⟩;rw[C]at c;exact .inr ⟨j,rfl,c⟩};have hρ2:∀x v,Ref γ s w' st.mem x v->Ref γ' s w' (st.mem++eU z) x v:=Ref.later (bf.refl s w') (fun id J l=>by have V:=mS l;exact⟨by rw[nN,qao V];exact l,B id o_,fun _ _=>⟨rfl,rfl⟩⟩);refine⟨ZG st.mem.length r,_,γ',s,M,fun b p=>D b (bg b p),?_,?_,?_⟩;{intro b W;rcases E b W with h|h;{exact Cy b h};have:=m.eY;exact .inr (.inl o_)};{exact{size:=e.size,slot:=fun i=>lF.later (bf.refl s w') hρ2 _ (e.slot i),held:=au.later (bf.refl s w') hρ2 _ e.held,defers:=e.defers,mem:=fun id J l=>by simp only[nN]at l;by_cases c:id<st.mem.length;{rw[qao c]at l;exact eK.later (bf.refl s w') hρ2 (B id o_) (fun _ _=>rfl) (e.mem id J l)};rw[qai c]at l;have A:=C (id-st.mem.length);rw[show n+(id-st.mem.length)=id by omega]at A;exact yD (tX l) A (T _ _ l),lU:=fun i b c=>by simp only[nN];rcases u i b c with⟨h,d⟩|⟨j,rfl,d⟩;{rw[qao o_];exact m.lU i b d};rw[qai o_,show n+j-st.mem.length=j by omega];have:=(t j b d).1;unfold aj eU;rw[List.getD_eq_getElem?_getD,List.getElem?_map,qag this];simp,inj:=fun i j b c A=>by rcases u i b c with⟨h,d⟩|⟨k,rfl,d⟩<;>rcases u j b A with⟨g,y⟩|⟨X,rfl,y⟩;{exact m.inj i j b d y};{have:=m.eJ i b d;have:=(t _ b y).2.2.1;omega};{have:=m.eJ j b y;have:=(t _ b d).2.2.1;omega};rw[R k X b d y],own:=fun i b c=>by rcases u i b c with⟨h,d⟩|⟨j,rfl,d⟩;{exact e.own i b d};have:=(t j b d).2;have:=m.eY;exact⟨(t j b d).2.1,.inl o_⟩,bound:=e.bound,eJ:=fun i b c=>by rcases u i b c with⟨h,d⟩|⟨j,rfl,d⟩;{exact e.eJ i b d};exact(t j b d).2.2.2,jn:=e.jn,kept:=e.kept,os:=e.os,tape:=e.tape,output:=e.output,eY:=e.eY}};exact Na (γ:=γf) (fun i=>by rw[<-F];exact C i) U
theorem CA{A:Ar}{Q:Ex->St->Prop}{a:List AV}{d:Option Nat}{b:List Item}{c:List (Nat×R_)}{r:AV}(h:dB st.mem a=some (ps,false))(e:oQ P G f ps c r)(g:bH (CC P G) A (Hf P G) b Q .normal (St.put ⟨st.slots,st.held,st.base,st.mem++eU c⟩ d (ZG st.mem.length r))):(bp.call f a d st b).holds (CC P G) A (Hf P G) Q:=.inr (BL e h g)
def ahR:List Value->Value
 |[u]=>u
 |us=>.tuple us.toArray
theorem Nb:∀{b:List AV} {a:List Value},au S w ρ b a->lF S w ρ (one? b) (ahR a)
|[],a,h=>by simp only[au]at h;subst h;simp only[one?,ahR,lF];exact⟨[],s_,by simp only[au]⟩
|[x],a,h=>by simp only[au]at h;obtain⟨u,r,rfl,c,rfl⟩:=h;exact c
|x::y::z,a,h=>by have d:=h;simp only[au]at h;obtain⟨u,_,rfl,_,e,f,rfl,_⟩:=h;simp only[one?,ahR,lF];exact⟨_,rfl,d⟩
theorem BN(h:dW w0 own0 hvs G γ S st a w){c:Func}{f:List AV}(g:fe P c.results.toList=some d)(i:mN st d=some f):∃b,(results c a.tmps).run P w=.ok (ahR b) w/\au S w (Ref γ S w st.mem) f b:=by obtain⟨b,j,k⟩:=vM h g i;refine⟨b,?_,k⟩;have l:(results c a.tmps).run P w=.ok (if m:b.toArray.size=1 then b.toArray[0]else .tuple b.toArray) w:=by{have e:c.results=c.results.toList.toArray:=s_;unfold results;rw[e,List.mapM_toArray];simp only[Sem.run_bind,Sem.run_map,Sem.run_pure,map_eq_pure_bind];exact congrArg (fun r=>Result.andThen (Result.andThen r (fun(a:List Value) w'=>.ok a.toArray w')) (fun a w'=>.ok (if h:a.size=1 then a[0]else Value.tuple a) w')) j};rw[l];rcases b with _|⟨x,_|⟨y,z⟩⟩<;>simp[ahR]
def ri(d:List RD)(e:List (Nat×R_))(c:List AV):Ex->St->Prop
 |.exit _,_=>False
 |_,st=>∃a b,mN st d=some a/\Fg ⟨st.slots,a++st.held,st.base,st.mem⟩ b/\b.mem=eU e/\c.length=a.length/\∃t,b.held=c++t
def Nc(S:Nat->Prop)(w:World)(a:List (Nat×R_))(r:AV)(v:Value)(w':World):Prop:=
 RowKit.Below w.heap.size w w'/\∃(γ:Nat->Option Nat) (S':Nat->Prop),(∀b,S b->S' b)/\(∀b,S' b->S b\/(w.heap.size<=b/\b<w'.heap.size))/\
   (∀i b,γ i=some b->i<a.length/\¬S' b/\w.heap.size<=b/\b<w'.heap.size)/\(∀i j b,γ i=some b->γ j=some b->i=j)/\
   (∀i c,aj (eU a) i=some c->eK γ S' w' (fun _ _=>True) i c)/\lF S' w' (Ref γ S' w' (eU a)) r v
theorem s7{x:Func}{y:List RD}(D:fe P x.results.toList=some y){a:St}{l:Act}{j:List AV}(E:ft w (fun _=>False) hvs G S a l w')(F:∃e n,mN a y=some e/\Fg ⟨a.slots,e++a.held,a.base,a.mem⟩ n/\n.mem=eU m/\j.length=e.length/\∃t,n.held=j++t):∃v,(results x l.tmps).run P w'=.ok v w'/\Nc S w m (one? j) v w':=by obtain⟨e,N,H,I,p,f,t,J⟩:=F;obtain⟨γ0,S0,bg,Cy,q⟩:=E;obtain⟨r,K,z⟩:=BN q D H;obtain⟨γ,S',bg,Cy,c⟩:=mo I (⟨γ0,S0,bg,Cy,{q with held:=au.append z q.held}⟩:ft w (fun _=>False) (r++hvs.1,hvs.2) G S ⟨a.slots,e++a.held,a.base,a.mem⟩ l w');have A:=c.held;rw[J]at A;have s:r.length=j.length:=by{rw[f];exact au.length z};have u:=(au.cut A).1;rw[s,qcd]at u;refine⟨ahR r,K,⟨c.os,c.tape,c.output,c.eY,fun k L=>c.kept k L (fun h=>h)⟩,γ,S',bg,?_,?_,c.inj,?_,?_⟩;{intro b B;rcases Cy b B with g|g|g;{exact .inl g};{exact .inr ⟨g,c.bound b B⟩};exact g.elim};{intro i b d;refine⟨?_,(c.own i b d).1,(c.own i b d).2.elim id (fun h=>h.elim),c.eJ i b d⟩;have C:=c.lU i b d;rw[p]at C;cases hm:aj (eU m) i with|none=>exact absurd hm C|some o=>have:=mS hm;simpa[eU]using this};{intro i M d;exact yD (tX d) rfl (c.mem i M (by rw[p];exact d))};rw[p]at u;exact Nb u
theorem yE{d:List Value}{a:Nat}(e:n=a)(g:∀b,S b->b<w.heap.size)(j:rh G S w)(f:aM S w ps d)(k:ps.length<=a): ft w (fun _=>False) ([],[]) G S (start a ps) {tmps:=d.toArray++Array.replicate (n-d.toArray.size) undef,defers:=[]} w:=by have c:=aM.uE f;have l:∀id,aj (start a ps).mem id=none:=by{intro id;simp only[start,aj,List.getD_eq_getElem?_getD,qbD];all_goals grind};refine⟨fun _=>none,S,fun _ h=>h,fun _ h=>.inl h,{size:=?_,slot:=?_,held:=?_,defers:=rfl,mem:=?_,lU:=?_,inj:=?_,own:=?_,bound:=g,eJ:=?_,jn:=j,kept:=fun _ _ _=>rfl,os:=rfl,tape:=rfl,output:=rfl,eY:=qak _}⟩;{simp[start,c,e]};{intro i;have:=xD (nt:=a) (ρ:=Ref (fun _=>none) S w (start a ps).mem) f (a-ps.length) i;rw[e];simpa[start,St.slot,c]using this};{simp only[start,au]};all_goals grind
theorem zC(x:P.follows .mixedOrders=true){b:Func}{n:cf}{k:List RD}(o:P.funcs[f]? =some b)(p:b.body=some c)(y:(b.name== "runtime.NumGoroutine")=false)(z:bD P G accs c=some n)(A:fe P b.results.toList=some k)(B:b.ntmps=l){i:List (Nat×R_)}{d:List AV}(C:ps.length<=l)(h:bH (CC P G) aF (Hf P G) [.code n] (ri k i d) .normal (start l ps)):oQ P G f ps i (one? d):=by intro S w g D E F;unfold dN;have H:(callFunc f g.toArray).run P w=.ok (.enter f g.toArray) w:=by{have I:¬b.name= "runtime.NumGoroutine" :=by{simpa using y};simp[callFunc,run_program,o,I,p]};rw[H];simp only;refine qdc o p (nH x c z (yE B D E F C) (Qa:=ri k i d) h ?_);intro e a q w' r j;have key:(∃g m,mN a k=some g/\Fg ⟨a.slots,g++a.held,a.base,a.mem⟩ m/\m.mem=eU i/\d.length=g.length/\∃t,m.held=d++t)->q.defers=[]/\∃v,(results b q.tmps).run P w'=.ok v w'/\∃s,Ending.returned v=.returned s/\Nc S w i (one? d) s w':=by{intro j;obtain⟨u,J,K⟩:=s7 A r j;obtain⟨γ,S',-,-,L⟩:=r;exact⟨L.defers,u,J,u,rfl,K⟩};cases e with|normal=>exact key j|ret=>exact key j|exit id=>exact j.elim
theorem BO{b:cf}{a:Nat}(g:P.follows .mixedOrders=true)(h:gF P G accs f=some (b,d,a))(i:ps.length<=a)(j:bH (CC P G) aF (Hf P G) [.code b] (ri d e rs) .normal (start a ps)):oQ P G f ps e (one? rs):=by obtain⟨q,c,k,l,m,n,o,p⟩:=acy h;exact zC g k l m n o p i j
theorem fg{b:List AV}{a:St}{vs t:List AV}(c:List (Option Nat))(f:mN s d=some vs)(g:jN c=true)(h:St.tidy ⟨s.slots,vs++s.held,s.base,s.mem⟩ [] c=a)(i:a.mem=eU e)(hl:b.length=vs.length)(j:a.held=b++t):ri d e b .ret s:=⟨vs,a,f,Fg.ca [] c g h,i,hl,t,j⟩
theorem o6{C:CT}{A:Ar}{I:IC}{a:List RD}{c:List AV}(h:ri a b c .ret s):(bp.fin .ret s).holds C A I (ri a b c):=h
abbrev FR(l:Nat):Fence:=Fence.wide.inRound l
theorem Jm{a:Array Value}{R:Ending->World->Prop}(h:Calls P f a w R):CallsIn (FR l) n P f a w R:=CallsIn.inRound l (callsIn_wide.2 h)
theorem Nd{row:String}{a:Array Value}{R:Value->World->Prop}(h:Rows P row a w R):RowsIn (FR l) n P row a w R:=fun c b _=>let ⟨v,w',r,s⟩:=h c b;⟨v,w',r,stepsIn_wide.2 s⟩
theorem Fm{o:Oper}{next:Act->World->Prop}(b:∀c,o.op≠.defer c)(h:o.wp P a w next Q):o.wpIn (FR l) n P a w next Q:=by refine⟨fun _ _=>trivial,?_⟩;rw[show(FR l).round=some l from rfl,Oper.semAt_some l _ o b];unfold Oper.wp at h;generalize (execOp a.eval o).run P w=r at h ⊢;cases r with|ok x w'=>{cases x<;>simp only[Oper.upon,Oper.uponIn]at h ⊢ <;>first|exact h|exact⟨fun h=>absurd h (by simp[FR,Fence.wide]),Jm h⟩|exact⟨fun h=>absurd h (by simp[FR,Fence.wide]),Nd h⟩|exact h.elim}|halt x w'=>cases x<;>simp only[Oper.upon,Oper.uponIn]at h ⊢ <;>exact h
theorem Fh{G:Nat->Option (List PV)}{accs:List Nat}{ops:Array Oper}:∀{a:List Oper} {l:List AI},V6 P G accs ops a=some l->∀o∈a,∀c,o.op≠.defer c
|[],_,_=>fun _ h=>by cases h
|o::a,l,hc=>by simp only[V6]at hc;split at hc;{rename_i x d;split at hc;{rename_i i f;intro e b;rcases qam.1 b with rfl|b;{intro c g;have:oJ P G accs e=none:=by{unfold oJ;rw[g]};simp only[lb,this]at d;cases d};exact Fh f e b};cases hc};cases hc
theorem zD{ops:Array Oper}{Q:Exit->Act->World->Prop}(d:¬LetsOut Q):∀{b:List Oper},(∀o∈b,∀c,o.op≠.defer c)->∀{a:Act} {w:World},wpList P ops Q b a w->wpListIn (FR l) n P ops Q b a w
|[],_,_,_,h=>h
|o::b,hd,a,w,h=>by simp only[wpList]at h;simp only[wpListIn];split;{rename_i e;rw[qao e]at h;rcases h with h|h;{exact Fm (hd o s_) (qcR (fun a w h=>zD d (fun o f=>hd o (by simp[f])) h) h)};exact absurd h.2 d};rename_i e;rw[qai e]at h;exact⟨fun _ _=>trivial,zD d (fun o f=>hd o (by simp[f])) h⟩
theorem DE{g:Region.Mode}{ops:Array Oper}{Q:Exit->Act->World->Prop}(j:¬LetsOut Q)(k:∀(i:Nat) (o:Oper),ops[i]? =some o->∀c:Call,o.op≠.defer c):∀(d:Nat) {b:Array Bool} {a:Act} {w:World},wpAny P g ops Q d b a w->wpAnyIn (FR l) n P g ops Q d b a w
|0,_,_,_,h=>h
|d+1,b,a,w,h=>by refine⟨h.1,fun i m=>?_⟩;have h2:=wpOp_mono (fun a w h=>DE j k d h) (h.2 i m);unfold wpOp at h2;unfold wpOpIn;split at h2;{rename_i e;simp only[e];exact h2};rename_i o e;simp only[e];split;{rename_i f;rw[qao f]at h2;rcases h2 with h2|h2;{exact Fm (k i o e) h2};exact absurd h2.2 j};rename_i f;rw[qai f]at h2;exact⟨fun _ _=>trivial,h2⟩
def pQ(l n:Nat)(P:Program)(c:Code)(Q:Exit->Act->World->Prop)(a:Act)(w:World):Prop:=
 ∀(b:Frame) (k:List Go.Item) (d:List Frame),b.roundOf=(FR l).round->∃e f w',Q e f w'/\ArrivesIn (Machine.fenced P (FR l)) P (lone (b.atR a (.code c::.inLoop c::k)) d w) b k d e f w'
theorem Q5{b:Frame}{c:List Go.Item}{d:List Frame}(h:(b.atR a c).about P w=none):(lone (b.atR a c) d w).fenced P (FR l):=fenced_calm (n:=0) trivial (room_wide _) h
theorem zE(h:pQ l n P c Q a w):(Code.loop c).wpIn (FR l) n P Q a w:=by intro b k f d _ _;obtain⟨e,g,w',i,j⟩:=h b k f d;exact⟨e,g,w',i,.of_steps (.one (Q5 rfl) stepR_loop) j⟩
theorem uq(h:c.wpIn (FR l) n P (Exit.then (pQ l n P c Q) Q) a w):pQ l n P c Q a w:=by intro b k i g;obtain⟨e,a₁,w₁,d,f⟩:=h b (.inLoop c::k) i g trivial (room_wide _);cases e with|normal=>obtain⟨e₂,a₂,w₂,d₂,f₂⟩:=d b k i g;exact⟨e₂,a₂,w₂,d₂,.of_steps (StepsIn.trans f (.one (Q5 rfl) stepR_inLoop)) f₂⟩|exit id=>exact⟨_,a₁,w₁,d,.pass (x:=.inLoop c) rfl (fun _ _=>.inl s_) f⟩|goto l=>exact⟨_,a₁,w₁,d,.pass (x:=.inLoop c) rfl (fun _ _=>.inl s_) f⟩|ret=>exact⟨_,a₁,w₁,d,.pass (x:=.inLoop c) rfl (fun _ _=>.inl s_) f⟩|panic j=>exact⟨_,a₁,w₁,d,.pass (x:=.inLoop c) rfl (fun _ _=>.inl s_) f⟩|outgrown=>exact⟨_,a₁,w₁,d,.pass (x:=.inLoop c) rfl (fun _ _=>.inl s_) f⟩
section
variable {r:Nat}
theorem BP(M:P.follows .mixedOrders=true):∀(c:Code) {q:cf} {st:St} {a:Act} {w:World} {u:Ex->St->Prop} {Q:Exit->Act->World->Prop},bD P G accs c=some q->ft w0 own0 hvs G S0 st a w->fw (CC P G) aF (Hf P G) q st u->(∀e k v w',ft w0 own0 hvs G S0 k v w'->u e k->Q e.conv v w')->¬LetsOut Q->c.wpIn (FR r) n P Q a w:=by intro c;induction c with|skip=>intro q st a w u Q d hs h f p;simp only[bD,qaa]at d;subst d;exact wpIn_skip (f .normal _ _ _ hs h)|refuse s=>intro q st a w u Q d hs h f p;simp only[bD,qaa]at d;subst d;simp[fw,bP,gO,nr,ml,KA,St.ev]at h|exit id=>intro q st a w u Q d hs h f p;simp only[bD,qaa]at d;subst d;exact wpIn_exit (f (.exit id) _ _ _ hs h)|ret=>intro q st a w u Q d hs h f p;simp only[bD,qaa]at d;subst d;exact wpIn_ret (f .ret _ _ _ hs h)|region id ops draw=>{intro q st a w u Q d hs h f p;cases draw with|false=>simp only[bD]at d;obtain⟨l,hl,rfl⟩:=qah.1 d;exact wpIn_region_list (zD p (Fh hl) (zf hl hs h fun k v w' m g=>f .normal k v w' m g))|true=>simp only[bD]at d;split at d;{rename_i l hl;split at d;{rename_i N;simp only[qaa]at d;subst d;obtain⟨A,B,h⟩:=h;have hs:=mo B hs;have O:∀(i:Nat) (o:Oper),ops[i]? =some o->∀c:Call,o.op≠.defer c:=fun i o R=>Fh hl o (by rw[<-qbc]at R;exact qbE R);rcases h with h|h;{obtain⟨r,V,g⟩:=lz h;refine wpIn_region_any M (DE p O _ (IJ (st0:=A) hl rfl N V (fun v w' m=>f .normal _ v w' m g) ops.size _ _ _ s_ ?_ ?_ ?_));{simp};{intro i C;simp[qbM]at C;split at C<;>simp at C};have:cM (fun i=>(Array.replicate ops.size false).getD i false) 0 (r.map (·.1)) A=A:=by{have T:=dZ r 0 0 A;simp only[qbo,fc]at T;refine qdC (aaV _ _ _ fun i _ _=>?_) T.symm;simp[qbM];split<;>rfl};rw[this];exact Ff hs rfl rfl rfl rfl};refine wpIn_region_any M (DE p O _ (EY hl rfl N h (fun k v w' m g=>f .normal k v w' m g) _ s_ ?_ _ _ (Ff hs rfl rfl rfl rfl)));intro i;simp[qbM];split<;>simp};cases d};cases d}|seq x y z D=>{intro q st a w u Q d hs h f p;simp only[bD]at d;split at d;{rename_i W E;split at d;{rename_i X F;simp only[qaa]at d;subst d;refine wpIn_seq (z E hs h ?_ (fun⟨a,w,h⟩=>p ⟨a,w,h⟩));intro e k v w' m g;cases e with|normal=>exact D F m g f p|ret=>exact f .ret _ _ _ m g|exit id=>exact f (.exit id) _ _ _ m g};cases d};cases d}|cond c x y z D=>{intro q st a w u Q d hs h f p;simp only[bD]at d;split at d;{rename_i c' Y;split at d;{rename_i W E;split at d;{rename_i X F;simp only[qaa]at d;subst d;simp only[fw]at h;obtain⟨γ,S,bg,Cy,U⟩:=hs;have H:=U.fR Y;have hs:ft w0 own0 hvs G S0 st a w:=⟨γ,S,bg,Cy,U⟩;split at h;{rename_i t Z;rw[Z]at H;simp only[lF,aD]at H;refine wpIn_cond H ?_;cases t with|true=>exact z E hs h f p|false=>exact D F hs h f p};exact h.elim};cases d};cases d};cases d}|block id b I=>{intro q st a w u Q d hs h f p;simp only[bD]at d;obtain⟨ab,J,rfl⟩:=qah.1 d;refine wpIn_block (I J hs h ?_ (fun⟨a,w,h⟩=>p ⟨a,w,h⟩));intro e k v w' m g;cases e with|normal=>exact f .normal _ _ _ m g|ret=>exact f .ret _ _ _ m g|exit j=>simp only at g;simp only[Ex.conv,Exit.inBlock];by_cases K:j=id;{subst K;simp only[qau]at g;simp only[qax];exact f .normal _ _ _ m g};rw[qai K];rw[qar.2 K]at g;exact f (.exit j) _ _ _ m g}|loop b I=>{intro q st a w u Q d hs h f p;simp only[bD]at d;obtain⟨ab,J,rfl⟩:=qah.1 d;refine zE (h (fun s=>∀a w,ft w0 own0 hvs G S0 s a w->pQ r n P b Q a w) ?_ a w hs);intro s A B bg v w' jq;refine uq (I J (mo B jq) bg ?_ (fun⟨a,w,h⟩=>p ⟨a,w,h⟩));intro e k L tA m g;cases e with|normal=>exact g L tA m|ret=>exact f .ret _ _ _ m g|exit j=>exact f (.exit j) _ _ _ m g}|_=>intro q st a w u Q d;simp[bD]at d
theorem dW.book(h:dW w0 own0 hvs G γ S st a w){k:Nat}(j:∀b,b≠k->w'.heap[b]? =w.heap[b]?)(l:w'.heap.size=w.heap.size)(p:w'.os=w.os)(q:w'.tape=w.tape)(r:w'.output=w.output)(hγ:∀i,γ i≠some k)(s:¬S k)(y:w0.heap.size<=k):dW w0 own0 hvs G γ S st a w':=by have hl:bf S w S w':=fun b d=>⟨d,dC (j b (fun e=>s (e▸d)))⟩;have d:∀i b,γ i=some b->w'.heap[b]? =w.heap[b]?:=fun i b d=>j b (fun e=>hγ i (e▸d));have hρ:=Ref.later (γ:=γ) (γ':=γ) (mem:=st.mem) (mem':=st.mem) hl fun id f m=>⟨m,rfl,fun b t=>dC (d id b t)⟩;exact{size:=h.size,slot:=fun i=>lF.later hl hρ _ (h.slot i),held:=au.later hl hρ _ h.held,defers:=h.defers,mem:=fun id f m=>eK.later hl hρ rfl (d id) (h.mem id f m),lU:=h.lU,inj:=h.inj,own:=h.own,bound:=fun b d=>by rw[l];exact h.bound b d,eJ:=fun i b d=>by rw[l];exact h.eJ i b d,jn:=fun g row u=>by obtain⟨o,c,h2,h3,v⟩:=h.jn g row u;exact⟨o,c,((hl g o).2.1).trans h2,dm.later hl row h3,v⟩,kept:=fun b d x=>(j b o_).trans (h.kept b d x),os:=p.trans h.os,tape:=q.trans h.tape,output:=r.trans h.output,eY:=by rw[l];exact h.eY}
theorem dW.shift(h:dW w0 own0 hvs G γ S st a w):dW w (fun b=>∃i,γ i=some b) hvs G γ S st a w:={h with own:=fun i b c=>⟨(h.own i b c).1,.inr ⟨i,c⟩⟩,kept:=fun _ _ _=>rfl,os:=rfl,tape:=rfl,output:=rfl,eY:=qak _}
theorem dW.zF(h:dW w0 own0 hvs G γ S st a w){f:List Value×List Deferred}{d:St}{g:Act}(c:dW w (fun b=>∃i,γ i=some b) f G γ' S' d g w'):
  dW w0 own0 f G γ' S' d g w':=
 {c with
  own:=fun i b k=>⟨(c.own i b k).1,by
   rcases(c.own i b k).2 with e|⟨j,e⟩
   ·exact .inl (qbr h.eY e)
   ·exact(h.own j b e).2⟩
  kept:=fun b l m=>(c.kept b (qde l h.eY) (fun⟨j,n⟩=>(h.own j b n).2.elim (fun e=>o_) m)).trans (h.kept b l m)
  os:=c.os.trans h.os,tape:=c.tape.trans h.tape,output:=c.output.trans h.output,eY:=qbr h.eY c.eY}
theorem dW.push(h:dW w0 own0 hvs G γ S st a w){slots:List AV}{b:Array Value}(c:slots.length=b.size)(d:∀i,lF S w (Ref γ S w st.mem) (slots.getD i .dead) (b.getD i undef)):
  dW w0 own0 (a.tmps.toList++hvs.1,[]) G γ S ⟨slots,st.slots++st.held,st.base,st.mem⟩ ⟨b,[]⟩ w:=
 {h with
  size:=c,slot:=d,defers:=rfl
  held:=au.append (au.vP (by simpa using h.size) (fun i=>by
   have:=h.slot i
   simpa only[St.slot,qaJ,List.getD_eq_getElem?_getD,qbc]using this)) h.held}
theorem dW.pop{slots held:List AV}{b0:Nat}(hl:slots.length=a.tmps.size){c:List Deferred}(j:a.defers=c){b:St}{k:Act}(d:dW w0 own0 (a.tmps.toList++hvs.1,[]) G γ S b k w)(l:b.held=slots++held): dW w0 own0 (hvs.1,c) G γ S ⟨slots,held,b0,b.mem⟩ a w:=by
 have e:=d.held;rw[l]at e;obtain⟨f,g⟩:=au.cut e;have h:a.tmps.toList.length=slots.length:=by{simpa using hl.symm};rw[h,qcd]at f;rw[h,List.drop_left]at g
 exact{d with
  size:=hl,held:=g,defers:=j
  slot:=fun i=>by
   have:=au.slots f i
   simpa only[St.slot,qaJ,List.getD_eq_getElem?_getD,qbc]using this}
end
def ItC(P:Program)(G:Nat->Option (List PV))(g:FuncId)(d:List PV)(h:R_):Prop:=
 (∀c w,(callFunc g c).run P w=.ok (.enter g c) w)/\
 ∀(S:Nat->Prop) (w:World) (i:List Value),(∀b,S b->b<w.heap.size)->rh G S w->aM S w d i->
 ∀(l:Nat) (J:Nat->(Nat->Prop)->World->Prop) (f:World->Prop),
  (∀k T W a,J k T W->RowKit.Below W.heap.size W a->J k (fun b=>T b\/(W.heap.size<=b/\b<a.heap.size)) a)->
  (∀W a,f W->RowKit.Below W.heap.size W a->f a)->
  (∀k (j:k<h.length) T W us,J k T W->aM (fun _=>False) W h[k] us->YieldAt Fence.wide 0 P l us.toArray W fun e a=>
   (e=.returned (.bool true)/\J (k+1) T a/\W.heap.size<=a.heap.size/\∀b,T b->a.heap[b]? =W.heap[b]?)\/(e=.returned (.bool false)/\f a))->
  J 0 S w->CallsIn Fence.wide 0 P g (#[.func (.yield l) #[] #[]]++i.toArray) w fun e a=>(∃v,e=.returned v)/\((∃T,J h.length T a)\/f a)
def G4:List Nat->List PV->List AV->List AV
 |p::ps,x::xs,sl=>G4 ps xs (sl.set p (.pv x))
 |_,_,sl=>sl
theorem BQ{S:Nat->Prop}{w:World}{ρ:AV->Value->Prop}:∀{ps:List Nat} {a:List PV} {b:List Value} {sl:List AV} {tmps:Array Value},aM (fun _=>False) w a b->sl.length=tmps.size->(∀i,lF S w ρ (sl.getD i .dead) (tmps.getD i undef))->(G4 ps a sl).length=((ps.zip b).foldl (fun t (p,v)=>t.setIfInBounds p v) tmps).size/\∀i,lF S w ρ ((G4 ps a sl).getD i .dead) (((ps.zip b).foldl (fun t (p,v)=>t.setIfInBounds p v) tmps).getD i undef)
|[],a,b,sl,tmps,_,c,h=>by cases a<;>exact⟨c,h⟩
|p::ps,[],b,sl,tmps,d,c,h=>by simp only[aM]at d;subst d;exact⟨c,h⟩
|p::ps,x::a,b,sl,tmps,d,c,h=>by simp only[aM]at d;obtain⟨v,r,rfl,h1,h2⟩:=d;simp only[G4,List.zip_cons_cons,qbu];refine BQ h2 (by simpa using c) (fun i=>?_);by_cases f:i=p;{subst f;by_cases j:i<sl.length;{have k:i<tmps.size:=o_;have e:(sl.set i (.pv x)).getD i .dead=.pv x:=by{simp[List.getD_eq_getElem?_getD,j]};have g:(tmps.setIfInBounds i v).getD i undef=v:=by{simp[k]};rw[e,g];simp only[lF];exact aD.later (fun _ h=>h.elim) _ h1};have e:(sl.set i (.pv x)).getD i .dead=.dead:=by{simp[List.getD_eq_getElem?_getD,j]};rw[e];simp only[lF]};have e:(sl.set p (.pv x)).getD i .dead=sl.getD i .dead:=by{simp[List.getD_eq_getElem?_getD,qbF (qbN f)]};have g:(tmps.setIfInBounds p v).getD i undef=tmps.getD i undef:=by{simp[qaJ,qbe (qbN f)]};rw[e,g];exact h i
def wg(P:Program)(G:Nat->Option (List PV))(A:Ar)(id t:Nat)(ps:List Nat)(h i f:cf)(F:Ex->St->Prop)(st:St):Prop:=
 ∃a:St,Fg st a/\∃(g:FuncId) (b:List PV) (c:R_) (u:Nat->List (Option Obj)) (ok:Nat->Prop),a.slot t=.pv (.gM g b)/\ItC P G g b c/\(∀x∈c,x.length=ps.length)/\Fg a ⟨a.slots,a.held,a.base,u 0⟩/\
  (∀k (m:k<c.length),(∀j,j<k->ok j)->fw (CC P G) A (Hf P G) h ⟨G4 ps c[k] a.slots,a.slots++a.held,a.base,u k⟩ fun e s=>e=.normal/\fw (CC P G) A (Hf P G) i s fun e l=>∃d,Fg l d/\d.held=a.slots++a.held/\match e with
   |.normal=>ok k/\d.mem=u (k+1)
   |.ret=>F .ret ⟨a.slots,a.held,a.base,d.mem⟩
   |.exit j=>j=id/\fw (CC P G) A (Hf P G) f ⟨a.slots,a.held,a.base,d.mem⟩ F)/\
  ((∀j,j<c.length->ok j)->fw (CC P G) A (Hf P G) f ⟨a.slots,a.held,a.base,u c.length⟩ F)
abbrev adH(D:Nat):Deferred:={target:=.collected D,args:=#[]}
def DF(w0:World)(own0:Nat->Prop)(hvs:List Value×List Deferred)(G:Nat->Option (List PV))(S0:Nat->Prop)(D:Nat)(st:St)(a:Act)(w:World):Prop:=
 ∃γ S,(∀b,S0 b->S b)/\(∀b,S b->S0 b\/w0.heap.size<=b\/own0 b)/\dW w0 own0 (hvs.1,adH D::hvs.2) G γ S st a w/\¬S D/\(∀i,γ i≠some D)/\w0.heap.size<=D/\w.heap[D]? =some (.deferred (some []))
structure nd(γ:Nat->Option Nat)(S:Nat->Prop)(W:World)(D:Nat)(r:Loop):Prop where
 sd:¬S D
 sl:¬S (D+1)
 gd:∀i,γ i≠some D
 gl:∀i,γ i≠some (D+1)
 hl:W.heap[D+1]? =some (.loop r)
 hd:W.heap[D]? =some (.deferred (some []))
theorem nd.lt(h:nd γ S W D r):D+1<W.heap.size:=(qaK.1 h.hl).1
theorem BR{d:World}(h:nd γ S W D r)(g:dW W (fun b=>∃i,γ i=some b) hvs G γ' S' st a d)(hs:∀b,S' b->S b\/W.heap.size<=b\/∃i,γ i=some b): nd γ' S' d D r:=by have k:=h.lt;have no:∀b,b<W.heap.size->(∀i,γ i≠some b)->¬S b->¬S' b/\(∀i,γ' i≠some b)/\d.heap[b]? =W.heap[b]?:=fun b l e m=>⟨fun n=>by rcases hs b n with c|c|⟨i,c⟩;exact m c;omega;exact e i c,fun i f=>by rcases(g.own i b f).2 with c|⟨j,c⟩;omega;exact e j c,g.kept b l (fun⟨i,f⟩=>e i f)⟩;obtain⟨o,p,q⟩:=no D o_ h.gd h.sd;obtain⟨s,t,u⟩:=no (D+1) k h.gl h.sl;exact⟨o,s,p,t,u.trans h.hl,q.trans h.hd⟩
theorem r7(h:nd γ S W D r)(a:Loop):nd γ S (W.putObj (D+1) (.loop a)) D a:=⟨h.sd,h.sl,h.gd,h.gl,World.putObj_heap_same h.lt,(World.putObj_heap_other o_).trans h.hd⟩
theorem dW.Jn(h:dW w0 own0 hvs G γ S st a W)(c:nd γ S W D r)(f:w0.heap.size<=D)(d:Loop):dW w0 own0 hvs G γ S st a (W.putObj (D+1) (.loop d)):=dW.book h (k:=D+1) (fun b c=>World.putObj_heap_other (fun e=>c e)) s_ rfl rfl rfl c.gl c.sl o_
theorem Jo(hm:P.follows .mixedOrders=true){assign body:Code}{aa ab uI:cf}(ha:bD P G accs assign=some aa)(d:bD P G accs body=some ab){ps:Array Tmp}{id:Nat}(jq:ft w0 own0 hvs G S0 st a w)(h:wg P G aF id t ps.toList aa ab uI F st)(XB:∀o D W,DF w0 own0 hvs G S0 D o {a with defers:=adH D::a.defers} W->fw (CC P G) aF (Hf P G) uI o F->Q .normal {a with defers:=adH D::a.defers} W)(Y4:∀o D W,DF w0 own0 hvs G S0 D o {a with defers:=adH D::a.defers} W->F .ret o->Q .ret {a with defers:=adH D::a.defers} W)(ae:∀o D W,DF w0 own0 hvs G S0 D o {a with defers:=adH D::a.defers} W->fw (CC P G) aF (Hf P G) uI o F->Q (.exit id) {a with defers:=adH D::a.defers} W): (Code.rangeFunc (.tmp t) ps assign body).wp P Q a w:=by obtain⟨f,af,gf,ar,xs,u,ok,ht,⟨ag,ah⟩,oX,ai,Uz,X⟩:=h;have ZI:=mo ai (mo af jq);obtain⟨γ0,SS,bg,Cy,A⟩:=ZI;have H:=A.slot t;rw[show St.slot ⟨f.slots,f.held,f.base,u 0⟩ t=f.slot t from rfl,ht]at H;simp only[lF,aD]at H;obtain⟨Y,bZ,Fo⟩:=H;refine(wpIn_wide (n:=0)).1 (wpIn_rangeFunc ?_);intro fn HL;obtain⟨g,B⟩:∃g:LoopState->Option Code->Loop,g=fun st pe=>{state:=st,pending:=pe,fn,tmps:=a.tmps,params:=ps,assign,body,defers:=w.heap.size}:=⟨_,rfl⟩;obtain⟨D,hD⟩:∃D,D=w.heap.size:=⟨_,rfl⟩;obtain⟨s,O⟩:∃s,(w.alloc (.deferred (some []))).alloc (.loop (g .ready none))=s:=⟨_,rfl⟩;have aj:s.heap[D+1]? =some (.loop (g .ready none)):=by{rw[<-O,hD];have:=World.alloc_heap_new (w.alloc (.deferred (some []))) (.loop (g .ready none));rwa [World.size_alloc]at this};have ak:s.heap[D]? =some (.deferred (some [])):=by{rw[<-O,hD];exact(RowKit.Below.heap_alloc _ _ _ s_).trans (World.alloc_heap_new w _)};have Q6:∀b,b<w.heap.size->s.heap[b]? =w.heap[b]?:=fun b d=>by{rw[<-O];exact(iD w_).trans (iD d)};have Tf:w.heap.size<=s.heap.size:=by{rw[<-O];simp;omega};have UA:s.os=w.os/\s.tape=w.tape/\s.output=w.output:=by{rw[<-O];exact⟨rfl,rfl,rfl⟩};have DG:=(dW.grow A Q6 Tf UA.1 UA.2.1 UA.2.2 (S':=SS) (fun _ h=>h) (fun _ h=>.inl h)).1;have R:w0.heap.size<=D:=by{rw[hD];exact A.eY};have Z:nd γ0 SS s D (g .ready none):=⟨fun h=>by have:=A.bound _ h;omega,fun h=>by have:=A.bound _ h;omega,fun i h=>by have:=A.eJ i _ h;omega,fun i h=>by have:=A.eJ i _ h;omega,aj,ak⟩;obtain⟨J,hJ⟩:∃J:Nat->(Nat->Prop)->World->Prop,J=fun k T W=>∃γ S,(∀b,S0 b->S b)/\(∀b,S b->S0 b\/w0.heap.size<=b\/own0 b)/\dW w0 own0 hvs G γ S ⟨f.slots,f.held,f.base,u k⟩ a W/\(∀b,T b->S b)/\nd γ S W D (g .ready none)/\∀j,j<k->ok j:=⟨_,rfl⟩;obtain⟨Jx,ZJ⟩:∃Jx:World->Prop,Jx=fun W=>∃c m γ S,(∀b,S0 b->S b)/\(∀b,S b->S0 b\/w0.heap.size<=b\/own0 b)/\dW w0 own0 hvs G γ S ⟨f.slots,f.held,f.base,m⟩ a W/\nd γ S W D (g .done (some c))/\ ((c=.ret/\F .ret ⟨f.slots,f.held,f.base,m⟩)\/(c=.exit id/\fw (CC P G) aF (Hf P G) uI ⟨f.slots,f.held,f.base,m⟩ F)):=⟨_,rfl⟩;have grow:∀{γ:Nat->Option Nat} {S:Nat->Prop} {W x:World} {r:Loop} {st:St},dW w0 own0 hvs G γ S st a W->nd γ S W D r->RowKit.Below W.heap.size W x->dW w0 own0 hvs G γ (fun b=>S b\/(W.heap.size<=b/\b<x.heap.size)) st a x/\nd γ (fun b=>S b\/(W.heap.size<=b/\b<x.heap.size)) x D r:=fun hS hB z=>by{have bO:=hB.lt;exact⟨(dW.grow hS z.block z.size z.os z.tape z.output (fun _ h=>.inl h) (fun _ h=>h)).1,⟨fun h=>h.elim hB.sd (fun h=>o_),fun h=>h.elim hB.sl (fun h=>o_),hB.gd,hB.gl,(z.block _ bO).trans hB.hl,(z.block _ o_).trans hB.hd⟩⟩};have Zy:∀{S:Nat->Prop} {W x:World} {w0s:w0.heap.size<=W.heap.size},(∀b,S b->S0 b\/w0.heap.size<=b\/own0 b)->∀b,(S b\/(W.heap.size<=b/\b<x.heap.size))->S0 b\/w0.heap.size<=b\/own0 b:=fun{S W x w0s} h b d=>d.elim (h b) (fun h=>.inr (.inl o_));have mE:∀(k:Nat) (hk:k<xs.length) (E:List Value) (W:World),aM (fun _=>False) W xs[k] E->E.length=ps.size:=fun k hk E W C=>by{rw[aM.uE C,oX _ (qaf hk)];simp};have key:CallsIn Fence.wide 0 P gf (#[.func (.yield (D+1)) #[] #[]]++Y.toArray) s fun e x=>(∃v,e=.returned v)/\((∃T,J xs.length T x)\/Jx x):=by{refine ah SS s Y DG.bound DG.jn (aM.later (fun b d=>⟨d,dC (Q6 b (A.bound b d))⟩) _ Fo) (D+1) J Jx ?_ ?_ ?_ ?_;{intro k T W x q z;rw[hJ]at q ⊢;obtain⟨γ,S,y,a2,a3,a4,a5,U⟩:=q;obtain⟨g1,g2⟩:=grow a3 a5 z;exact⟨γ,_,fun b d=>.inl (y b d),Zy (w0s:=a3.eY) a2,g1,fun b d=>d.imp (a4 b) (fun h=>h),g2,U⟩};{intro W x q z;rw[ZJ]at q ⊢;obtain⟨c,m,γ,S,y,a2,a3,a4,a5⟩:=q;obtain⟨g1,g2⟩:=grow a3 a4 z;exact⟨c,m,γ,_,fun b d=>.inl (y b d),Zy (w0s:=a3.eY) a2,g1,g2,a5⟩};{intro k hk T W E q C;rw[hJ]at q;obtain⟨γ,S,y,a2,a3,a4,a5,U⟩:=q;have hy:=run_yield (P:=P) (args:=E.toArray) a5.hl (by rw[B];simpa using mE k hk E W C);rw[B]at hy;refine⟨fn,_,assign,body,hy,roundIn_of_wpIn HL ?_⟩;have xg:=BQ (S:=S) (w:=W) (ρ:=Ref γ S W (u k)) (ps:=ps.toList) (sl:=f.slots) (tmps:=a.tmps) C a3.size (fun i=>a3.slot i);have ao:(ps.zip E.toArray).foldl (fun t (p,v)=>t.setIfInBounds p v) a.tmps=(ps.toList.zip E).foldl (fun t (p,v)=>t.setIfInBounds p v) a.tmps:=by{rw[<-Array.foldl_toList,Array.toList_zip]};dsimp only;rw[ao];have hp:=dW.push a3 xg.1 xg.2;refine BP hm assign ha (S0:=S) ⟨γ,S,fun _ h=>h,fun _ h=>.inl h,dW.shift hp⟩ (Uz k hk U) ?_ (fun⟨_,_,h⟩=>h);rintro e Zp au w1 ⟨γ1,S1,b1,b2,b3⟩ ⟨rfl,ZK⟩;have I:=BR a5 b3 b2;have u1:=dW.zF hp b3;have aq:=r7 I {g .ready none with state:=.busy};have u2:=dW.Jn u1 I R {g .ready none with state:=.busy};refine⟨_,run_beginRound I.hl (by rw[B]),?_⟩;refine BP hm body d (S0:=S1) ⟨γ1,S1,fun _ h=>h,fun _ h=>.inl h,dW.shift u2⟩ ZK ?_ (fun⟨_,_,h⟩=>h);rintro e EZ av w3 wR ⟨s2,K5,Br,K⟩;obtain⟨γ3,S3,c1,c2,c3⟩:=mo K5 wR;have L:=BR aq c3 c2;have u3:=dW.zF u2 c3;have u4:=dW.pop (b0:=f.base) (by simpa using a3.size) a3.defers u3 Br;have M:∀b,S3 b->S0 b\/w0.heap.size<=b\/own0 b:=fun b d=>by{rcases c2 b d with h|h|⟨i,h⟩;{rcases b2 b h with h|h|⟨i,h⟩;{exact a2 b h};{exact .inr (.inl (qbr a3.eY h))};exact .inr (a3.own i b h).2};{exact .inr (.inl (qbr u2.eY h))};exact .inr (u2.own i b h).2};have Nf:∀b,S b->S3 b:=fun b d=>c1 b (b1 b d);have ad:W.heap.size<=w3.heap.size:=by{have:=b3.eY;have:=c3.eY;simp at this;omega};have ZL:∀b,S b->∀V,(w3.putObj (D+1) (.loop V)).heap[b]? =W.heap[b]?:=fun b d V=>by{have MB:b≠D+1:=fun e=>a5.sl (e▸d);have bO:=a3.bound b d;have e1:=b3.kept b bO (fun⟨i,hi⟩=>(a3.own i b hi).1 d);have e2:=c3.kept b (by have:=b3.eY;simp;omega) (fun⟨i,hi⟩=>(u2.own i b hi).1 (b1 b d));exact(World.putObj_heap_other (fun e=>MB e)).trans (e2.trans ((World.putObj_heap_other (fun e=>MB e)).trans e1))};have fin:∀l:Option Code,(Instr.endRound (D+1) l).run P w3=.ok (.bool l.isNone) (w3.putObj (D+1) (.loop (g (if l.isNone then .ready else .done) l))):=fun l=>by{have:=run_endRound (P:=P) l L.hl;rw[B]at this ⊢;exact this};cases e with|normal=>dsimp only at K;refine⟨_,_,fin none,.inl ⟨rfl,?_,by simpa using ad,fun b d=>ZL b (a4 b d) _⟩⟩;rw[hJ];refine⟨γ3,S3,fun b d=>Nf b (y b d),M,?_,fun b d=>Nf b (a4 b d),r7 L _,fun j q=>by by_cases e:j=k;{rw[e];exact K.1};exact U j o_⟩;rw[<-K.2];exact dW.Jn u4 L R _|ret=>refine⟨_,_,fin (some .ret),.inr ⟨rfl,?_⟩⟩;rw[ZJ];exact⟨.ret,s2.mem,γ3,S3,fun b d=>Nf b (y b d),M,dW.Jn u4 L R _,r7 L _,.inl ⟨rfl,K⟩⟩|exit j=>obtain⟨rfl,K⟩:=K;refine⟨_,_,fin (some (.exit j)),.inr ⟨rfl,?_⟩⟩;rw[ZJ];exact⟨.exit j,s2.mem,γ3,S3,fun b d=>Nf b (y b d),M,dW.Jn u4 L R _,r7 L _,.inr ⟨rfl,K⟩⟩};rw[hJ];exact⟨γ0,SS,bg,Cy,DG,fun _ h=>h,Z,fun j q=>absurd q (Nat.not_lt_zero _)⟩};refine⟨D+1,[adH D],s,{target:=.fn (.func gf) Y.toArray,args:=#[.func (.yield (D+1)) #[] #[]]},s,gf,#[.func (.yield (D+1)) #[] #[]]++Y.toArray,s,?_,?_,fun _ _=>trivial,?_,fun h=>absurd h (by simp[Fence.wide]),?_⟩;{rw[<-O,B,hD];exact run_enterLoop_outer _ _ _ _ _};{simp only[resolve,show a.eval (.tmp t)=.func (.func gf) #[] Y.toArray from bZ];simp[go_sem]};{simp[invoke,go_sem,ag]};refine CallsIn.mono key ?_;have N:∀{γ:Nat->Option Nat} {S:Nat->Prop} {W:World} {r:Loop} {m:List (Option Obj)},(∀b,S0 b->S b)->(∀b,S b->S0 b\/w0.heap.size<=b\/own0 b)->dW w0 own0 hvs G γ S ⟨f.slots,f.held,f.base,m⟩ a W->nd γ S W D r->∀V,DF w0 own0 hvs G S0 D ⟨f.slots,f.held,f.base,m⟩ {a with defers:=adH D::a.defers} (W.putObj (D+1) (.loop V)):=fun A h2 h3 h4 V=>⟨_,_,A,h2,{dW.Jn h3 h4 R V with defers:=by rw[h3.defers]},h4.sd,h4.gd,R,(World.putObj_heap_other o_).trans h4.hd⟩;rintro e W2 ⟨⟨v,rfl⟩,⟨T,q⟩|q⟩;{rw[hJ]at q;obtain⟨γ,S,y,a2,a3,-,a5,U⟩:=q;refine⟨none,_,by have:=run_endLoop (P:=P) a5.hl (by rw[B];simp);rw[B]at this;exact this,?_⟩;exact XB _ D _ (N y a2 a3 a5 _) (X U)};rw[ZJ]at q;obtain⟨c,m,γ,S,y,a2,a3,a5,hc⟩:=q;refine⟨some c,_,by have:=run_endLoop (P:=P) a5.hl (by rw[B];simp);rw[B]at this;exact this,?_⟩;rcases hc with⟨rfl,hc⟩|⟨rfl,hc⟩;{exact wpIn_ret (Y4 _ D _ (N y a2 a3 a5 _) hc)};exact wpIn_exit (ae _ D _ (N y a2 a3 a5 _) hc)
def Jp:Code->Option (Code×Nat×Nat×Array Tmp×Code×Code)
 |.seq c d=>match d with
  |.block id e=>match e with
   |.rangeFunc (.tmp t) ps a b=>some (c,id,t,ps,a,b)
   |_=>none
  |_=>none
 |_=>none
def s8:Code->Option (Code×Nat×Nat×Array Tmp×Code×Code×Code)
 |.seq x y=>match Jp x with
  |some (c,id,t,ps,a,b)=>some (c,id,t,ps,a,b,y)
  |none=>match s8 y with
   |some (c,r)=>some (.seq x c,r)
   |none=>none
 |_=>none
theorem Jq{x:Code}{id:Nat}{ps:Array Tmp}{a b:Code}(h:Jp x=some (c,id,t,ps,a,b)):x=.seq c (.block id (.rangeFunc (.tmp t) ps a b)):=by cases x with|seq i d=>{cases d with|block j e=>{cases e with|rangeFunc g f a' k=>{cases g with|tmp l=>simp only[Jp,qaa,qas]at h;grind|_=>cases h}|_=>cases h}|_=>cases h}|_=>cases h
theorem Fp(m:P.follows .mixedOrders=true){y:Code}(n:bD P G accs y=some k)(hs:DF w0 own0 hvs G S0 D st a w)(h:fw (CC P G) aF (Hf P G) k st F)(o:∀e c d w',DF w0 own0 hvs G S0 D c d w'->F e c->Q e.conv d w'):y.wp P Q a w:=by obtain⟨γ,S,p,a2,a3,d1,d2,d3,d4⟩:=hs;refine nH m y n (S0:=S) ⟨γ,S,fun _ h=>h,fun _ h=>.inl h,dW.shift a3⟩ h ?_;rintro e c d w' ⟨γ',S',q,l,f⟩ r;have s:D<w.heap.size:=(qaK.1 d4).1;refine o e c d w' ⟨γ',S',fun b g=>q b (p b g),fun b g=>?_,dW.zF a3 f,fun h=>?_,fun i h=>?_,d3,(f.kept D s (fun⟨i,h⟩=>d2 i h)).trans d4⟩ r;{rcases l b g with h|h|⟨i,h⟩;{exact a2 b h};{exact .inr (.inl (qbr a3.eY h))};exact .inr (a3.own i b h).2};{rcases l D h with h|h|⟨i,h⟩;{exact d1 h};{omega};exact d2 i h};rcases(f.own i D h).2 with h|⟨j,h⟩;{omega};exact d2 j h
theorem Jr(m:P.follows .mixedOrders=true){id:Nat}{ps:Array Tmp}{H I d:Code}{J K L:cf}(R:bD P G accs H=some J)(S:bD P G accs I=some K)(M:bD P G accs d=some L)(N:∀j s,¬F (.exit j) s)(n:∀e b g w',ft w0 own0 hvs G S0 b g w'->F e b->Q e.conv g w')(i:∀e D b g w',DF w0 own0 hvs G S0 D b g w'->F e b->Q e.conv g w'): ∀(c:Code) {u:Code} {v:cf} {st:St} {a:Act} {w:World},s8 c=some (u,id,t,ps,H,I,d)->bD P G accs u=some v->ft w0 own0 hvs G S0 st a w->fw (CC P G) aF (Hf P G) v st (fun e s=>match e with|.normal=>wg P G aF id t ps.toList J K L F s|e=>F e s)->c.wp P Q a w:=by intro c;induction c with|seq x y _ T=>{intro u v st a w f l hs h;simp only[s8]at f;split at f;{rename_i U EE t' V g b' X;simp only[qaa,qas]at f;obtain⟨rfl,rfl,rfl,rfl,rfl,rfl,rfl⟩:=f;rw[Jq X];refine wp_seq (wp_seq (nH m _ l hs h ?_));intro e b g w' o k;cases e with|normal=>refine wp_block (Jo m R S o k ?_ ?_ ?_);{intro O D W p q;exact Fp m M p q (fun e z A B C E=>i e D z A B C E)};{intro O D W p q;exact i .ret D _ _ _ p q};intro O D W p q;simp only[Exit.inBlock,qax];exact Fp m M p q (fun e z A B C E=>i e D z A B C E)|ret=>exact n .ret _ _ _ o k|exit j=>exact absurd k (N j b)};split at f;{rename_i U r Y;simp only[qaa,qas]at f;obtain⟨rfl,Z⟩:=f;subst Z;simp only[bD]at l;split at l;{rename_i ax hx;split at l;{rename_i ad E0;simp only[qaa]at l;subst l;refine wp_seq (nH m x hx hs h ?_);intro e b g w' o k;cases e with|normal=>exact T Y E0 o k|ret=>exact n .ret _ _ _ o k|exit j=>exact absurd k (N j b)};grind};grind};grind}|_=>intro u v st a w f;simp[s8]at f
def Fq(P:Program)(G:Nat->Option (List PV))(accs:List Nat)(f:FuncId):Option (cf×Nat×Nat×List Nat×cf×cf×cf×List RD×Nat):=
 match P.funcs[f]? with
 |none=>none
 |some fn=>match fn.body with
  |none=>none
  |some c=>match fn.name== "runtime.NumGoroutine" with
   |true=>none
   |false=>match s8 c with
    |none=>none
    |some (e,id,t,ps,a,b,d)=>match bD P G accs e with
     |none=>none
     |some g=>match bD P G accs a with
      |none=>none
      |some aa=>match bD P G accs b with
       |none=>none
       |some ab=>match bD P G accs d with
        |none=>none
        |some h=>match fe P fn.results.toList with
         |none=>none
         |some i=>some (g,id,t,ps.toList,aa,ab,h,i,fn.ntmps)
theorem DH{i j l:cf}{id:Nat}{m:List Nat}{n:List RD}{o:Nat}(h:Fq P G accs f=some (i,id,t,m,j,k,l,n,o)): ∃e c g ps a b d,P.funcs[f]? =some e/\e.body=some c/\(e.name== "runtime.NumGoroutine")=false/\s8 c=some (g,id,t,ps,a,b,d)/\ps.toList=m/\bD P G accs g=some i/\bD P G accs a=some j/\bD P G accs b=some k/\bD P G accs d=some l/\fe P e.results.toList=some n/\e.ntmps=o:=by unfold Fq at h;split at h;{cases h};rename_i e p;split at h;{cases h};rename_i c q;split at h;{cases h};rename_i r;split at h;{cases h};rename_i g z A ps a b d s;split at h;{cases h};rename_i B u;split at h;{cases h};rename_i C v;split at h;{cases h};rename_i D w;split at h;{cases h};rename_i E x;split at h;{cases h};rename_i F y;simp only[qaa,qas]at h;obtain⟨rfl,rfl,rfl,rfl,rfl,rfl,rfl,rfl,rfl⟩:=h;exact⟨e,c,g,ps,a,b,d,p,q,r,s,rfl,u,v,w,x,y,rfl⟩
theorem BS{E H I J:cf}{id:Nat}{K:List Nat}{p:List RD}{A:Nat}(N:P.follows .mixedOrders=true)(h:Fq P G accs f=some (E,id,t,K,H,I,J,p,A))(O:ps.length<=A)(Q:fw (CC P G) aF (Hf P G) E (start A ps) (fun e s=>match e with|.normal=>wg P G aF id t K H I J (ri p m rs) s|e=>ri p m rs e s)):oQ P G f ps m (one? rs):=by obtain⟨B,c,c1,R,a,b,d,L,y,T,U,rfl,r,x,V,W,M,X⟩:=DH h;intro S w l Y Z eQ;unfold dN;have bN:(callFunc f l.toArray).run P w=.ok (.enter f l.toArray) w:=by{have uF:¬B.name= "runtime.NumGoroutine" :=by{simpa using T};simp[callFunc,run_program,L,uF,y]};rw[bN];simp only;refine callsIn_wide.1 (callsIn_of_wp_marks (F:=Fence.wide) (n:=0) L y trivial (wpIn_wide.2 (Jr N x V W (F:=ri p m rs) (fun j s hx=>hx) ?_ ?_ c U r (yE X Y Z eQ O) Q)) rfl);{intro e g q w' z i;have key:(∃l o,mN g p=some l/\Fg ⟨g.slots,l++g.held,g.base,g.mem⟩ o/\o.mem=eU m/\rs.length=l.length/\∃t,o.held=rs++t)->LeavesInM Fence.wide 0 P B q.tmps (fun e C=>∃v,e=.returned v/\Nc S w m (one? rs) v C) q.defers .returning w':=by{intro i;obtain⟨u,r,x⟩:=s7 M z i;obtain⟨γ,S',-,-,qi⟩:=z;rw[qi.defers];exact⟨u,r,u,rfl,x⟩};cases e with|normal=>exact key i|ret=>exact key i|exit id=>exact i.elim};intro e D g q w' z i;have key:(∃l o,mN g p=some l/\Fg ⟨g.slots,l++g.held,g.base,g.mem⟩ o/\o.mem=eU m/\rs.length=l.length/\∃t,o.held=rs++t)->LeavesInM Fence.wide 0 P B q.tmps (fun e C=>∃v,e=.returned v/\Nc S w m (one? rs) v C) q.defers .returning w':=by{intro i;obtain⟨γ,S',a1,a2,a3,d1,d2,d3,d4⟩:=z;rw[a3.defers];refine⟨s_,.inl ⟨D,_,rfl,run_takeDeferred d4,?_⟩⟩;have wR:ft w (fun _=>False) _ G S g q (w'.putObj D (.deferred none)):=⟨γ,S',a1,a2,dW.book a3 (k:=D) (fun b y=>World.putObj_heap_other (fun e=>y e)) s_ rfl rfl rfl d2 d1 d3⟩;obtain⟨u,r,x⟩:=s7 M wR i;exact⟨u,r,u,rfl,x⟩};cases e with|normal=>exact key i|ret=>exact key i|exit id=>exact i.elim
theorem Fs{S:Nat->Prop}{w:World}{ρ:AV->Value->Prop}:∀{ps:List PV} {a:List Value},au S w ρ (ps.map .pv) a->aM S w ps a
|[],a,h=>by simpa only[qaF,au,aM]using h
|p::ps,a,h=>by simp only[qaj,au,lF]at h;obtain⟨v,r,rfl,h1,h2⟩:=h;simp only[aM];exact⟨v,r,rfl,h1,Fs h2⟩
theorem DI{rs:List PV}(h:oQ P G f ps [] (one? (rs.map .pv))):bE P G f ps (match rs with|[p]=>p|rs=>.eN rs):=by intro S w g i j k;refine dN.mono (fun v w' l=>?_) (h S w g i j k);obtain⟨c,γ,S',n,m,-,-,-,a⟩:=l;refine⟨c,?_⟩;have e:bf S' w' (fun b=>S b\/(w.heap.size<=b/\b<w'.heap.size)) w':=fun b c=>⟨m b c,rfl,rfl⟩;rcases rs with _|⟨x,_|⟨y,z⟩⟩;{simp only[qaF,one?,lF]at a;obtain⟨d,rfl,a⟩:=a;simp only[au]at a;simp only[aD];exact⟨d,rfl,by simp only[aM];exact a⟩};{simp only[qaj,qaF,one?,lF]at a;exact aD.later e _ a};simp only[qaj,one?,lF]at a;obtain⟨d,rfl,a⟩:=a;simp only[aD];refine⟨d,rfl,aM.later e _ ?_⟩;exact Fs (by simpa only[qaj]using a)
theorem j0{C:CT}{A:Ar}{I:IC}{Q:Ex->St->Prop}{e:Ex}(h:Q e s):(bp.fin e s).holds C A I Q:=h
theorem G5{A:Ar}{id:Nat}{ps:List Nat}{i l f:cf}(a:St)(m:Fg st a)(g:FuncId)(b:List PV)(c:R_)(u:Nat->List (Option Obj))(ok:Nat->Prop)(n:a.slot t=.pv (.gM g b))(h:ItC P G g b c)(o:∀x∈c,x.length=ps.length)(p:⟨a.slots,a.held,a.base,u 0⟩=a)(q:∀k (w:k<c.length),(∀j,j<k->ok j)->fw (CC P G) A (Hf P G) i ⟨G4 ps c[k] a.slots,a.slots++a.held,a.base,u k⟩ fun e s=>e=.normal/\fw (CC P G) A (Hf P G) l s fun e r=>∃d,Fg r d/\d.held=a.slots++a.held/\match e with
   |.normal=>ok k/\d.mem=u (k+1)
   |.ret=>F .ret ⟨a.slots,a.held,a.base,d.mem⟩
   |.exit j=>j=id/\fw (CC P G) A (Hf P G) f ⟨a.slots,a.held,a.base,d.mem⟩ F)(v:(∀j,j<c.length->ok j)->fw (CC P G) A (Hf P G) f ⟨a.slots,a.held,a.base,u c.length⟩ F):wg P G A id t ps i l f F st:=
 ⟨a,m,g,b,c,u,ok,n,h,o,by rw[p];exact Fg.refl _,q,v⟩
theorem afr{A:Ar}{Q:Ex->St->Prop}{a:List AV}{d:Option Nat}{c:List Item}{b:Nat}{rows:R_}(h:dB st.mem a=some (ps,false))(e:jW a=true)(g:oQ P G f ps [(b,rows)] (.c8 0 0))(i:aj st.mem (st.base+d.getD 0)=none)(hl:st.base+d.getD 0<st.mem.length)(j:bH (CC P G) A (Hf P G) c Q .normal ((st.aq (st.base+d.getD 0) (.rows b rows 0)).put d (.c8 (st.base+d.getD 0) 0))):(bp.afq f a d st c).holds (CC P G) A (Hf P G) Q:=.inr ⟨e,ps,b,rows,h,⟨rows,rfl,g⟩,i,hl,j⟩
def MO(c:List RD)(n a:Nat)(K:AV->St->Prop)(e:Ex)(st:St):Prop:=∃b,Fg st b/\u0 c n a K e b
theorem Oa{D:cf}{t:List RD}(g:P.follows .mixedOrders=true)(h:gF P G accs f=some (D,t,l)){d:List AV}{K:AV->St->Prop}(M:fw (CC P G) aF (Hf P G) D (enter l d st) (MO t st.slots.length st.base K)):Hf P G f d st K:=by obtain⟨y,c,E,p,N,O,Q,F⟩:=acy h;intro w0 own0 hvs S0 γ S a w vs bg Cy m H;have n:=au.length H;unfold dN;have R:(callFunc f vs.toArray).run P w=.ok (.enter f vs.toArray) w:=by{have T:¬y.name= "runtime.NumGoroutine" :=by{simpa using N};simp[callFunc,run_program,E,T,p]};rw[R];simp only;refine qdc E p ?_;have z:∀i,aj (st.mem++List.replicate l none) i=aj st.mem i:=by{intro i;unfold aj;by_cases A:i<st.mem.length;{simp[List.getD_eq_getElem?_getD,qaQ A]};simp[List.getD_eq_getElem?_getD,qaV (qby A),qa0 (qby A),qbD];split<;>rfl};have hρ:∀x v,Ref γ S w st.mem x v->Ref γ S w (st.mem++List.replicate l none) x v:=Ref.later (bf.refl S w) (fun id s g=>⟨by rw[z];exact g,rfl,fun _ _=>⟨rfl,rfl⟩⟩);have U:au S w (Ref γ S w st.mem) st.slots a.tmps.toList:=au.vP (by simpa using m.size) (fun i=>by have:=m.slot i;simpa only[St.slot,qaJ,List.getD_eq_getElem?_getD,qbc]using this);have V:ft w0 own0 (a.tmps.toList++hvs.1,[]) G S0 (enter l d st) {tmps:=vs.toArray++Array.replicate (y.ntmps-vs.toArray.size) undef,defers:=[]} w:=by{refine⟨γ,S,bg,Cy,{m with size:=?_,slot:=?_,held:=?_,defers:=rfl,mem:=?_,lU:=?_}⟩;{simp[enter,n,F]};{intro i;have B:au S w (Ref γ S w (enter l d st).mem) (d++List.replicate (l-d.length) .dead) (vs++List.replicate (l-d.length) undef):=au.append (au.later (bf.refl S w) hρ _ H) (au.XZ _);have:=au.slots B i;simpa[enter,St.slot,n,F,List.getD_eq_getElem?_getD,qaJ,<-qbc]using this};{exact au.later (bf.refl S w) hρ _ (au.append U m.held)};{intro id s g;simp only[enter]at g;rw[z]at g;exact eK.later (bf.refl S w) hρ rfl (fun _ _=>rfl) (m.mem id s g)};intro i b p;simp only[enter];rw[z];exact m.lU i b p};refine nH g c O V M ?_;intro e Zp I w' W k;obtain⟨j,X,k⟩:=k;obtain⟨γ',S',Y,Z,q⟩:=mo X W;have key:(match lT t j with|some v=>K v (leave st.slots.length st.base j)|none=>False)->I.defers=[]/\∃v,(results y I.tmps).run P w'=.ok v w'/\∃J,Ending.returned v=.returned J/\ ∃r o γ' S',K r o/\(∀b,S0 b->S' b)/\(∀b,S' b->S0 b\/w0.heap.size<=b\/own0 b)/\dW w0 own0 hvs G γ' S' o a w'/\lF S' w' (Ref γ' S' w' o.mem) r J:=by{intro k;split at k;{rename_i v hv;obtain⟨u,B,h2⟩:=vN q Q hv;have hρ':∀x v,Ref γ' S' w' j.mem x v->Ref γ' S' w' (AR j.base j.mem) x v:=Ref.later (bf.refl S' w') (fun id s g=>⟨by rw[oU];exact g,rfl,fun _ _=>⟨rfl,rfl⟩⟩);have Br:=au.later (bf.refl S' w') hρ' _ q.held;obtain⟨C,L⟩:=au.cut Br;have X0:a.tmps.toList.length=st.slots.length:=by{simpa using m.size.symm};rw[X0]at C L;have Zo:=au.length C;refine⟨q.defers,u,B,u,rfl,v,_,γ',S',k,Y,Z,{q with size:=?_,slot:=?_,held:=L,defers:=m.defers,mem:=?_,lU:=?_},lF.later (bf.refl S' w') hρ' _ h2⟩;{simp only[leave];simpa using Zo.symm};{intro i;have:=au.slots C i;simpa only[leave,St.slot,qaJ,List.getD_eq_getElem?_getD,qbc]using this};{intro id s g;simp only[leave]at g;rw[oU]at g;exact eK.later (bf.refl S' w') hρ' rfl (fun _ _=>rfl) (q.mem id s g)};intro i b p;simp only[leave];rw[oU];exact q.lU i b p};exact k.elim};cases e with|normal=>exact key k|ret=>exact key k|exit id=>exact k.elim
theorem IQ{c:List RD}{b:Nat}{K:AV->St->Prop}{a:St}{v:AV}(d:Fg s a)(e:lT c a=some v)(h:K v (leave n b a)):MO c n b K .ret s:=by refine⟨a,d,?_⟩;simp only[u0,e];exact h
theorem aie{C:CT}{A:Ar}{I:IC}{c:List RD}{b:Nat}{K:AV->St->Prop}{a:St}{v:AV}(d:Fg s a)(e:lT c a=some v)(h:K v (leave n b a)):(bp.fin .ret s).holds C A I (MO c n b K):=IQ d e h
def V8:cf->Bool
 |.pA (_::_) none=>true
 |.pA _ (some _)=>true
 |.seq a _=>V8 a
 |_=>false
theorem o7{C:CT}{A:Ar}{I:IC}:∀{c:cf} {st e:St} {Q:Ex->St->Prop},V8 c=true->Fg st e->fw C A I c e Q->fw C A I c st Q
|.pA (x::xs) none,st,e,Q,_,hf,h=>by simp only[fw,bP]at h ⊢;obtain⟨f,h1,h2⟩:=h;exact⟨f,Fg.trans hf h1,h2⟩
|.pA l (some lt),st,e,Q,_,hf,h=>by simp only[fw]at h ⊢;obtain⟨f,h1,h2⟩:=h;exact⟨f,Fg.trans hf h1,h2⟩
|.seq a b,st,e,Q,d,hf,h=>by simp only[fw]at h ⊢;exact o7 (c:=a) d hf h
|.pA [] none,_,_,_,d,_,_=>by cases d
|.skip,_,_,_,d,_,_=>by cases d
|.cond ..,_,_,_,d,_,_=>by cases d
|.block ..,_,_,_,d,_,_=>by cases d
|.loop _,_,_,_,d,_,_=>by cases d
|.exit _,_,_,_,d,_,_=>by cases d
|.ret,_,_,_,d,_,_=>by cases d
theorem JE{C:CT}{A:Ar}{I:IC}{c:cf}{r:List Item}{a:St}{Q:Ex->St->Prop}(b:V8 c=true)(d:Fg st a)(h:bH C A I (.code c::r) Q .normal a):bH C A I (.code c::r) Q .normal st:=by simp only[bH]at h ⊢;exact o7 b d h
section
variable (C:CT) (A:Ar) (I:IC) (T:Mj)
def akw(d:Option Nat):Out->Option (Prop×Ev)
 |.val v=>some (True,⟨d,v,none⟩)
 |.dG p v=>some (p,⟨d,v,none⟩)
 |_=>none
def alD(d:Option Nat)(st:St):sE->Option (Prop×Ev)
 |.pure o=>akw d o
 |.rd id f=>match aj st.mem id with
  |some a=>akw d (f a)
  |none=>none
def ac7:List AI->List (List Nat)->List eP->St->List (Ev×eP)->(List (Ev×eP)->Prop)->Prop
 |[],_,_,_,acc,K=>K acc
 |x::xs,lt,a,st,acc,K=>match x.g with
  |some _=>False
  |none=>match alD x.d st (KA A (st.base+x.d.getD 0) x.op st.ev)with
   |none=>False
   |some (p,e)=>p/\iy (lt.headD []) (eC (st.base+x.d.getD 0) st (KA A (st.base+x.d.getD 0) x.op st.ev)) 0 a=true/\
     ac7 xs lt.tail (a++[eC (st.base+x.d.getD 0) st (KA A (st.base+x.d.getD 0) x.op st.ev)]) (e.app st) (acc++[(e,eC (st.base+x.d.getD 0) st (KA A (st.base+x.d.getD 0) x.op st.ev))]) K
theorem ac7.trace:∀{l:List AI} {lt:List (List Nat)} {c:List eP} {st:St} {a:List (Ev×eP)} {K:List (Ev×eP)->Prop},ac7 A l lt c st a K->∃r,Trace C A l lt c st r/\K (a++r)
|[],lt,c,st,a,K,h=>⟨[],rfl,by simpa[ac7]using h⟩
|x::xs,lt,c,st,a,K,h=>by unfold ac7 at h;split at h;{exact h.elim};rename_i k;split at h;{exact h.elim};rename_i p e b;obtain⟨g,m,n⟩:=h;obtain⟨r,h1,h2⟩:=ac7.trace n;refine⟨(e,_)::r,⟨e,_,r,rfl,.inl ⟨by simp[guardOf,k],?_,rfl⟩,m,h1⟩,by simpa using h2⟩;have key:∀{o:Out} {p:Prop} {e:Ev},akw x.d o=some (p,e)->p->dd C x.d (st.base+x.d.getD 0) st o e:=by{intro o p e i g;cases o<;>simp only[akw,qaa,qas,reduceCtorEq]at i;{obtain⟨-,rfl⟩:=i;rfl};obtain⟨rfl,rfl⟩:=i;exact⟨g,rfl⟩};cases j:KA A (st.base+x.d.getD 0) x.op st.ev with|pure o=>rw[j]at b;exact key b g|rd id f=>rw[j]at b;simp only[alD]at b;split at b;{rename_i q s;exact⟨q,s,key b g⟩};cases b
def agr(x:AI)(b:List AI)(lt:List (List Nat))(c:List Item)(Q:Ex->St->Prop)(a:St):Prop:=
 match KA A (a.fresh x) x.op a.ev with
 |.pure (.call f args)=>match T f with
  |some (ac,e,g)=>bH C A I (.code ac::.frame e a.slots.length a.base x.d::.fD b lt []::c) Q .normal (enter g args a)
  |none=>False
 |_=>False
theorem Sx{x:AI}{c:List AI}{lt:List (List Nat)}{e:List Item}{Q:Ex->St->Prop}{b:St}{a:List AV}{g:cf}{i:List RD}{j:Nat}(k:KA A (b.fresh x) x.op b.ev=.pure (.call f a))(l:T f=some (g,i,j))(h:bH C A I (.code g::.frame i b.slots.length b.base x.d::.fD c lt []::e) Q .normal (enter j a b)):agr C A I T x c lt e Q b:=by unfold agr;grind
end
theorem yz{C:CT}{A:Ar}{I:IC}{T:Mj}(hT:oI C A I T){ops:List AI}{lt:List (List Nat)}{b:List Item}{Q:Ex->St->Prop}(c:Nat)(x:AI)(d:List (List Bool))(h1:xM ops=true)(h2:ops[c]? =some x)(j:x.g=none)(k:(zz lt c 0 ops.length).filter (Jg lt)=d)(h:ac7 A (jg (fun i=>(i==c)||(lt.getD i []).contains c) 0 ops) lt [] st [] fun r=>∀Z∈d,agr C A I T x (jg (fun i=>(i==c)||Z.getD i false) 0 ops) lt b Q (cM (fun i=>Z.getD i false) 0 (r.map (·.1)) st)): bH C A I (.code (.pA ops (some lt))::b) Q .normal st:=by simp only[bH,fw];refine⟨st,.refl _,.inr ⟨h1,c,x,h2,j,?_⟩⟩;obtain⟨r,l,e⟩:=ac7.trace C A h;rw[qbi]at e;refine⟨r,l,fun Z m=>?_⟩;obtain⟨n,w,y,z,B⟩:=m;have o:Z∈zz lt c 0 ops.length:=by{refine BH lt c _ 0 Z n ?_ ?_;all_goals grind};have p:Jg lt Z=true:=by{unfold Jg;all_goals grind};have hs:=e Z (by rw[<-k];exact qba.2 ⟨o,p⟩);unfold agr at hs;unfold gO;split at hs;{rename_i f a q;rw[q];split at hs;{rename_i s t u v;exact .inr (hT f s t u v a _ _ hs)};all_goals grind};all_goals grind
theorem Gj{C:CT}{A:Ar}{I:IC}(hI:Gv I){a b:cf}{c:List Item}{Q:Ex->St->Prop}{d:St}(g:V8 b=true)(h1:bH C A I [.code a] (fun e f=>e=.normal/\Fg f d) .normal s)(h2:bH C A I (.code b::c) Q .normal d):bH C A I (.code a::.code b::c) Q .normal s:=by simp only[bH]at h1 h2 ⊢;refine fC hI a (fun e f h=>?_) h1;obtain⟨rfl,i⟩:=h;simp only[bH];exact o7 g i h2
theorem nM{C:CT}{A:Ar}{I:IC}{a:St}(h:Fg s a):(bp.fin .normal s).holds C A I (fun e b=>e=.normal/\Fg b a):=⟨rfl,h⟩
theorem iB{A:Ar}{x:AI}{lt:List (List Nat)}{c:List eP}{a:St}{b:List (Ev×eP)}{p:Prop}{e:Ev}{f:eP}(j:x.g=none)(k:alD x.d st (KA A (st.base+x.d.getD 0) x.op st.ev)=some (p,e))(l:eC (st.base+x.d.getD 0) st (KA A (st.base+x.d.getD 0) x.op st.ev)=f)(m:p)(n:iy (lt.headD []) f 0 c=true)(hs:e.app st=a)(h:ac7 A i lt.tail (c++[f]) a (b++[(e,f)]) K):ac7 A (x::i) lt c st b K:=by unfold ac7;grind
theorem gx{A:Ar}{x:AI}{lt:List (List Nat)}{c:List eP}{a:St}{b:List (Ev×eP)}{e:Ev}{f:eP}(h:ac7 A i lt.tail (c++[f]) a (b++[(e,f)]) K)(j:x.g=none:=by rfl)(k:alD x.d st (KA A (st.base+x.d.getD 0) x.op st.ev)=some (True,e):=by cbv)(l:eC (st.base+x.d.getD 0) st (KA A (st.base+x.d.getD 0) x.op st.ev)=f:=by cbv)(m:iy (lt.headD []) f 0 c=true:=by cbv)(hs:e.app st=a:=by cbv):ac7 A (x::i) lt c st b K:=iB j k l trivial m hs h
theorem l7{A:Ar}{lt:List (List Nat)}{b:List eP}{a:List (Ev×eP)}(h:K a):ac7 A [] lt b st a K:=h
theorem aiT{P:α->Prop}{a b c:α}(h1:P a)(h2:P b)(d:P c):∀z∈[a,b,c],P z:=by grind
theorem Wi{P:α->Prop}{a:α}(h1:P a):∀z∈[a],P z:=by intro z b;rw[qaO]at b;subst b;exact h1
end Go.Am
