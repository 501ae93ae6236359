import Derived.RangeFuncIn
import Derived.RangeFuncRecord
import Derived.RangeFuncLeaves
import Derived.RangeFuncCalls
import Derived.OrdersIn
import Derived.TacticsIn
import Derived.Test.YtfaccbkibjkfjaaGreatDoorT07
set_option linter.all false
set_option maxRecDepth 100000
set_option maxHeartbeats 1000000
namespace Go.Am
section
variable {γ γ':Nat->Option Nat} {S:Nat->Prop} {w:World} {m m':List (Option Obj)} {A:Ar} {C:CT} {G:Nat->Option (List PV)} {I:IC} {P:Program} {Q:Ex->St->Prop} {a:List Item} {accs:List Nat} {b:List (Nat×R_)} {d:List RD} {f:FuncId} {g:List (Nat×R_)} {hvs:List Value×List Deferred} {n:Nat} {p:Nat->Prop} {ps:List PV} {r:Int} {s st:St} {v:Value} {x:AV} {ρ:AV->Value->Prop}
def eW(p:Nat->Prop)(n:Nat)(r:Int):Prop:=((∀k,k<n->¬p k)/\r= -1)\/∃v,v<n/\p v/\(∀k,k<v->¬p k)/\r=Int.ofNat v
theorem eW.ex(p:Nat->Prop)(n:Nat):∃r,eW p n r:=by have:(∀k,k<n->¬p k)\/∃v,v<n/\p v/\∀k,k<v->¬p k:=by{induction n with|zero=>simp_all|succ n d=>grind};rcases this with h|⟨v,a,b,c⟩;{exact⟨_,.inl ⟨h,rfl⟩⟩};exact⟨_,.inr ⟨v,a,b,c,rfl⟩⟩
theorem eW.at(h:eW p n r){v:Nat}(a:v<n)(b:p v)(c:∀k,k<v->¬p k):r=Int.ofNat v:=by rcases h with⟨h,-⟩|⟨u,d,e,f,g⟩;{simp_all};rcases qcG u v with hl|hl|hl;{simp_all};{simp_all};simp_all
theorem eW.none(h:eW p n r)(a:∀k,k<n->¬p k):r= -1:=by rcases h with⟨-,h⟩|⟨u,b,c,d,e⟩;{exact h};simp_all
theorem eW.iff(h:eW p n r):0<=r↔∃v,v<n/\p v:=by rcases h with⟨h,rfl⟩|⟨u,a,b,c,rfl⟩;{simp_all};grind
theorem vW{x:AI}{xs:List AI}{r:List Item}{a:St}(b:Fg st a)(h:bH C A I (.ops (x::xs)::r) Q .normal a):bH C A I (.ops (x::xs)::r) Q .normal st:=by obtain⟨c,d,e⟩:=h;exact⟨c,Fg.trans b d,e⟩
theorem BA(h:bH C A I a Q .normal st):(bp.go st a).holds C A I Q:=h
theorem GU{st:Nat->St}(h:∀i,p i->bH C A I a Q .normal (st i)):(bp.all p st a).holds C A I Q:=h
theorem Fg.M0{a:St}{id:Nat}{cs:List AV}(h1:aj s.mem id=some (.cells cs))(h2:AV.lQ cs=some ps)(b:s.AP id (j9 ps)=a):Fg s a:=b▸Fg.HU h1 h2
theorem Fg.ZC{a:St}{id kn:Nat}{b c:Bool}{rows:R_}(h1:aj s.mem id=some (.map b c kn rows))(d:s.AP id (oF b c kn rows)=a):Fg s a:=d▸Fg.an8 h1
theorem Fg.sC{s':St}{id sz ver:Nat}{rs:R_}(h1:aj s.mem id=some (.rows sz rs ver))(a:s.AP id (iP rs ver)=s'):Fg s s':=a▸Fg.AQ h1
def Q4(n:Nat):AV->AV
 |.c8 i v=>.c8 (n+i) v
 |.pv p=>.pv p
 |.full r=>.full r
 |_=>.dead
def ZF(n:Nat):AV->AV
 |.agg cs=>.agg (cs.map (Q4 n))
 |x=>Q4 n x
def ZG(n:Nat):AV->AV
 |.eN cs=>.eN (cs.map (ZF n))
 |x=>ZF n x
theorem tX{i:Nat}{a:Obj}(h:aj (eU b) i=some a):∃c d,a=.rows c d 0:=by grind[aj,eU]
theorem nN(i:Nat):aj (m++m') i=if i<m.length then aj m i else aj m' (i-m.length):=by grind[aj]
theorem Fk(hγ:∀i,γ' (m.length+i)=γ i)(h:lF S w (Ref γ S w m') x v):lF S w (Ref γ' S w (m++m')) (Q4 m.length x) v:=by cases x with|c8 i a=>simp_all[Q4,lF,Ref,nN,qai]|pv p=>grind[Q4,lF]|full r=>grind[Q4,lF]|_=>grind[Q4,lF]
theorem BJ(hγ:∀i,γ' (m.length+i)=γ i):∀{xs:List AV} {a:List Value},au S w (Ref γ S w m') xs a->au S w (Ref γ' S w (m++m')) (xs.map (Q4 m.length)) a
|[],a,h=>by grind[au]
|x::xs,a,h=>by obtain⟨v,r,rfl,h1,h2⟩:=h;exact⟨v,r,rfl,Fk hγ h1,BJ hγ h2⟩
theorem Fl(hγ:∀i,γ' (m.length+i)=γ i)(h:lF S w (Ref γ S w m') x v):lF S w (Ref γ' S w (m++m')) (ZF m.length x) v:=by cases x with|agg cs=>grind[ZF,lF,BJ]|_=>exact Fk hγ h
theorem BK(hγ:∀i,γ' (m.length+i)=γ i):∀{xs:List AV} {a:List Value},au S w (Ref γ S w m') xs a->au S w (Ref γ' S w (m++m')) (xs.map (ZF m.length)) a
|[],a,h=>by grind[au]
|x::xs,a,h=>by obtain⟨v,r,rfl,h1,h2⟩:=h;exact⟨v,r,rfl,Fl hγ h1,BK hγ h2⟩
theorem Na(hγ:∀i,γ' (m.length+i)=γ i)(h:lF S w (Ref γ S w m') x v):lF S w (Ref γ' S w (m++m')) (ZG m.length x) v:=by cases x with|eN cs=>grind[ZG,lF,BK]|_=>exact Fl hγ h
theorem yD{ρ':AV->Value->Prop}{id b:Nat}{a:Obj}(e:∃c d,a=.rows c d 0)(hγ:γ' b=γ id)(h:eK γ S w ρ id a):eK γ' S w ρ' b a:=by grind[eK]
theorem BL{o:List AV}{K:AV->St->Prop}{s:List (Nat×R_)}{r:AV}(B:oQ P G f ps s r)(hl:dB st.mem o=some (ps,false))(C:K (ZG st.mem.length r) ⟨st.slots,st.held,st.base,st.mem++eU s⟩):Hf P G f o st K:=by intro w0 own0 hvs S0 γ S a w vs bg Cy l D;have E:aM S w ps vs:=aM.later (fun b m=>⟨m.elim id (fun h=>nomatch h.1),rfl,rfl⟩) _ (ac5 l hl D);refine dN.mono (fun v w' F=>?_) (B S w vs l.bound l.jn E);obtain⟨m,γf,p,y,z,H,M,N,O⟩:=F;obtain⟨c,Q,hρ⟩:=dW.grow l (w':=w') (S':=p) m.block m.size m.os m.tape m.output y z;obtain⟨n,R⟩:∃n,n=st.mem.length:=⟨_,rfl⟩;(obtain⟨γ',hγ'⟩:∃γ':Nat->Option Nat,γ'=fun i=>if i<n then γ i else γf (i-n):=⟨_,rfl⟩);have I:∀i,i<n->γ' i=γ i:=fun i e=>a_;have q:∀i b,γ' i=some b->(i<n/\γ i=some b)\/∃j,i=n+j/\γf j=some b:=fun i b e=>by{grind};have hρ2:∀x v,Ref γ p w' st.mem x v->Ref γ' p w' (st.mem++eU s) x v:=Ref.later (bf.refl p w') (fun id A t=>by grind[mS,nN]);refine⟨ZG st.mem.length r,_,γ',p,C,fun b m=>y b (bg b m),?_,?_,?_⟩;{intro b J;rcases z b J with h|h;{grind};have:=l.eY;omega};{exact{size:=c.size,slot:=fun i=>lF.later (bf.refl p w') hρ2 _ (c.slot i),held:=au.later (bf.refl p w') hρ2 _ c.held,defers:=c.defers,mem:=fun id A t=>by simp[nN]at t;by_cases e:id<st.mem.length;{rw[qao e]at t;exact eK.later (bf.refl p w') hρ2 (I id o_) (fun _ _=>rfl) (c.mem id A t)};grind[yD,tX],lU:=fun i b e=>by simp only[nN];rcases q i b e with⟨h,d⟩|⟨j,rfl,d⟩;{rw[qao o_];exact l.lU i b d};grind[aj,eU],inj:=fun i j b e L=>by rcases q i b e with⟨h,d⟩|⟨k,rfl,d⟩<;>rcases q j b L with⟨g,u⟩|⟨T,rfl,u⟩;{exact l.inj i j b d u};{have:=l.eJ i b d;grind};{have:=l.eJ j b u;grind};grind,own:=fun i b e=>by rcases q i b e with⟨h,d⟩|⟨j,rfl,d⟩;{exact c.own i b d};have:=(H j b d).2;have:=l.eY;grind,bound:=c.bound,eJ:=fun i b e=>by rcases q i b e with⟨h,d⟩|⟨j,rfl,d⟩;{exact c.eJ i b d};grind,jn:=c.jn,kept:=c.kept,os:=c.os,tape:=c.tape,output:=c.output,eY:=c.eY}};grind[Na]
theorem CA{a:List AV}{d:Option Nat}{b:List Item}{c:List (Nat×R_)}{r:AV}(h:dB st.mem a=some (ps,false))(e:oQ P G f ps c r)(g:bH (CC P G) A (Hf P G) b Q .normal (St.put ⟨st.slots,st.held,st.base,st.mem++eU c⟩ d (ZG st.mem.length r))):(bp.call f a d st b).holds (CC P G) A (Hf P G) Q:=.inr (BL e h g)
def ahR:List Value->Value
 |[u]=>u
 |us=>.tuple us.toArray
theorem Nb:∀{b:List AV} {a:List Value},au S w ρ b a->lF S w ρ (one? b) (ahR a)
|[],a,h=>by grind[au,one?,ahR,lF]
|[x],a,h=>by obtain⟨u,r,rfl,c,rfl⟩:=h;exact c
|x::y::z,a,h=>by have d:=h;obtain⟨u,_,rfl,_,e,f,rfl,_⟩:=h;grind[one?,ahR,lF]
theorem BN{w0:World}{own0:Nat->Prop}{a:Act}(h:dW w0 own0 hvs G γ S st a w){c:Func}{f:List AV}(g:fe P c.results.toList=some d)(i:mN st d=some f):∃b,(results c a.tmps).run P w=.ok (ahR b) w/\au S w (Ref γ S w st.mem) f b:=by obtain⟨b,l,j⟩:=vM h g i;refine⟨b,?_,j⟩;have k:(results c a.tmps).run P w=.ok (if m:b.toArray.size=1 then b.toArray[0]else .tuple b.toArray) w:=by{have e:c.results=c.results.toList.toArray:=s_;unfold results;rw[e,List.mapM_toArray];grind[Sem.run_bind,Sem.run_pure,map_eq_pure_bind,Result.andThen]};rw[k];rcases b with _|⟨x,_|⟨y,z⟩⟩<;>simp[ahR]
def ri(d:List RD)(e:List (Nat×R_))(c:List AV):Ex->St->Prop
 |.exit _,_=>False
 |_,st=>∃a b,mN st d=some a/\Fg ⟨st.slots,a++st.held,st.base,st.mem⟩ b/\b.mem=eU e/\c.length=a.length/\∃t,b.held=c++t
def Nc(S:Nat->Prop)(w:World)(a:List (Nat×R_))(r:AV)(v:Value)(w':World):Prop:=
 RowKit.Below w.heap.size w w'/\∃(γ:Nat->Option Nat) (S':Nat->Prop),(∀b,S b->S' b)/\(∀b,S' b->S b\/(w.heap.size<=b/\b<w'.heap.size))/\
   (∀i b,γ i=some b->i<a.length/\¬S' b/\w.heap.size<=b/\b<w'.heap.size)/\(∀i j b,γ i=some b->γ j=some b->i=j)/\
   (∀i c,aj (eU a) i=some c->eK γ S' w' (fun _ _=>True) i c)/\lF S' w' (Ref γ S' w' (eU a)) r v
theorem s7{p:Func}{q:List RD}(u:fe P p.results.toList=some q){w':World}{st':St}{f:Act}{e:List AV}(x:ft w (fun _=>False) hvs G S st' f w')(y:∃d j,mN st' q=some d/\Fg ⟨st'.slots,d++st'.held,st'.base,st'.mem⟩ j/\j.mem=eU g/\e.length=d.length/\∃t,j.held=e++t):∃v,(results p f.tmps).run P w'=.ok v w'/\Nc S w g (one? e) v w':=by obtain⟨d,K,z,A,B,r,t,L⟩:=y;obtain⟨γ0,S0,bg,Cy,l⟩:=x;obtain⟨m,C,D⟩:=BN l u z;obtain⟨γ,S',bg,Cy,a⟩:=mo A (⟨γ0,S0,bg,Cy,{l with held:=au.append D l.held}⟩:ft w (fun _=>False) (m++hvs.1,hvs.2) G S ⟨st'.slots,d++st'.held,st'.base,st'.mem⟩ f w');have E:=a.held;have F:m.length=e.length:=by{grind[au.length]};have M:=(au.cut E).1;refine⟨ahR m,C,⟨a.os,a.tape,a.output,a.eY,fun k H=>a.kept k H (fun h=>h)⟩,γ,S',bg,?_,?_,a.inj,?_,?_⟩;{intro b s;rcases Cy b s with n|n|n;{simp_all};{exact .inr ⟨n,a.bound b s⟩};simp_all};{intro i b c;refine⟨?_,(a.own i b c).1,(a.own i b c).2.elim id (fun h=>h.elim),a.eJ i b c⟩;have I:=a.lU i b c;rw[B]at I;cases hm:aj (eU g) i with|none=>simp_all|some o=>have:=mS hm;grind[eU]};{intro i J c;exact yD (tX c) rfl (a.mem i J a_)};grind[Nb]
theorem yE{c:List Value}{a:Nat}(j:n=a)(f:∀b,S b->b<w.heap.size)(g:rh G S w)(d:aM S w ps c)(k:ps.length<=a): ft w (fun _=>False) ([],[]) G S (start a ps) {tmps:=c.toArray++Array.replicate (n-c.toArray.size) undef,defers:=[]} w:=by have e:=aM.uE d;have l:∀id,aj (start a ps).mem id=none:=by{grind[start,aj]};refine⟨fun _=>none,S,fun _ h=>h,fun _ h=>.inl h,{size:=?_,slot:=?_,held:=?_,defers:=rfl,mem:=?_,lU:=?_,inj:=?_,own:=?_,bound:=f,eJ:=?_,jn:=g,kept:=fun _ _ _=>rfl,os:=rfl,tape:=rfl,output:=rfl,eY:=qak _}⟩;{grind[start]};{intro i;have:=xD (nt:=a) (ρ:=Ref (fun _=>none) S w (start a ps).mem) d (a-ps.length) i;grind[start,St.slot]};{rfl};{simp_all};{simp_all};{simp_all};{simp_all};simp_all
theorem zC(q:P.follows .mixedOrders=true){a:Func}{c:Code}{m:cf}{j:List RD}{k:Nat}(r:P.funcs[f]? =some a)(s:a.body=some c)(J:(a.name== "runtime.NumGoroutine")=false)(x:bD P G accs c=some m)(y:fe P a.results.toList=some j)(z:a.ntmps=k){b:List AV}(A:ps.length<=k)(h:bH (CC P G) aF (Hf P G) [.code m] (ri j g b) .normal (start k ps)):oQ P G f ps g (one? b):=by intro S w d B C D;unfold dN;have E:(callFunc f d.toArray).run P w=.ok (.enter f d.toArray) w:=by{simp_all[callFunc]};rw[E];refine qdc r s (nH q c x (yE z B C D A) (Qa:=ri j g b) h ?_);intro e st' n w' o i;have key:(∃d l,mN st' j=some d/\Fg ⟨st'.slots,d++st'.held,st'.base,st'.mem⟩ l/\l.mem=eU g/\b.length=d.length/\∃t,l.held=b++t)->n.defers=[]/\∃v,(results a n.tmps).run P w'=.ok v w'/\∃p,Ending.returned v=.returned p/\Nc S w g (one? b) p w':=by{intro i;obtain⟨u,F,H⟩:=s7 y o i;obtain⟨γ,S',-,-,I⟩:=o;exact⟨I.defers,u,F,u,rfl,H⟩};cases e with|normal=>exact key i|ret=>exact key i|exit id=>exact i.elim
theorem BO{b:cf}{c:List RD}{a:Nat}(e:P.follows .mixedOrders=true)(h:gF P G accs f=some (b,c,a)){d:List (Nat×R_)}{rs:List AV}(g:ps.length<=a)(i:bH (CC P G) aF (Hf P G) [.code b] (ri c d rs) .normal (start a ps)):oQ P G f ps d (one? rs):=by grind[acy,zC]
theorem fg{e:List (Nat×R_)}{b:List AV}{a:St}{vs t:List AV}(c:List (Option Nat))(f:mN s d=some vs)(g:jN c=true)(h:St.tidy ⟨s.slots,vs++s.held,s.base,s.mem⟩ [] c=a)(i:a.mem=eU e)(hl:b.length=vs.length)(j:a.held=b++t):ri d e b .ret s:=⟨vs,a,f,Fg.ca [] c g h,i,hl,t,j⟩
theorem o6{a:List RD}{c:List AV}(h:ri a b c .ret s):(bp.fin .ret s).holds C A I (ri a b c):=h
def Kz(a:Nat)(rows:R_):Bool:=rows.all fun r=>r.length==a
def ad4(a:Nat)(rows:R_):Bool:=rows.all fun r=>(r.length==a)&&r.all fun p=>(AV.pv p).one
def MH(xs b:R_)(a c:Nat):Bool:=
 Nat.ble ((xs.length+b.length+256)*a) 70368744177664&&(Nat.ble (xs.length+b.length) 70368744177664&&(ad4 c b&&Kz c xs))
def BU{α:Type}:List α->Bool
 |[]=>true
 |_::_=>false
def rneB(xs a:R_):Bool:=BU xs|| !BU a
def akB(xs b:List (List AV))(a c:Nat):Bool:=
 Nat.ble ((xs.length+b.length+256)*a) 70368744177664&&(Nat.ble (xs.length+b.length) 70368744177664&&((b.all fun r=>(r.length==c)&&kE r)&&(xs.all fun r=>r.length==c)))
def ad5(j:Int)(rows:R_)(a:Nat):Bool:=decide (0<=j)&&(decide (j<rows.length)&&((rows.getD j.toNat []).length==a))
def ainB(j:Int)(rows:List (List AV))(a:Nat):Bool:=decide (0<=j)&&(decide (j<rows.length)&&((rows.getD j.toNat []).length==a))
def IQ(l h:Int)(rows:R_)(a:Nat):Bool:=decide (0<=l)&&(decide (l<=h)&&(decide (h<=rows.length)&&(decide (l=0)||Kz a rows)))
def rbdB(l h:Int)(rows a:R_)(b:Nat):Bool:=decide (0<=l)&&(decide (l<=h)&&(decide (h<=rows.length+a.length)&&(decide (l=0)||Kz b (rows++a))))
def Uk(rows:R_):Bool:=rows.all fun r=>match r with|[.int .u8 _]=>true|_=>false
def qv:List Nat->List PV->List PV->Bool
 |[],[],[]=>true
 |0::sh,.bool _::r,.bool _::s=>qv sh r s
 |1::sh,.int k _::r,.int a _::s=>decide (k=a)&&qv sh r s
 |2::sh,.str _::r,.str _::s=>qv sh r s
 |_,_,_=>false
def Ze(a:List Nat)(kn:Nat)(rows:R_)(k:List PV):Bool:=(k.length==kn)&&(qv a k k&&rows.all fun r=>qv a k (r.take kn))
def akC(s:B_):List (B_×AV)->Bool
 |[]=>true
 |(t,_)::r=>(!decide (s=t))&&akC s r
def aoe(j:Int)(n:Nat):Bool:=decide (0<=j)&&decide (j<n)
def mkpB(l c:Int)(b:Nat):Bool:=decide (0<=l)&&(decide (l<=c)&&(decide (c*b<=140737488355328)&&decide (c<=140737488355328)))
def Jm(a:Nat)(x:AV)(b c:Option Int):Bool:=
 match x with
 |.pv (.sl rows spare)=>match c with
  |none=>IQ (b.getD 0) rows.length rows a
  |some h=>match spare with
   |[]=>IQ (b.getD 0) h rows a
   |s=>rbdB (b.getD 0) h rows s a
 |.full rows=>match c with
  |none=>IQ (b.getD 0) rows.length rows a
  |some h=>IQ (b.getD 0) h rows a
 |_=>true
def ad6(a:List (Option Obj))(b:Nat)(x:AV)(c d:Option Int):Bool:=
 match x with
 |.c8 id _=>match aj a id with
  |some (.eO rs _)=>Jm b (.pv (.sl rs [])) c d
  |some (.rows _ rs _)=>IQ (c.getD 0) (d.getD rs.length) rs b
  |_=>true
 |x=>Jm b x c d
def Ei(a:List (Option Obj))(id:Nat)(f:R_->Bool)(g:List (List AV)->Bool):Bool:=
 match aj a id with
 |some (.rows _ rs _)=>f rs
 |some (.eO rs _)=>f rs
 |some (.cL _ rs _)=>f rs
 |some (.cw _ rs _)=>g rs
 |_=>true
def aof(c:List (Option Obj))(b a:Nat)(x y:AV):Bool:=
 match x with
 |.full xs=>match uv xs y with
  |true=>true
  |false=>match r8 aF y with
   |some ys=>MH xs ys a b&&rneB xs ys
   |none=>match y with
    |.kM ys=>akB (xs.map (·.map .pv)) ys a b&& !BU ys
    |_=>true
 |.c8 id _=>Ei c id
  (fun d=>match r8 aF y with|some ys=>MH d ys a b|none=>true)
  (fun d=>match pB aF y with|some ys=>akB d ys a b|none=>true)
 |_=>true
def ck(d:List (Option Obj))(q:wQ)(ρ:bR->AV):Bool:=
 match q with
 |.bin q x y=>match ρ x,ρ y with
  |.pv (.int _ _),.pv (.int _ b)=>match q with
   |.quo|.rem=> !decide (b=0)
   |.shl|.shr=>decide (0<=b)
   |_=>true
  |.pv (.str a),.pv (.str b)=>match q with
   |.add=>Nat.ble (a.length+b.length) 9223372036854775807
   |_=>true
  |_,_=>true
 |.beq _ sh x y=>match(ρ x).flat,(ρ y).flat with
  |some (.agg xs),some (.agg ys)=>qv sh xs ys
  |_,_=>true
 |.Li f x lo p=>match cX ρ lo,cX ρ p with
  |some l,some h=>ad6 d f (ρ x) l h
  |_,_=>true
 |.sH x lo p=>match cX ρ lo,cX ρ p with
  |some l,some h=>match ρ x with
   |.pv (.str s)=>decide (0<=l.getD 0)&&(decide (l.getD 0<=h.getD s.length)&&decide (h.getD s.length<=s.length))
   |_=>true
  |_,_=>true
 |.idx x i f=>match ρ i with
  |.pv (.int _ j)=>match ρ x with
   |.pv (.sl rows _)=>ad5 j rows f
   |.full rows=>ad5 j rows f
   |.c8 id _=>Ei d id (fun e=>ad5 j e f) (fun e=>ainB j e f)
   |_=>true
  |_=>true
 |.SL x i=>match ρ x,ρ i with
  |.pv (.str s),.pv (.int _ j)=>decide (0<=j)&&decide (j<s.length)
  |_,_=>true
 |.app f bytes x y=>aof d f bytes (ρ x) (ρ y)
 |.Ql x=>match ρ x with
  |.pv (.sl rows _)=>Uk rows
  |.full rows=>Uk rows
  |.c8 id _=>Ei d id Uk fun _=>true
  |_=>true
 |.SK _ bytes _ l c=>match ρ l,ρ c with
  |.pv (.int .i64 l),.pv (.int .i64 c)=>mkpB l c bytes
  |_,_=>true
 |.UM f x p=>match ρ p with
  |.pv (.int _ h)=>match ρ x with
   |.c8 id _=>Ei d id (fun e=>IQ 0 h e f) fun _=>true
   |_=>true
  |_=>true
 |.Lj _ i n _=>match ρ i with
  |.pv (.int _ j)=>aoe j n
  |_=>true
 |.ixa _ i n=>match ρ i with
  |.pv (.int _ j)=>aoe j n
  |_=>true
 |.Ll o sh _ _ m k=>match ρ m with
  |.pv .oh=>match keyOf o sh.length (ρ k)with|some g=>Ze sh sh.length [] g|none=>true
  |.pv (.mp _ _ kn rows)=>match keyOf o kn (ρ k)with|some g=>Ze sh kn rows g|none=>true
  |.fr id=>match aj d id with
   |some (.map _ _ kn rows)=>match keyOf o kn (ρ k)with|some g=>Ze sh kn rows g|none=>true
   |_=>true
  |_=>true
 |.Qm o sh _ m k _=>match ρ m with
  |.fr id=>match aj d id with
   |some (.map _ _ kn rows)=>match keyOf o kn (ρ k)with|some g=>Ze sh kn rows g|none=>true
   |some (.iw rows)=>match oC o sh (ρ k)with|some s=>akC s rows|none=>true
   |_=>true
  |_=>true
 |.sI o sh _ m k=>match ρ m with
  |.fr id=>match aj d id with
   |some (.map _ _ kn rows)=>match keyOf o kn (ρ k)with|some g=>Ze sh kn rows g|none=>true
   |_=>true
  |_=>true
 |.AH _ m s _=>match ρ m,ρ s with
  |.fr id,.eT _ i=>match aj d id with
   |some (.map _ _ _ rows)=>decide (0<=i)&&decide (i<rows.length)
   |_=>true
  |_,_=>true
 |.CX x=>match ρ x with
  |.pv (.sl rows sp)=> !BU (rows++sp)
  |_=>true
 |.SY x=>match ρ x with
  |.c8 id _=>Ei d id (fun e=>ad5 0 e 1) fun _=>true
  |_=>true
 |.ust _ x n=>match ρ n,ρ x with
  |.pv (.int _ n),.cR id _ j _=>Ei d id (fun e=>Uk e&&(decide (n=e.length)&&(decide (j=0)&&MH e [] 1 1))) fun _=>true
  |_,_=>true
 |.AJ _ x y=>match r8 aF (ρ y)with
  |some ys=>match ρ x with
   |.full []=>MH [] ys 1 1&& !BU ys
   |.c8 id _=>Ei d id (fun e=>MH e ys 1 1&& !BU ys) fun _=>true
   |_=>true
  |none=>true
 |_=>true
end
section
open Go Go.Am
variable {G:Nat->Option (List PV)} {P:Program} {f:FuncId} {st:St} {x:AV}
theorem vX(b:∀v w,(callFunc f #[v]).run P w=.ok (.value v) w){K:AV->St->Prop}(c:K x st):Hf P G f [x] st K:=by intro w0 own0 hvs S0 γ S a w vs d e hs g;grind[au,dN]
theorem acS{A:Ar}{Q:Ex->St->Prop}{d:Option Nat}{a:List Item}(b:∀v w,(callFunc f #[v]).run P w=.ok (.value v) w)(c:bH (CC P G) A (Hf P G) a Q .normal (st.put d x)):(bp.call f [x] d st a).holds (CC P G) A (Hf P G) Q:=.inr (vX b c)
end
variable {P:Program} {G:Nat->Option (List PV)} {accs:List Nat} {w0:World} {own0:Nat->Prop} {hvs:List Value×List Deferred} {S0:Nat->Prop} {γ:Nat->Option Nat} {S:Nat->Prop} {st:St} {x:AI} {xs:List AI} {cE:List eP} {st':St} {acc:List (Ev×eP)} {K:List (Ev×eP)->Prop} {e:Ev} {Q:Ex->St->Prop} {a:List AV} {b:List Item} {f:FuncId} {ops:List AI} {p:Prop} {ps:List PV} {s:St} {α:Type}
section
variable {R:Type}
def natF(n:Nat)(k:Nat->R):R:=match n with
 |0=>k 0
 |m+1=>k (Nat.succ m)
noncomputable def spF(l:List α):(List α->R)->R:=
 List.rec (motive:=fun _=>(List α->R)->R) (fun k=>k []) (fun x _ a k=>a fun b=>k (x::b)) l
noncomputable def stF(st:St)(k:St->R):R:=match st with
 |⟨s,h,b,m⟩=>spF s fun s=>spF h fun h=>natF b fun b=>spF m fun m=>k ⟨s,h,b,m⟩
end
def Em:Nat->List (Option Obj)->List (Option Nat)
 |_,[]=>[]
 |i,none::r=>Em (i+1) r
 |i,some _::r=>some i::Em (i+1) r
inductive RC where
 |fin (e:Ex) (st:St)
 |stop (x:Option AI) (f:FuncId) (args:List AV) (st:St) (is:List Item) (why:Nat)
def RC.holds(Q:Ex->St->Prop):RC->Prop
 |.fin e st=>Q e st
 |.stop ..=>False
abbrev BI:=FuncId->List PV->Option PV
def Zf:List AV->Option (List PV)
 |[]=>some []
 |.pv p::r=>match Zf r with|some l=>some (p::l)|none=>none
 |_::_=>none
def Ul:List (List AV)->Option R_
 |[]=>some []
 |x::r=>match Zf x with
  |some p=>match Ul r with|some l=>some (p::l)|none=>none
  |none=>none
def alG(st:St)(id:Nat):St:=match aj st.mem id with
 |some (.rows _ rs a)=>st.AP id (iP rs a)
 |some (.cw e rs a)=>match Ul rs with
  |some b=>match aj (st.aq id (.rows e b a)).mem id with
   |some (.rows _ d c)=>(st.aq id (.rows e b a)).AP id (iP d c)
   |_=>st
  |none=>st
 |some (.map f g kn rows)=>st.AP id (oF f g kn rows)
 |_=>st
noncomputable def Zp{R:Type}:List (Option Nat)->St->(St->R)->R
 |[],st,k=>k st
 |none::r,st,k=>Zp r st k
 |some id::r,st,k=>stF (alG st id) fun st=>Zp r st k
section
variable (T:Mj) (B:BI)
def zz(lt:List (List Nat))(c:Nat):Nat->Nat->List (List Bool)
 |_,0=>[[]]
 |i,n+1=>match(i==c)||(lt.getD i []).contains c with
  |true=>(zz lt c (i+1) n).map (false::·)
  |false=>match(lt.getD c []).contains i with
   |true=>(zz lt c (i+1) n).map (true::·)
   |false=>(zz lt c (i+1) n).map (false::·)++(zz lt c (i+1) n).map (true::·)
def Jg(lt:List (List Nat))(Z:List Bool):Bool:=(List.range Z.length).all fun i=> !(Z.getD i false)||(lt.getD i []).all fun k=>Z.getD k false
def Jn(hs:FuncId->Bool):Nat->List AI->Option (Nat×AI)
 |_,[]=>none
 |i,x::r=>match x.op with
  |.call f _=>match hs f with|true=>some (i,x)|false=>Jn hs (i+1) r
  |.Ox _ _=>match hs 999999 with|true=>some (i,x)|false=>Jn hs (i+1) r
  |_=>Jn hs (i+1) r
end
section
variable {C:CT} {I:IC} {T:Mj} {B:BI} {ox pf hs:FuncId->Bool} (hI:Gv I) (hT:oI C aF I T) (hB:∀f ps res,B f ps=some res->C f ps none res) (hid:∀f,ox f=true->∀x st K,K x st->I f [x] st K)
include hI hT hB hid
omit hI hT hB hid in
omit hI hT hB hid in
omit hI hT hB hid in
omit hI hT hB hid in
theorem BH(lt:List (List Nat))(c:Nat):∀(n i:Nat) (Z:List Bool),Z.length=n->(∀j,j<n->(i+j=c\/c∈lt.getD (i+j) [])->Z.getD j false=false)->(∀j,j<n->i+j∈lt.getD c []->¬(i+j=c\/c∈lt.getD (i+j) [])->Z.getD j false=true)->Z∈zz lt c i n
|0,i,Z,hl,_,_=>by rw[qcE]at hl;subst hl;simp[zz]
|n+1,i,[],hl,_,_=>by simp at hl
|n+1,i,b::Z,hl,h1,h2=>by have e:Z∈zz lt c (i+1) n:=BH lt c n (i+1) Z (by simpa using hl) (fun j f h=>by have:=h1 (j+1) o_ (by rwa [show i+(j+1)=i+1+j by omega]);simpa using this) (fun j f h l=>by have:=h2 (j+1) o_ (by rwa [show i+(j+1)=i+1+j by omega]) (by rwa [show i+(j+1)=i+1+j by omega]);simpa using this);unfold zz;split;{rename_i a;simp only[Bool.or_eq_true,beq_iff_eq,qbS]at a;have d:=h1 0 o_ (by simpa using a);simp at d;subst d;exact qaw.2 ⟨Z,e,rfl⟩};rename_i a;simp only[Bool.or_eq_false_iff,qar,ne_eq]at a;have g:¬(i=c\/c∈lt.getD i []):=by{rintro(h|h);{exact a.1 h};have:=qbS.2 h;rw[a.2]at this;cases this};split;{rename_i k;have d:=h2 0 o_ (by simpa using qbS.1 k) (by simpa using g);simp at d;subst d;exact qaw.2 ⟨Z,e,rfl⟩};cases b;{exact qcU _ (qaw.2 ⟨Z,e,rfl⟩)};exact List.mem_append_right _ (qaw.2 ⟨Z,e,rfl⟩)
omit hI hT hB hid in
theorem rZ{hs:FuncId->Bool}:∀{l:List AI} {i c:Nat} {x:AI},Jn hs i l=some (c,x)->i<=c/\l[c-i]? =some x
|[],_,_,_,h=>by cases h
|y::r,i,c,x,h=>by have step:Jn hs (i+1) r=some (c,x)->i<=c/\(y::r)[c-i]? =some x:=fun h=>by{obtain⟨b,a⟩:=rZ h;refine⟨o_,?_⟩;rw[show c-i=(c-(i+1))+1 by omega];simpa using a};unfold Jn at h;split at h;{split at h;{simp only[qaa,qas]at h;obtain⟨rfl,rfl⟩:=h;simp};exact step h};{split at h;{simp only[qaa,qas]at h;obtain⟨rfl,rfl⟩:=h;simp};exact step h};exact step h
end
noncomputable def Zq(a:List RD)(st:St):Option PV:=match fN a st with
 |some p=>some p
 |none=>spF (Em 0 st.mem) fun l=>Zp l st fun st=>Zp l st fun st=>Zp l st fun st=>fN a st
noncomputable def RC.data(a:List RD):RC->Option PV
 |.fin .normal st=>Zq a st
 |.fin .ret st=>Zq a st
 |_=>none
structure OpI where
 ckf:List (Option Obj)->(bR->AV)->Bool
 ef:Ar->Nat->(bR->AV)->sE
 hv:Bool
 al:Bool
structure CE where
 T:Mj
 B:BI
 ox:FuncId->Bool
 pf:FuncId->Bool
 hs:FuncId->Bool
def PM(a:List RD)(b:List (B_×PV)):Ex->St->Prop
 |.exit _,_=>False
 |_,st=>∃id,lT a st=some (.fr id)/\aj st.mem id=some (.iw (b.map fun x=>(x.1,.pv x.2)))
theorem fM.rows{S S':Nat->Prop}{w:World}{ρ:AV->Value->Prop}(hl:bf S w S' w):∀{b:List (B_×PV)} {a:List MapEntry},fM S w ρ (b.map fun x=>(x.1,.pv x.2)) a->bV S' w false false 1 (b.map fun x=>[.str x.1,x.2]) a
|[],a,h=>by grind[fM,bV]
|(s,p)::b,a,h=>by obtain⟨e,t,rfl,h1,h2,c⟩:=h;simp[lF]at h2;refine⟨e,t,[e.key],[e.val],rfl,?_,rfl,rfl,rfl,rfl,rfl,fM.rows hl c⟩;grind[aM,aD,aD.later]
theorem V7(B:P.follows .mixedOrders=true){g:Func}{c:Code}{q:cf}{m:List RD}{d:Nat}(C:P.funcs[f]? =some g)(D:g.body=some c)(R:(g.name== "runtime.NumGoroutine")=false)(E:bD P G accs c=some q)(F:fe P g.results.toList=some m)(T:g.ntmps=d){j:List (B_×PV)}(U:ps.length<=d)(h:bH (CC P G) aF (Hf P G) [.code q] (PM m j) .normal (start d ps)):bE P G f ps (.mp false false 1 (j.map fun x=>[.str x.1,x.2])):=by intro S w n H I r;have s:=aM.uE r;unfold dN;have J:(callFunc f n.toArray).run P w=.ok (.enter f n.toArray) w:=by{simp_all[callFunc]};rw[J];refine qdc C D ?_;have K:ft w (fun _=>False) ([],[]) G S (start d ps) {tmps:=n.toArray++Array.replicate (g.ntmps-n.toArray.size) undef,defers:=[]} w:=by{have V:∀id,aj (start d ps).mem id=none:=by{grind[start,aj]};refine⟨fun _=>none,S,fun _ h=>h,fun _ h=>.inl h,{size:=?_,slot:=?_,held:=?_,defers:=rfl,mem:=?_,lU:=?_,inj:=?_,own:=?_,bound:=H,eJ:=?_,jn:=I,kept:=fun _ _ _=>rfl,os:=rfl,tape:=rfl,output:=rfl,eY:=qak _}⟩;{grind[start]};{intro i;have:=xD (nt:=d) (ρ:=Ref (fun _=>none) S w (start d ps).mem) r (d-ps.length) i;grind[start,St.slot]};{rfl};{simp_all};{simp_all};{simp_all};{simp_all};simp_all};refine nH B c E K (Qa:=PM m j) h ?_;intro e st' t w' L p;obtain⟨γ,S',bg,Cy,a⟩:=L;have key:(∃id,lT m st'=some (.fr id)/\aj st'.mem id=some (.iw (j.map fun x=>(x.1,.pv x.2))))->t.defers=[]/\∃v,(results g t.tmps).run P w'=.ok v w'/\∃u,Ending.returned v=.returned u/\(RowKit.Below w.heap.size w w'/\aD (fun b=>S b\/(w.heap.size<=b/\b<w'.heap.size)) w' (.mp false false 1 (j.map fun x=>[.str x.1,x.2])) u):=by{rintro⟨id,M,y⟩;obtain⟨v,N,z⟩:=vN a F M;refine⟨a.defers,v,N,v,rfl,⟨a.os,a.tape,a.output,a.eY,fun k o=>a.kept k o (fun h=>h)⟩,?_⟩;have hl:bf S' w' (fun b=>S b\/(w.heap.size<=b/\b<w'.heap.size)) w':=fun k o=>⟨by rcases Cy k o with l|l|l;{simp_all};{exact .inr ⟨l,a.bound k o⟩};simp_all,rfl,rfl⟩;have A:=a.mem id _ y;simp only[eK]at A;obtain⟨b,O,ck,g1,g2,Q,g4⟩:=A;simp[lF,Ref,y]at z;obtain⟨X,g5,rfl⟩:=z;rw[g1]at g5;cases g5;simp only[aD];refine⟨b,O,ck,rfl,?_,by grind[YB],Q,fM.rows hl g4⟩;rcases(a.own id b g1).2 with l|l;{grind};simp_all};cases e with|normal=>exact key p|ret=>exact key p|exit id=>exact p.elim
theorem ahL{b:cf}{c:List RD}{a:Nat}(d:P.follows .mixedOrders=true)(h:gF P G accs f=some (b,c,a)){rs:List (B_×PV)}(e:ps.length<=a)(g:bH (CC P G) aF (Hf P G) [.code b] (PM c rs) .normal (start a ps)):bE P G f ps (.mp false false 1 (rs.map fun x=>[.str x.1,x.2])):=by grind[acy,V7]
theorem akv{C:CT}{A:Ar}{I:IC}{a:List RD}{b:List (B_×PV)}(id:Nat)(h1:lT a s=some (.fr id))(h2:aj s.mem id=some (.iw (b.map fun x=>(x.1,.pv x.2)))):(bp.fin .ret s).holds C A I (PM a b):=⟨id,h1,h2⟩
section
variable {r n:Nat} {a:Act} {w:World}
theorem dW.shift(h:dW w0 own0 hvs G γ S st a w):dW w (fun b=>∃i,γ i=some b) hvs G γ S st a w:={h with own:=fun i b c=>⟨(h.own i b c).1,.inr ⟨i,c⟩⟩,kept:=fun _ _ _=>rfl,os:=rfl,tape:=rfl,output:=rfl,eY:=qak _}
theorem dW.push(h:dW w0 own0 hvs G γ S st a w){slots:List AV}{b:Array Value}(c:slots.length=b.size)(d:∀i,lF S w (Ref γ S w st.mem) (slots.getD i .dead) (b.getD i undef)):
  dW w0 own0 (a.tmps.toList++hvs.1,[]) G γ S ⟨slots,st.slots++st.held,st.base,st.mem⟩ ⟨b,[]⟩ w:=
 {h with
  size:=c,slot:=d,defers:=rfl
  held:=au.append (au.vP (by simpa using h.size) (fun i=>by
   have:=h.slot i
   grind[St.slot,Array.getD_eq_getD_getElem?])) h.held}
end
structure nd(γ:Nat->Option Nat)(S:Nat->Prop)(W:World)(D:Nat)(r:Loop):Prop where
 sd:¬S D
 sl:¬S (D+1)
 gd:∀i,γ i≠some D
 gl:∀i,γ i≠some (D+1)
 hl:W.heap[D+1]? =some (.loop r)
 hd:W.heap[D]? =some (.deferred (some []))
theorem nd.lt{W:World}{D:Nat}{r:Loop}(h:nd γ S W D r):D+1<W.heap.size:=(qaK.1 h.hl).1
theorem j0{C:CT}{A:Ar}{I:IC}{e:Ex}(h:Q e s):(bp.fin e s).holds C A I Q:=h
def V8:cf->Bool
 |.pA (_::_) none=>true
 |.pA _ (some _)=>true
 |.seq a _=>V8 a
 |_=>false
theorem o7{C:CT}{A:Ar}{I:IC}:∀{c:cf} {st e:St} {Q:Ex->St->Prop},V8 c=true->Fg st e->fw C A I c e Q->fw C A I c st Q
|.pA (x::xs) none,st,e,Q,_,hf,h=>by obtain⟨f,h1,h2⟩:=h;exact⟨f,Fg.trans hf h1,h2⟩
|.pA l (some lt),st,e,Q,_,hf,h=>by obtain⟨f,h1,h2⟩:=h;exact⟨f,Fg.trans hf h1,h2⟩
|.seq a b,st,e,Q,d,hf,h=>by exact o7 (c:=a) d hf h
|.pA [] none,_,_,_,d,_,_=>by cases d
|.skip,_,_,_,d,_,_=>by cases d
|.cond ..,_,_,_,d,_,_=>by cases d
|.block ..,_,_,_,d,_,_=>by cases d
|.loop _,_,_,_,d,_,_=>by cases d
|.exit _,_,_,_,d,_,_=>by cases d
|.ret,_,_,_,d,_,_=>by cases d
theorem JE{C:CT}{A:Ar}{I:IC}{c:cf}{r:List Item}{a:St}(b:V8 c=true)(d:Fg st a)(h:bH C A I (.code c::r) Q .normal a):bH C A I (.code c::r) Q .normal st:=by grind[bH,o7]
section
variable (C:CT) (A:Ar) (I:IC) (T:Mj)
def akw(d:Option Nat):Out->Option (Prop×Ev)
 |.val v=>some (True,⟨d,v,none⟩)
 |.dG p v=>some (p,⟨d,v,none⟩)
 |_=>none
def alD(d:Option Nat)(st:St):sE->Option (Prop×Ev)
 |.pure o=>akw d o
 |.rd id f=>match aj st.mem id with
  |some a=>akw d (f a)
  |none=>none
def ac7:List AI->List (List Nat)->List eP->St->List (Ev×eP)->(List (Ev×eP)->Prop)->Prop
 |[],_,_,_,acc,K=>K acc
 |x::xs,lt,cE,st,acc,K=>match x.g with
  |some _=>False
  |none=>match alD x.d st (KA A (st.base+x.d.getD 0) x.op st.ev)with
   |none=>False
   |some (p,e)=>p/\iy (lt.headD []) (eC (st.base+x.d.getD 0) st (KA A (st.base+x.d.getD 0) x.op st.ev)) 0 cE=true/\
     ac7 xs lt.tail (cE++[eC (st.base+x.d.getD 0) st (KA A (st.base+x.d.getD 0) x.op st.ev)]) (e.app st) (acc++[(e,eC (st.base+x.d.getD 0) st (KA A (st.base+x.d.getD 0) x.op st.ev))]) K
theorem ac7.trace:∀{l:List AI} {lt:List (List Nat)} {cE:List eP} {st:St} {acc:List (Ev×eP)} {K:List (Ev×eP)->Prop},ac7 A l lt cE st acc K->∃r,Trace C A l lt cE st r/\K (acc++r)
|[],lt,cE,st,acc,K,h=>⟨[],rfl,by grind[ac7]⟩
|x::xs,lt,cE,st,acc,K,h=>by unfold ac7 at h;split at h;{simp_all};split at h;{simp_all};rename_i p e a;obtain⟨b,i,j⟩:=h;obtain⟨r,h1,h2⟩:=ac7.trace j;refine⟨(e,_)::r,⟨e,_,r,rfl,.inl ⟨by grind[guardOf],?_,rfl⟩,i,h1⟩,a_⟩;have key:∀{o:Out} {p:Prop} {e:Ev},akw x.d o=some (p,e)->p->dd C x.d (st.base+x.d.getD 0) st o e:=by{intro o p e c b;cases o<;>simp only[akw,qaa,qas,reduceCtorEq]at c;{obtain⟨-,rfl⟩:=c;rfl};obtain⟨rfl,rfl⟩:=c;exact⟨b,rfl⟩};cases g:KA A (st.base+x.d.getD 0) x.op st.ev with|pure o=>rw[g]at a;exact key a b|rd id f=>rw[g]at a;simp[alD]at a;split at a;{rename_i k m;exact⟨k,m,key a b⟩};grind
def agr(x:AI)(b:List AI)(lt:List (List Nat))(c:List Item)(Q:Ex->St->Prop)(a:St):Prop:=
 match KA A (a.fresh x) x.op a.ev with
 |.pure (.call f args)=>match T f with
  |some (ac,e,g)=>bH C A I (.code ac::.frame e a.slots.length a.base x.d::.fD b lt []::c) Q .normal (enter g args a)
  |none=>False
 |_=>False
theorem Sx{c:List AI}{lt:List (List Nat)}{e:List Item}{b:St}{g:cf}{i:List RD}{j:Nat}(k:KA A (b.fresh x) x.op b.ev=.pure (.call f a))(l:T f=some (g,i,j))(h:bH C A I (.code g::.frame i b.slots.length b.base x.d::.fD c lt []::e) Q .normal (enter j a b)):agr C A I T x c lt e Q b:=by grind[agr]
end
theorem yz{C:CT}{A:Ar}{I:IC}{T:Mj}(hT:oI C A I T){lt:List (List Nat)}(c:Nat)(x:AI)(d:List (List Bool))(h1:xM ops=true)(h2:ops[c]? =some x)(j:x.g=none)(s:(zz lt c 0 ops.length).filter (Jg lt)=d)(h:ac7 A (jg (fun i=>(i==c)||(lt.getD i []).contains c) 0 ops) lt [] st [] fun r=>∀Z∈d,agr C A I T x (jg (fun i=>(i==c)||Z.getD i false) 0 ops) lt b Q (cM (fun i=>Z.getD i false) 0 (r.map (·.1)) st)): bH C A I (.code (.pA ops (some lt))::b) Q .normal st:=by refine⟨st,.refl _,.inr ⟨h1,c,x,h2,?_⟩⟩;obtain⟨r,k,e⟩:=ac7.trace C A h;rw[qbi]at e;refine⟨r,k,fun Z l=>⟨by rw[j];rfl,?_⟩⟩;obtain⟨t,u,v,w,y⟩:=l;have z:Z∈zz lt c 0 ops.length:=by{grind[BH]};have B:Jg lt Z=true:=by{grind[Jg]};have hs:=e Z g_;unfold agr at hs;unfold gO;split at hs;{rename_i f a m;rw[m];split at hs;{rename_i n o p q;exact .inr (hT f n o p q a _ _ hs)};simp_all};simp_all
theorem Gj{C:CT}{A:Ar}{I:IC}(hI:Gv I){b a:cf}{c:List Item}{d:St}(g:V8 a=true)(h1:bH C A I [.code b] (fun e f=>e=.normal/\Fg f d) .normal s)(h2:bH C A I (.code a::c) Q .normal d):bH C A I (.code b::.code a::c) Q .normal s:=by grind[bH,fC,o7]
theorem nM{C:CT}{A:Ar}{I:IC}{a:St}(h:Fg s a):(bp.fin .normal s).holds C A I (fun e b=>e=.normal/\Fg b a):=⟨rfl,h⟩
theorem iB{A:Ar}{lt:List (List Nat)}{f:eP}(a:x.g=none)(b:alD x.d st (KA A (st.base+x.d.getD 0) x.op st.ev)=some (p,e))(c:eC (st.base+x.d.getD 0) st (KA A (st.base+x.d.getD 0) x.op st.ev)=f)(i:p)(j:iy (lt.headD []) f 0 cE=true)(hs:e.app st=st')(h:ac7 A xs lt.tail (cE++[f]) st' (acc++[(e,f)]) K):ac7 A (x::xs) lt cE st acc K:=by grind[ac7]
theorem gx{A:Ar}{lt:List (List Nat)}{f:eP}(h:ac7 A xs lt.tail (cE++[f]) st' (acc++[(e,f)]) K)(a:x.g=none:=by rfl)(b:alD x.d st (KA A (st.base+x.d.getD 0) x.op st.ev)=some (True,e):=by cbv)(c:eC (st.base+x.d.getD 0) st (KA A (st.base+x.d.getD 0) x.op st.ev)=f:=by cbv)(i:iy (lt.headD []) f 0 cE=true:=by cbv)(hs:e.app st=st':=by cbv):ac7 A (x::xs) lt cE st acc K:=iB a b c trivial i hs h
theorem l7{A:Ar}{lt:List (List Nat)}(h:K acc):ac7 A [] lt cE st acc K:=h
theorem aiT{P:α->Prop}{a b c:α}(h1:P a)(h2:P b)(e:P c):∀z∈[a,b,c],P z:=by intro z d;simp at d;rcases d with rfl|rfl|rfl;{exact h1};{exact h2};omega
theorem Wi{P:α->Prop}{a:α}(h1:P a):∀z∈[a],P z:=by simp_all
def z8(C:CT)(A:Ar):List AI->List (List Nat)->List eP->St->List (Ev×eP)->(List (Ev×eP)->Prop)->Prop
 |[],_,_,_,acc,K=>K acc
 |x::xs,lt,cE,st,acc,K=>∃e f,HH C A x st e f/\iy (lt.headD []) f 0 cE=true/\z8 C A xs lt.tail (cE++[f]) (e.app st) (acc++[(e,f)]) K
theorem z8.trace{C:CT}{A:Ar}:∀{l:List AI} {lt:List (List Nat)} {cE:List eP} {st:St} {acc:List (Ev×eP)} {K:List (Ev×eP)->Prop},z8 C A l lt cE st acc K->∃r,Trace C A l lt cE st r/\K (acc++r)
|[],lt,cE,st,acc,K,h=>⟨[],rfl,by grind[z8]⟩
|x::xs,lt,cE,st,acc,K,h=>by obtain⟨e,f,a,b,c⟩:=h;obtain⟨r,d,g⟩:=z8.trace c;exact⟨(e,f)::r,⟨e,f,r,rfl,a,b,d⟩,a_⟩
theorem Zr{C:CT}{d:Option Nat}{k:Nat}{x:sE}(a:alD d st x=some (p,e))(b:p):ka C d k st x e:=by have key:∀{o:Out} {p:Prop} {e:Ev},akw d o=some (p,e)->p->dd C d k st o e:=by{intro o p e c b;cases o<;>simp only[akw,qaa,qas,reduceCtorEq]at c;{obtain⟨-,rfl⟩:=c;rfl};obtain⟨rfl,rfl⟩:=c;exact⟨b,rfl⟩};cases x with|pure o=>exact key a b|rd id f=>simp[alD]at a;split at a;{rename_i g h;exact⟨g,h,key a b⟩};grind
section
variable {C:CT} {A:Ar} {lt:List (List Nat)} {f:eP}
theorem alH(h:z8 C A xs lt.tail (cE++[f]) st' (acc++[(e,f)]) K)(a:p)(b:guardOf st x.g=some true)(c:alD x.d st (KA A (st.base+x.d.getD 0) x.op st.ev)=some (p,e))(i:eC (st.base+x.d.getD 0) st (KA A (st.base+x.d.getD 0) x.op st.ev)=f)(j:iy (lt.headD []) f 0 cE=true)(hs:e.app st=st'):z8 C A (x::xs) lt cE st acc K:=⟨e,f,.inl ⟨b,Zr c a,i.symm⟩,j,hs▸h⟩
theorem VG{res:PV}(h:z8 C A xs lt.tail (cE++[f]) st' (acc++[(⟨x.d,.pv res,none⟩,f)]) K){g:FuncId}{b:Bool}(c:C g ps none res)(e:guardOf st x.g=some true)(i:KA A (st.base+x.d.getD 0) x.op st.ev=.pure (.call g a))(hl:dB st.mem a=some (ps,b))(j:b=true->res.jf=true)(k:eC (st.base+x.d.getD 0) st (KA A (st.base+x.d.getD 0) x.op st.ev)=f)(l:iy (lt.headD []) f 0 cE=true)(hs:Ev.app ⟨x.d,.pv res,none⟩ st=st'):z8 C A (x::xs) lt cE st acc K:=⟨_,f,.inl ⟨e,by rw[i];exact .inl ⟨ps,b,res,hl,c,j,rfl⟩,k.symm⟩,l,hs▸h⟩
theorem Zs(h:K acc):z8 C A [] lt cE st acc K:=h
end
theorem ad7{C:CT}{A:Ar}{I:IC}{T:Mj}(hT:oI C A I T){lt:List (List Nat)}(c:Nat)(x:AI)(d:List (List Bool))(h1:xM ops=true)(h2:ops[c]? =some x)(s:(zz lt c 0 ops.length).filter (Jg lt)=d)(h:z8 C A (jg (fun i=>(i==c)||(lt.getD i []).contains c) 0 ops) lt [] st [] fun r=>∀Z∈d,guardOf (cM (fun i=>Z.getD i false) 0 (r.map (·.1)) st) x.g=some true/\agr C A I T x (jg (fun i=>(i==c)||Z.getD i false) 0 ops) lt b Q (cM (fun i=>Z.getD i false) 0 (r.map (·.1)) st)): bH C A I (.code (.pA ops (some lt))::b) Q .normal st:=by refine⟨st,.refl _,.inr ⟨h1,c,x,h2,?_⟩⟩;obtain⟨r,j,e⟩:=z8.trace h;rw[qbi]at e;refine⟨r,j,fun Z k=>?_⟩;obtain⟨t,u,v,w,y⟩:=k;have z:Z∈zz lt c 0 ops.length:=by{grind[BH]};have B:Jg lt Z=true:=by{grind[Jg]};obtain⟨l,hs⟩:=e Z g_;refine⟨l,?_⟩;unfold agr at hs;unfold gO;split at hs;{rename_i f a m;rw[m];split at hs;{rename_i n o p q;exact .inr (hT f n o p q a _ _ hs)};simp_all};simp_all
end Go.Am
