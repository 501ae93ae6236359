import Derived.Test.YtfaccbkibjkfjaaGreatDoorT33
import Derived.Test.YtfaccbkibjkfjaaGreatDoorT20
set_option linter.all false
set_option maxRecDepth 100000
set_option maxHeartbeats 1000000
namespace Go.aA
section
open Go Go.Am Go.Proofs
open Classical
variable {c:List aL} {d:List (List B_)} {l:List Fc} {t:B_} {v:List bz} {mx:Int}
theorem GY{s:B_}:Lc (lC s).1:=by unfold lC;cases h:Lib.atoiAll s with|range=>show Lc (Lib.atoiSat s);obtain⟨a,b⟩:=Lib.atoiSat_bounds s;unfold Lc;omega|ok v=>show Lc v;unfold Lib.atoiAll at h;split at h;{cases h};dsimp only at h;split at h;{cases h};{cases h};split at h;{cases h};split at h;{cases h};cases h;unfold Lc;split<;>omega|_=>show Lc 0;unfold Lc;omega
def V0(r:xm):Prop:=og r.1/\kL ⟨r.1.id,r.2⟩
theorem akO(t:B_):0<=(sizeOf t).1.1/\(sizeOf t).1.1<256:=by unfold sizeOf;cases h:ab1.find? (fun x=>x.1==t)with|none=>exact⟨d_,d_⟩|some x=>have a:=qbV h;have:∀x∈ab1,0<=x.2.1/\x.2.1<256:=d_;exact this x a
theorem al8(n:Int):0<=Qg n/\Qg n<256:=by rw[<-Qj];(have d:∀a b:Int,aF.min a b=if b<a then b else a:=fun _ _=>by first|rfl|(simp only[aF];split<;>simp_all));(have e:∀a b:Int,aF.max a b=if b>a then b else a:=fun _ _=>by first|rfl|(simp only[aF];split<;>simp_all));rw[d,e];have c:0<=(if 255<(if 0>n then 0 else n)then 255 else(if 0>n then 0 else n))/\(if 255<(if 0>n then 0 else n)then 255 else(if 0>n then 0 else n))<256:=by{split<;>split<;>omega};rw[show aF.wrap .u8 _=_ from Zx c.1 c.2];exact c
theorem akP{e:B_}{r n:xm}(h:gP e d r=some n)(o:V0 r):V0 n:=by obtain⟨⟨f,g,i,j,k,l⟩,⟨m,a,b,c⟩⟩:=o;unfold gP at h;split at h;{split at h;{cases h;exact⟨⟨akO _,g,GY,j,k,l⟩,⟨GY,a,b,c⟩⟩};cases h};split at h;{split at h;{cases h;exact⟨⟨f,g,i,GY,k,l⟩,⟨m,a,b,c⟩⟩};cases h};split at h;{split at h;{split at h;{cases h;exact⟨⟨f,g,i,j,GY,GY⟩,⟨m,a,b,c⟩⟩};cases h};cases h};split at h;{split at h;{cases h;exact⟨⟨f,al8 _,i,j,k,l⟩,⟨m,a,b,c⟩⟩};cases h};cases h
theorem aeX{p:Nat->Bool}{v:Nat}{k:Int}(h:k∈ig p v):0<=k/\k<(v:Int):=by unfold ig at h;grind
theorem akQ{s:Slot}(h:mw c v t=(s,0))(hl:c.length<2^32):Lc s.column/\Lc s.cC/\(0<=s.half/\s.half<256):=by have bad:∀{e:Int},e≠0->((⟨0,0,0⟩,e):Slot×Int)=(s,0)->False:=fun p u=>p (congrArg Prod.snd u);unfold mw at h;by_cases f:¬fo c v;{rw[qao f]at h;exact(bad d_ h).elim};rw[qai f]at h;by_cases d:t.length≠7\/∃i,i<7/\¬(48<=at_ t i/\at_ t i<=57);{rw[qao d]at h;exact(bad d_ h).elim};rw[qai d]at h;have g:∀i,i<7->48<=at_ t i/\at_ t i<=57:=fun i w=>by{by_cases b:48<=at_ t i/\at_ t i<=57;{exact b};exact(d (Or.inr ⟨i,w,b⟩)).elim};have C:=g 5 d_;have D:=g 6 d_;generalize E:100*(at_ t 0-48)+10*(at_ t 1-48)+(at_ t 2-48)=n at h;generalize F:10*(at_ t 3-48)+(at_ t 4-48)=row at h;have y:0<=(if 10*(at_ t 5-48)+(at_ t 6-48)=0 then 100 else 10*(at_ t 5-48)+(at_ t 6-48))/\(if 10*(at_ t 5-48)+(at_ t 6-48)=0 then 100 else 10*(at_ t 5-48)+(at_ t 6-48))<=100:=by{split<;>omega};simp only[]at h;generalize (if 10*(at_ t 5-48)+(at_ t 6-48)=0 then 100 else 10*(at_ t 5-48)+(at_ t 6-48))=a at h y;by_cases j:n%4=0\/a%2=1\/(20<a/\a<82);{rw[qao j]at h;exact(bad d_ h).elim};rw[qai j]at h;have l:∀{k:Int},k∈zN c (n/4) row (decide (80<a))->0<=k/\k<(c.length:Int):=fun m=>aeX m;generalize zN c (n/4) row (decide (80<a))=z at h l;cases z with|nil=>exact(bad d_ h).elim|cons k r=>have m:=l (k:=k) s_;simp only[]at h;cases b:c[k.toNat]? with|none=>rw[b]at h;exact(bad d_ h).elim|some x=>rw[b]at h;simp only[]at h;generalize A:(if 80<a then a-80 else a)/2-1=q at h;have B: -100<=q/\q<=100:=by{rw[<-A];split<;>omega};by_cases o:x.dv<=q;{rw[qao o]at h;exact(bad d_ h).elim};rw[qai o]at h;have hs:=congrArg Prod.fst h;simp only[]at hs;subst hs;refine⟨by show Lc k;unfold Lc;omega,by show Lc q;unfold Lc;omega,?_,?_⟩;{show 0<=(if n%4=1 then 1 else if n%4=2 then 0 else 2:Int);split;{decide};split<;>decide};show(if n%4=1 then 1 else if n%4=2 then 0 else 2:Int)<256;split;{decide};split<;>decide
theorem akR{all b:List xm}{g:xE}(h:aS c v all g=some b)(hl:c.length<2^32)(d:∀r∈all,V0 r):(∀r∈b,V0 r)/\b.length<=all.length+1:=by unfold aS at h;split at h;{obtain⟨⟨s,e⟩,hs⟩:∃y,mw c v (cmp g.2 0)=y:=⟨_,rfl⟩;rw[hs]at h;simp only[]at h;by_cases f:e=0;{subst f;rw[qao rfl]at h;have:=qa9 h;subst this;refine⟨?_,s_⟩;intro r i;rcases List.mem_append.mp i with a|a;{exact d r a};have:=List.mem_singleton.mp a;subst this;obtain⟨j,k,l⟩:=akQ hs hl;refine⟨⟨⟨by show(0:Int)<=0;decide,by show(0:Int)<256;decide⟩,⟨by show(0:Int)<=0;decide,by show(0:Int)<256;decide⟩,?_,?_,?_,?_⟩,?_,j,k,l⟩<;>(show Lc 0;unfold Lc;omega)};rw[qai f]at h;cases h};split at h;{cases h};rename_i r m;split at h;{cases h};rename_i q n;have:=qa9 h;subst this;have o:=qbO m;refine⟨?_,by simp only[qal,List.length_dropLast,qcm];omega⟩;intro y p;rcases List.mem_append.mp p with a|a;{exact d y (List.dropLast_subset _ a)};have:=List.mem_singleton.mp a;subst this;exact akP n (d r o)
theorem ae1{c:List aL}{v:List bz}{l:List xE}(hl:c.length<2^32):∀{n:Nat} {all:List xm},nK c v l n=some all->(∀r∈all,V0 r)/\all.length<=n
|0,all,h=>by have:=qa9 h;subst this;exact⟨(fun r b=>by cases b),s_⟩
|n+1,all,h=>by rw[nK]at h;split at h;{cases h};rename_i a d;split at h;{cases h};rename_i g i;obtain⟨e,j⟩:=ae1 hl d;obtain⟨f,k⟩:=akR h hl e;exact⟨f,o_⟩
theorem acd{c:List aL}{v:List bz}{l:List xE}{n:Nat}(h:nK c v l n=none):∀{m:Nat},n<=m->nK c v l m=none
|0,hm=>by have:n=0:=o_;subst this;exact h
|m+1,hm=>by by_cases e:n=m+1;{subst e;exact h};rw[nK,acd h (m:=m) o_]
def F1(g:xE):Prop:=g.2.length<=30/\∀e∈g.2,DL e
theorem akS{s b:PJ}(f:d.length<=30/\∀e∈d,DL e)(hs:(∀g∈s.cur.Hd,F1 g)/\∀m∈s.out,(∀g∈m.Hd,F1 g)/\m.Hd.length<=5000)(hl:s.cur.Hd.length<=5000)(h:lK s d=.ok b):(∀g∈b.cur.Hd,F1 g)/\∀m∈b.out,(∀g∈m.Hd,F1 g)/\m.Hd.length<=5000:=by unfold lK at h;split at h;{unfold aaF at h;split at h;{cases h};split at h;{cases h};cases h;exact⟨(fun g c=>by cases c),hs.2⟩};split at h;{unfold Dy at h;split at h;{cases h};split at h;{cases h};cases h;refine⟨hs.1,?_⟩;intro m i;rcases List.mem_append.mp i with a|a;{exact hs.2 m a};have:=List.mem_singleton.mp a;subst this;exact⟨hs.1,hl⟩};unfold rW at h;split at h;{cases h};split at h;{cases h};cases h;refine⟨?_,hs.2⟩;intro g c;rcases List.mem_append.mp c with a|a;{exact hs.1 g a};have:=List.mem_singleton.mp a;subst this;exact⟨w_,fun e j=>f.2 e (List.drop_subset _ _ j)⟩
theorem V1{L:List (List (List B_))}(d:L.length<=5000)(b:∀x∈L,abO x):∀{n:Nat} {s:PJ},n<=L.length->kU L n=.ok s->(∀g∈s.cur.Hd,F1 g)/\∀m∈s.out,(∀g∈m.Hd,F1 g)/\m.Hd.length<=5000
|0,s,_,h=>by have:aji=s:=by{cases h;rfl};subst this;exact⟨(fun g a=>by cases a),(fun m e=>by cases e)⟩
|n+1,s,i,h=>by rw[kU]at h;split at h;{rename_i j c;split at h;{rename_i k f;cases h;have a:L.getD n []∈L:=by{rw[List.getD_eq_getElem?_getD,qag o_];exact qaf _};exact akS (Qb (b _ a)) (V1 d b o_ c) (by have:=DA c;omega) f};cases h};cases h
theorem aim{p e:Int}(h:rX t=(l,p,e)):∀m∈l,(∀g∈m.Hd,F1 g)/\m.Hd.length<=5000:=by unfold rX at h;obtain⟨⟨L,b,c⟩,a⟩:∃y,wa t=y:=⟨_,rfl⟩;rw[a]at h;have nil:∀{b c:Int},(([],b,c):List Fc×Int×Int)=(l,p,e)->∀m∈l,(∀g∈m.Hd,F1 g)/\m.Hd.length<=5000:=fun h=>by{cases h;exact(fun x a=>by cases a)};obtain⟨d,f⟩:=OU a;simp only[]at h;split at h;{exact nil h};split at h;{exact nil h};rename_i s hs;split at h;{exact nil h};have:=congrArg Prod.fst h;simp only[]at this;subst this;exact(V1 d f (qak _) hs).2
theorem ae8{p e:Int}(h:rX t=(l,p,e)):l.length<=5000:=by unfold rX at h;obtain⟨⟨L,a,b⟩,c⟩:∃y,wa t=y:=⟨_,rfl⟩;rw[c]at h;have nil:∀{a b:Int},(([],a,b):List Fc×Int×Int)=(l,p,e)->l.length<=5000:=fun h=>by{cases h;simp};obtain⟨d,f⟩:=OU c;simp only[]at h;split at h;{exact nil h};split at h;{exact nil h};rename_i s hs;split at h;{exact nil h};have:=congrArg Prod.fst h;simp only[]at this;subst this;have:=DA hs;omega
end
section
open Go Go.Am
open Classical
variable {A:B_} {E:List (List B_)} {S:List (List (List B_))} {a:List B_} {b:UInt8} {c:List Raw} {i:Nat} {k:B_} {m:Nat} {p:B_} {s:F0} {x:Raw}
theorem al9{B:B_}(h:i<A.length):at_ (A++B) i=at_ A i:=by simp[at_,List.getD_eq_getElem?_getD,qaQ h]
theorem akT:at_ (A++[b]) A.length=(b.toNat:Int):=by simp[at_,List.getD_eq_getElem?_getD]
theorem V2{A B:B_}:∀{n:Nat},n<=A.length->bd (A++B) n=bd A n
|0,_=>rfl
|n+1,h=>by rw[bd,bd,V2 o_,al9 o_]
def uN(A:B_)(s:F0):Prop:=bd A A.length=.ok s
theorem uN.nil:uN [] adp:=rfl
theorem uN.step{s':F0}(h:uN A s)(a:mu s A.length (b.toNat:Int)=.ok s'):uN (A++[b]) s':=by unfold uN at h ⊢;rw[qal,qcm,bd,V2 (qak _),h,akT];grind
theorem Yq{c:Int}(a:s.mode≠.rel)(hl:s.Hd.length<5000)(b:33<=c):mu s i c=rT s i c:=by unfold mu;grind
theorem uN.byte{a:U8}(h:uN A ⟨S,E,[],p,a,m⟩)(c:a≠.rel)(d:S.length<5000)(e:p.length<100)(f:(48<=b.toNat/\b.toNat<=57)\/(65<=b.toNat/\b.toNat<=90)):uN (A++[b]) ⟨S,E,[],p++[b],.ins,m⟩:=by refine h.step ?_;rw[Yq c d o_];unfold rT;rw[qai o_,qai o_,qai o_,qai o_,qai o_,qai o_];unfold iZ;rw[qai (by show ¬p.length=100;omega)];simp
theorem uN.piece{S:List (List (List B_))}{E:List (List B_)}{m:Nat}(e:S.length<5000):∀{c A p:B_} {a:U8},uN A ⟨S,E,[],p,a,m⟩->a≠.rel->p.length+c.length<=100->VU c->∃d,d≠.rel/\uN (A++c) ⟨S,E,[],p++c,d,m⟩
|[],A,p,a,h,hm,_,_=>⟨a,hm,by simpa using h⟩
|b::c,A,p,a,h,hm,hl,f=>by simp only[qaq]at hl;have h1:=h.byte hm e o_ (f b s_);obtain⟨d,g,i⟩:=uN.piece e (c:=c) h1 d_ w_ (fun x j=>f x (by simp[j]));exact⟨d,g,by simpa using i⟩
theorem uN.sep{a:U8}(h:uN A ⟨S,E,[],p,a,m⟩)(b:a≠.rel)(c:S.length<5000)(d:E.length<29):uN (A++[43]) ⟨S,E++[[p]],[],[],.ins,m⟩:=by refine h.step ?_;rw[Yq b c d_];unfold rT;grind
theorem uN.fin{a:U8}(h:uN A ⟨S,E,[],p,a,m⟩)(b:a≠.rel)(c:S.length<5000):uN (A++[39]) ⟨S++[E++[[p]]],[],[],[],.out,m⟩:=by refine h.step ?_;rw[Yq b c d_];unfold rT;grind
def Pp(a:List B_):Prop:=∀c∈a,VU c/\c.length<=100
theorem uN.ended{S:List (List (List B_))}{m:Nat}(d:S.length<5000):∀{cs:List B_} {A:B_} {E:List (List B_)} {a:U8},uN A ⟨S,E,[],[],a,m⟩->a≠.rel->E.length+cs.length<=29->Pp cs->∃b,b≠.rel/\uN (A++aA.ended 43 cs) ⟨S,E++Mn cs,[],[],b,m⟩
|[],A,E,a,h,hm,_,_=>⟨a,hm,by simpa[aA.ended,Mn]using h⟩
|c::cs,A,E,a,h,hm,hl,e=>by simp only[qaq]at hl;obtain⟨h1,h2⟩:=e c s_;obtain⟨f,g,i⟩:=h.piece d hm (by simpa using h2) h1;have j:=i.sep g d o_;obtain⟨b,k,l⟩:=uN.ended d (cs:=cs) j d_ w_ (fun x n=>e x (by simp[n]));refine⟨b,k,?_⟩;simpa[aA.ended,Mn]using l
theorem uN.seg{d:List B_}(h:uN A ⟨S,[],[],[],.out,m⟩)(f:S.length<5000)(y:d≠[])(hl:d.length<=30)(g:Pp d):uN (A++adX (Mn d)) ⟨S++[Mn d],[],[],[],.out,m⟩:=by obtain⟨a,c,rfl⟩:∃a c,d=a++[c]:=by{rcases qda d with e|⟨l,b,e⟩;all_goals grind};simp only[qal,qcm]at hl;have j:Pp a:=fun x i=>g x (by simp[i]);obtain⟨k,n⟩:=g c s_;have o:acB (Mn (a++[c])) (Mn (a++[c])).length=aA.ended 43 a++c:=by{have:=acP (cs:=a++[c]) (fun x i=>(g x i).1) s_;have p:aA.ended 43 (a++[c])=aA.ended 43 a++c++[43]:=by{simp[aA.ended]};rw[p]at this;exact List.append_cancel_right this};obtain⟨q,r,s⟩:=h.ended f d_ w_ j;obtain⟨t,u,v⟩:=s.piece f r (by simpa using n) k;have w:=v.fin u f;unfold adX;rw[o];simpa[Mn]using w
theorem uN.out{l:List (List B_)}(b:l.length<=5000)(h:∀a∈l,a≠[]/\a.length<=30/\Pp a):∀{n:Nat},n<=l.length->uN (Uu (l.map Mn) n) ⟨(l.map Mn).take n,[],[],[],.out,0⟩
|0,_=>uN.nil
|n+1,g=>by have c:=uN.out b h (n:=n) o_;have h1:(l.map Mn).getD n []=Mn l[n]:=by{simp[List.getD_eq_getElem?_getD,show n<l.length by omega]};obtain⟨d,e,f⟩:=h _ (qaf (show n<l.length by omega));have:=c.seg (by rw[qaT,qap];omega) d e f;rw[Uu,h1,qan w_];simpa using this
theorem Qk{l:List (List B_)}(b:l.length<=5000)(h:∀a∈l,a≠[]/\a.length<=30/\Pp a)(hl:(Uu (l.map Mn) (l.map Mn).length).length<=65536):wa (Uu (l.map Mn) (l.map Mn).length)=(l.map Mn,0,0):=by have:=uN.out b h (qak _);rw[qap]at hl ⊢;unfold uN at this;unfold wa;rw[qai o_,this];simp only[];rw[qbI s_]
def o5(a:List B_):Prop:=∃l d,a=l++[d]/\d≠[]
theorem afa(a b:List B_):Mn (a++b)=Mn a++Mn b:=by simp[Mn]
theorem Et(h:o5 a):CG (Mn a)=Mn a:=by obtain⟨l,d,rfl,b⟩:=h;have e:(Mn (l++[d])).map Jf=Mn (l++[d]):=by{unfold Mn;rw[qcA];exact qcv fun c _=>rfl};unfold CG;rw[e,afa];have f:(Mn l++Mn [d]).reverse=[d]::(Mn l).reverse:=by{simp[Mn]};rw[f,List.dropWhile_cons_of_neg (by simp[b])];simp[Mn]
theorem ajW(h:o5 x.2):o5 (aeu x):=by obtain⟨l,d,a,b⟩:=h;exact⟨x.1::l,d,by rw[aeu,a];rfl,b⟩
def lN(x:Raw):B_×List (List B_):=(x.1,Mn x.2)
theorem M5{a b c:B_}:Ol (Mn [a,b,c]):=by refine⟨rfl,fun e d=>?_⟩;simp only[Mn,qaj,qaF,qam,qaB,qa7]at d;rcases d with rfl|rfl|rfl<;>rfl
theorem GZ{c:B_}:gB (Mn (c::a)):=⟨by simp[Mn],rfl⟩
theorem aj0{a b:B_}(c:ab2 a)(d:acU b):lK aji (Mn (afD a b))=.ok ⟨⟨a,b,[]⟩,true,[b],[]⟩:=by unfold lK;rw[qao ⟨GZ,rfl⟩];unfold aaF;rw[qai (by rintro(h|h|h|h);{cases h};{exact h M5};{exact h d};exact h c),qai (by intro h;cases h)];rfl
theorem aj1{r:B_}{S:List (B_×List (List B_))}{out:List Fc}(b:Y0 x.1):lK ⟨⟨k,r,S⟩,true,a,out⟩ (Mn (aeu x))=.ok ⟨⟨k,r,S++[lN x]⟩,true,a,out⟩:=by unfold lK;rw[qai (fun h=>b.2.2.1 h.2),qai (fun h=>b.2.2.2 h.2)];unfold rW;rw[qai (by intro h;cases h),qai (by rintro(h|h);{exact h GZ};exact h b)];rfl
theorem aj2{r:B_}{S:List (B_×List (List B_))}{met:List B_}{out:List Fc}:lK ⟨⟨k,r,S⟩,true,met,out⟩ (Mn (af3 S.length r))=.ok ⟨⟨k,r,S⟩,false,met,out++[⟨k,r,S⟩]⟩:=by unfold lK;rw[qai (fun h=>absurd h.2 (by show ¬([69,78,68]:B_)=[72,69,68];decide)),qao ⟨GZ,rfl⟩];unfold Dy;rw[qai (by intro h;cases h),qai (by rintro(h|h|h);{exact h M5};{exact h rfl};exact h rfl)]
def s4(a b:B_)(c:List Raw):List (List B_):=(afD a b::c.map aeu)++[af3 c.length b]
theorem Ei{kind ref:B_}{ls:List Raw}:(s4 kind ref ls).length=ls.length+2:=by simp[s4]
theorem aj3{a b:B_}:((s4 a b c).map Mn).getD 0 []=Mn (afD a b):=rfl
theorem aj4{a b:B_}(h:i<c.length):((s4 a b c).map Mn).getD (i+1) []=Mn (aeu c[i]):=by simp[s4,List.getD_eq_getElem?_getD,List.getElem?_append,h]
theorem aj5{a b:B_}:((s4 a b c).map Mn).getD (c.length+1) []=Mn (af3 c.length b):=by simp[s4,List.getD_eq_getElem?_getD,List.getElem?_append]
theorem aj6{a b:B_}(h:a≠[]):o5 (afD a b):=⟨[[72,69,68],b],a,rfl,h⟩
theorem aj7{n:Nat}{a:B_}(h:a≠[]):o5 (af3 n a):=⟨[[69,78,68],digits (n+2)],a,rfl,h⟩
theorem ab2.ne(h:ab2 k):k≠[]:=by intro e;rw[e]at h;exact absurd h.1 d_
theorem acU.ne(h:acU k):k≠[]:=by intro e;rw[e]at h;exact absurd h.1 d_
theorem Q3{a b:B_}{c:List Raw}(d:ab2 a)(e:acU b)(h:∀x∈c,Y0 x.1/\o5 x.2):∀{n:Nat},n<=c.length->kU ((s4 a b c).map Mn) (n+1)=.ok ⟨⟨a,b,(c.take n).map lN⟩,true,[b],[]⟩
|0,_=>by rw[kU,kU];simp only[];rw[aj3,Et (aj6 d.ne),aj0 d e];rfl
|n+1,f=>by rw[kU,Q3 d e h o_];simp only[];obtain⟨h1,h2⟩:=h _ (qaf (show n<c.length by omega));rw[aj4 o_,Et (ajW h2),aj1 h1];simp only[];rw[qan o_,qaX];rfl
theorem RX{a b t:B_}(f:ab2 a)(e:acU b)(h:∀x∈c,Y0 x.1/\o5 x.2)(d:wa t=((s4 a b c).map Mn,0,0)):rX t=([⟨a,b,c.map lN⟩],0,0):=by unfold rX;rw[d];simp only[];rw[qai s_,qap,Ei,kU,Q3 f e h (qak _)];simp only[];rw[aj5,Et (aj7 e.ne),qbh];have:=aj2 (k:=a) (r:=b) (S:=c.map lN) (met:=[b]) (out:=[]);rw[qap]at this;rw[this];simp
end
open Go Go.Am Go.Proofs
open Classical
variable {b:bw} {c:List aL} {n:Int} {v:List bz} {mx:Int}
structure RY where
 ref:B_
 call:Int
 port:B_
 boxes:List bw
 ace:List aH
 err:Int
def RY.bad(e:Int):RY:=⟨[],0,[],[],[],e⟩
def iO(all:List xm):List bw:=all.map (·.1)
def lD(all:List xm):List aH:=all.map fun r=>⟨r.1.id,r.2⟩
def Hx(a b:List xE):Prop:=a.length=b.length/\∀k,(c:k<a.length)->(d:k<b.length)->Hw a[k] b[k]
noncomputable def Sk(c:List aL)(v:List bz)(b:B_)(call:Int)(a:B_)(d:List xE)(all:List xm):RY:=
 if abJ c v call a (iO all) (lD all)/\Hx ((aaT c v call a (iO all) (lD all) (iO all).length).map lN) d then⟨b,call,a,iO all,lD all,0⟩else .bad 393
noncomputable def s6(c:List aL)(v:List bz)(m:Fc):RY:=
 if m.kind≠abH then .bad 392 else match m.Hd with
 |[]=>.bad 393
 |g::gs=>if(lC (cmp g.2 0)).2=false then .bad 393 else match nK c v gs gs.length with
   |none=>.bad 393
   |some all=>Sk c v m.ref (lC (cmp g.2 0)).1 (cmp g.2 1) (g::gs) all
noncomputable def M7(c:List aL)(v:List bz):List Fc->RY
 |[m]=>s6 c v m
 |_=>.bad 392
noncomputable def j6(c:List aL)(v:List bz)(t:B_):RY:=
 if(rX t).2.2≠0 then .bad (rX t).2.2 else M7 c v (rX t).1
def RY.enc(r:RY):PV:=.eN [.str r.ref,.agg [.i r.call,.str r.port,.sl (r.boxes.map bw.enc) [],.sl (r.ace.map aH.enc) []],.i r.err]
theorem akV(x:Raw):Ug x=fW (lN x):=by unfold Ug fW lN acw Mn;congr 2;simp only[qcA];congr 1
theorem aio{g:xE}(h:F1 g):Ax g.2:=by obtain⟨c,a⟩:=h;refine⟨o_,fun e b=>?_⟩;have:=a e b;exact⟨this.1,by have:=this.2.1;omega⟩
theorem aj8{b:UInt8}:∀{l:B_} {acc m:Nat},Lib.parseUint10 acc l=.ok m->Lib.parseUint10 acc (l++[b])=Lib.parseUint10 m [b]
|[],acc,m,h=>by simp only[Lib.parseUint10]at h;injection h with h;subst h;rfl
|c::r,acc,m,h=>by simp only[Lib.parseUint10]at h;rw[qaN];rw[Lib.parseUint10];split at h;{rename_i a;split at h;{cases h};rename_i h1;split at h;{cases h};rename_i h2;rw[qao a,qai h1,qai h2];exact aj8 h};cases h
theorem aj9{b:UInt8}{m:Nat}(a:48<=b.toNat/\b.toNat<=57)(c:m<10^18):Lib.parseUint10 m [b]=.ok (m*10+(b.toNat-48)):=by simp only[Lib.parseUint10];grind
theorem aiq(n:Nat)(h:n<10^18):Lib.parseUint10 0 (digits n)=.ok n:=by induction n using Nat.strongRecOn with|ind n a=>rw[acY];split;{rw[aj9 (by rw[qb3];omega) o_,qb3];grind};rw[aj8 (a (n/10) o_ o_),aj9 (by rw[qb3];omega) o_,qb3];grind
theorem xn(e:0<=n)(h:n<10^18):lC (digits n.toNat)=(n,true):=by have d:=aiq n.toNat o_;have a:=acC n.toNat;have b:digits n.toNat≠[]:=adZ;unfold lC Lib.atoiAll;generalize digits n.toNat=l at d a b;cases l with|nil=>exact absurd rfl b|cons c r=>have f:=a c s_;simp only[];rw[qai o_];unfold Lib.parseMag;grind
theorem Jk(n:Int):((CF n).toNat:Int)=48+n%10:=by simp only[CF,qb3];grind
theorem M8{p:Nat->Bool}{v:Nat}{k:Int}:k∈ig p v↔∃i,i<v/\p i=true/\(i:Int)=k:=by unfold ig;grind
theorem aka(hs:fo c v){i:Nat}(a:i<c.length):∃r,zN c c[i].bay c[i].row c[i].deck=(i:Int)::r:=by have d:(i:Int)∈zN c c[i].bay c[i].row c[i].deck:=M8.mpr ⟨i,a,by rw[qcu a];exact qbT ⟨rfl,rfl,rfl⟩,rfl⟩;have e:∀k∈zN c c[i].bay c[i].row c[i].deck,k=(i:Int):=by{intro k n;obtain⟨j,f,g,rfl⟩:=M8.mp n;rw[qcu f]at g;obtain⟨h,l,m⟩:=qaZ g;rcases qcG i j with b|o|b;{exact absurd ⟨h.symm,l.symm,m.symm⟩ ((hs.2.1 _ f).2 _ b)};{rw[o]};exact absurd ⟨h,l,m⟩ ((hs.2.1 _ a).2 _ b)};generalize zN c c[i].bay c[i].row c[i].deck=q at d e;cases q with|nil=>cases d|cons k r=>exact⟨r,by rw[e k s_]⟩
theorem Pq{x:Slot}(hs:fo c v)(h:acA c x):mw c v (YX c v x).1=(x,0):=by obtain⟨R,S,T,E,p⟩:=h.rk;have d:x.column.toNat<c.length:=o_;rw[adl hs h d];have F:=(hs.2.1 _ d).1;obtain⟨-,q,r,s,-⟩:=F;unfold In at q r s;have G:=E d;obtain⟨U,e⟩:=aka hs d;have u:c[x.column.toNat]? =some c[x.column.toNat]:=qag d;generalize c[x.column.toNat]=k at q r s G e u;obtain⟨n,g⟩:∃n,n=4*k.bay+(if x.half=0 then 2 else if x.half=1 then 1 else 3):=⟨_,rfl⟩;obtain⟨t,l⟩:∃t,t=(2*(x.cC+1)+if k.deck then 80 else 0)%100:=⟨_,rfl⟩;obtain⟨L,b⟩:∃L,L=[CF (n/100),CF (n/10),CF n,CF (k.row/10),CF k.row,CF (t/10),CF t]:=⟨_,rfl⟩;have m:(let j:=k;let n:=4*j.bay+(if x.half=0 then 2 else if x.half=1 then 1 else 3);let t:=(2*(x.cC+1)+if j.deck then 80 else 0)%100;[CF (n/100),CF (n/10),CF n,CF (j.row/10),CF j.row,CF (t/10),CF t])=L:=by{rw[b,g,l]};refine qdC (congrArg (mw c v) m) ?_;have V:0<=n/\n<1000:=by{rw[g];split<;>(try split)<;>omega};have H:n/4=k.bay:=by{rw[g];split<;>(try split)<;>omega};(have o:n%4=if x.half=0 then 2 else if x.half=1 then 1 else 3:=by rw[g];split<;>(try split)<;>omega);have W:0<=t/\t<100:=by{rw[l];omega};have I:(if t=0 then(100:Int)else t)=2*(x.cC+1)+(if k.deck then 80 else 0):=by{rw[l];cases k.deck<;>simp<;>(try split)<;>omega};have w:at_ L 0=48+n/100%10:=by{rw[b];exact Jk _};have y:at_ L 1=48+n/10%10:=by{rw[b];exact Jk _};have z:at_ L 2=48+n%10:=by{rw[b];exact Jk _};have A:at_ L 3=48+k.row/10%10:=by{rw[b];exact Jk _};have B:at_ L 4=48+k.row%10:=by{rw[b];exact Jk _};have C:at_ L 5=48+t/10%10:=by{rw[b];exact Jk _};have D:at_ L 6=48+t%10:=by{rw[b];exact Jk _};have f:L.length=7:=by{rw[b];rfl};have J:100*(at_ L 0-48)+10*(at_ L 1-48)+(at_ L 2-48)=n:=by{rw[w,y,z];have K:n/100=n/10/10:=o_;rw[K];omega};have M:10*(at_ L 3-48)+(at_ L 4-48)=k.row:=by{rw[A,B];omega};have hT:10*(at_ L 5-48)+(at_ L 6-48)=t:=by{rw[C,D];omega};unfold mw;rw[qai (not_not.2 hs),qai (by rintro(a|⟨i,X,a⟩);{exact a f};have:i=0\/i=1\/i=2\/i=3\/i=4\/i=5\/i=6:=o_;rcases this with rfl|rfl|rfl|rfl|rfl|rfl|rfl;{rw[w]at a;omega};{rw[y]at a;omega};{rw[z]at a;omega};{rw[A]at a;omega};{rw[B]at a;omega};{rw[C]at a;omega};rw[D]at a;omega)];simp only[J,M,hT,I,H];have N:decide (80<2*(x.cC+1)+(if k.deck=true then(80:Int)else 0))=k.deck:=by{cases O:k.deck;{simp;omega};simp;omega};have P:(if 80<2*(x.cC+1)+(if k.deck=true then(80:Int)else 0)then 2*(x.cC+1)+(if k.deck=true then(80:Int)else 0)-80 else 2*(x.cC+1)+(if k.deck=true then(80:Int)else 0))/2-1=x.cC:=by{cases O:k.deck;{simp;split<;>omega};simp;split<;>omega};have Q:((x.column.toNat:Nat):Int)=x.column:=o_;rw[N,e,P];simp only[];rw[qai (by rw[o];rintro(a|a|a);{split at a<;>(try split at a)<;>omega};{split at a<;>omega};split at a<;>omega),Q,u];simp only[];rw[qai o_];obtain⟨Y,Z,xh⟩:=x;simp only[]at o p ⊢;rw[o];rcases p with rfl|rfl|rfl<;>simp
theorem aiw(a:iL b):sizeOf (aaU b).1=((b.size,b.high,b.cK),0):=by obtain⟨-,-,c,d,-⟩:=a;have e:b.size=20\/b.size=40:=by{unfold most at d;grind};obtain⟨i,j,f,g,k,l,m,n,h⟩:=b;simp only at*;rcases e with rfl|rfl<;>cases g<;>cases h<;>simp at c<;>simp[aaU]<;>rfl
theorem ama(c:0<=n)(h1:n<256):Qg n=n:=by rw[<-Qj];(have d:∀a b:Int,aF.min a b=if b<a then b else a:=fun _ _=>by first|rfl|(simp only[aF];split<;>simp_all));(have e:∀a b:Int,aF.max a b=if b>a then b else a:=fun _ _=>by first|rfl|(simp only[aF];split<;>simp_all));rw[d,e,qai o_,qai o_];exact Zx c h1
noncomputable def na(c:List aL)(v:List bz):List xm->List xE->Option (List xm)
 |all,[]=>some all
 |all,g::gs=>match aS c v all g with
  |none=>none
  |some a=>na c v a gs
theorem M9{c:List aL}{v:List bz}{g:xE}:∀{b:List xE} {all:List xm},na c v all (b++[g])=match na c v all b with
  |none=>none
  |some a=>aS c v a g
 |[],all=>by
  simp only[qbi,na]
  cases aS c v all g<;>rfl
 |x::b,all=>by
  simp only[qaN,na]
  cases aS c v all x with
  |none=>rfl
  |some a=>exact M9
theorem G6{c:List aL}{v:List bz}{l:List xE}:∀{n:Nat},n<=l.length->nK c v l n=na c v [] (l.take n)
|0,_=>rfl
|n+1,h=>by rw[nK,G6 o_,qan o_,M9,qag o_];cases na c v [] (l.take n)<;>rfl
theorem xo{all:List xm}{r b:xm}{a:B_}{d:List (List B_)}(e:a≠M1)(f:gP a d r=some b):aS c v (all++[r]) (a,d)=some (all++[b]):=by unfold aS;grind
theorem akb{x:aH}{all:List xm}{a:List xE}(hs:fo c v)(d:iL b)(f:acA c x.slot)(n:0<=b.cls):na c v all ((abD c v b x).map lN++a)=na c v (all++[(b,x.slot)]) a:=by obtain⟨⟨o,p⟩,q,-,⟨r,s⟩,⟨t,u,w⟩,y⟩:=id d;have z:most b.size<=40000:=by{unfold most;split<;>(try split)<;>omega};have g:=aiw d;have h:aS c v all (M1,Mn [(YX c v x.slot).1])=some (all++[(Pn,x.slot)]):=by{unfold aS;rw[qao rfl];rw[show cmp (M1,Mn [(YX c v x.slot).1]).2 0=(YX c v x.slot).1 from rfl,Pq hs f,qao rfl]};have i:aS c v (all++[(Pn,x.slot)]) (aii,Mn [digits b.id.toNat,b.number,(aaU b).1])=some (all++[(⟨b.id,b.number,b.size,b.high,0,0,0,0,b.cK⟩,x.slot)]):=by{refine xo d_ ?_;unfold gP;rw[qao rfl,show cmp (Mn [digits b.id.toNat,b.number,(aaU b).1]) 0=digits b.id.toNat from rfl,xn o_ o_];simp only[];rw[show cmp (Mn [digits b.id.toNat,b.number,(aaU b).1]) 1=b.number from rfl,show cmp (Mn [digits b.id.toNat,b.number,(aaU b).1]) 2=(aaU b).1 from rfl,g];rfl};have j:aS c v (all++[(⟨b.id,b.number,b.size,b.high,0,0,0,0,b.cK⟩,x.slot)]) (ajA,Mn [digits b.cD.toNat])=some (all++[(⟨b.id,b.number,b.size,b.high,b.cD,0,0,0,b.cK⟩,x.slot)]):=by{refine xo d_ ?_;unfold gP;rw[qai d_,qao rfl,show cmp (Mn [digits b.cD.toNat]) 0=digits b.cD.toNat from rfl,xn o_ o_]};have k:aS c v (all++[(⟨b.id,b.number,b.size,b.high,b.cD,0,0,0,b.cK⟩,x.slot)]) (aij,Mn [digits b.load.toNat,digits b.discharge.toNat])=some (all++[(⟨b.id,b.number,b.size,b.high,b.cD,b.load,b.discharge,0,b.cK⟩,x.slot)]):=by{refine xo d_ ?_;unfold gP;rw[qai d_,qai d_,qao rfl,show cmp (Mn [digits b.load.toNat,digits b.discharge.toNat]) 0=digits b.load.toNat from rfl,xn o_ o_];simp only[];rw[show cmp (Mn [digits b.load.toNat,digits b.discharge.toNat]) 1=digits b.discharge.toNat from rfl,xn o_ o_]};have l:(abD c v b x).map lN=(M1,Mn [(YX c v x.slot).1])::(aii,Mn [digits b.id.toNat,b.number,(aaU b).1])::(ajA,Mn [digits b.cD.toNat])::(aij,Mn [digits b.load.toNat,digits b.discharge.toNat])::(if 0<b.cls then [(akM,Mn [digits b.cls.toNat])]else []):=by{unfold abD;split<;>rfl};rw[l];simp only[qaN,na];rw[h];simp only[];rw[i];simp only[];rw[j];simp only[];rw[k];simp only[];by_cases e:0<b.cls;{rw[qao e];simp only[qaN,qbi,na];have A:aS c v (all++[(⟨b.id,b.number,b.size,b.high,b.cD,b.load,b.discharge,0,b.cK⟩,x.slot)]) (akM,Mn [digits b.cls.toNat])=some (all++[(b,x.slot)]):=by{refine xo d_ ?_;unfold gP;rw[qai d_,qai d_,qai d_,qao rfl,show cmp (Mn [digits b.cls.toNat]) 0=digits b.cls.toNat from rfl,xn o_ o_];simp only[];rw[ama o_ o_]};grind};rw[qai e];have:b.cls=0:=o_;obtain⟨B,C,m,D,E,F,G,H,I⟩:=b;grind
theorem acf{c:List aL}{v:List bz}(hs:fo c v):∀{q:List (bw×aH)} {all:List xm},agp c q->na c v all ((abI c v q).map lN)=some (all++q.map fun x=>(x.1,x.2.slot))
|[],all,_=>by simp[abI,na]
|x::q,all,h=>by obtain⟨h1,h2,d,a⟩:=h x s_;have e:(abI c v (x::q)).map lN=(abD c v x.1 x.2).map lN++(abI c v q).map lN:=by{simp[abI]};rw[e,akb hs h1 h2 a,acf hs (fun y b=>h y (by simp[b]))];simp
end Go.aA
