import Derived.Test.YtfaccbkibjkfjaaGreatDoorT32
import Derived.Test.YtfaccbkibjkfjaaGreatDoorT21
set_option linter.all false
set_option maxRecDepth 100000
set_option maxHeartbeats 1000000
namespace Go.aA
section
open Go Go.Am Go.Proofs
open Classical
variable {c:List aL} {d:List (List B_)} {l:List Fc} {t:B_} {v:List bz} {mx:Int}
theorem GY{s:B_}:Lc (lC s).1:=by unfold lC;cases h:Lib.atoiAll s with|range=>grind[Lc,Lib.atoiSat_bounds]|ok v=>unfold Lib.atoiAll at h;split at h;{cases h};dsimp at h;split at h;{cases h};{cases h};grind[Lc]|_=>grind[Lc]
def V0(r:xm):Prop:=og r.1/\kL ⟨r.1.id,r.2⟩
theorem akO(t:B_):0<=(sizeOf t).1.1/\(sizeOf t).1.1<256:=by unfold sizeOf;cases h:ab1.find? (fun x=>x.1==t)with|none=>simp_all|some x=>grind[ab1]
theorem al8(n:Int):0<=Qg n/\Qg n<256:=by rw[<-Qj];have a:0<=(if 255<(if 0>n then 0 else n)then 255 else(if 0>n then 0 else n))/\(if 255<(if 0>n then 0 else n)then 255 else(if 0>n then 0 else n))<256:=by{omega};simp_all[Zx]
theorem akP{e:B_}{r n:xm}(h:gP e d r=some n)(o:V0 r):V0 n:=by obtain⟨⟨f,g,i,j,k,l⟩,⟨m,a,b,c⟩⟩:=o;unfold gP at h;split at h;{split at h;{cases h;exact⟨⟨akO _,g,GY,j,k,l⟩,⟨GY,a,b,c⟩⟩};cases h};split at h;{split at h;{cases h;exact⟨⟨f,g,i,GY,k,l⟩,⟨m,a,b,c⟩⟩};cases h};split at h;{split at h;{split at h;{cases h;exact⟨⟨f,g,i,j,GY,GY⟩,⟨m,a,b,c⟩⟩};cases h};cases h};split at h;{split at h;{cases h;exact⟨⟨f,al8 _,i,j,k,l⟩,⟨m,a,b,c⟩⟩};cases h};cases h
theorem aeX{p:Nat->Bool}{v:Nat}{k:Int}(h:k∈ig p v):0<=k/\k<(v:Int):=by grind[ig]
theorem akQ{s:Slot}(h:mw c v t=(s,0))(hl:c.length<2^32):Lc s.column/\Lc s.ct/\(0<=s.half/\s.half<256):=by unfold mw at h;by_cases p:¬fo c v;{simp_all};by_cases f:t.length≠7\/∃i,i<7/\¬(48<=at_ t i/\at_ t i<=57);{simp_all};rw[qai f]at h;have b:∀i,i<7->48<=at_ t i/\at_ t i<=57:=fun i u=>by{simp_all};have w:=b 5 d_;have y:=b 6 d_;generalize z:100*(at_ t 0-48)+10*(at_ t 1-48)+(at_ t 2-48)=n at h;generalize A:10*(at_ t 3-48)+(at_ t 4-48)=row at h;have g:0<=(if 10*(at_ t 5-48)+(at_ t 6-48)=0 then 100 else 10*(at_ t 5-48)+(at_ t 6-48))/\(if 10*(at_ t 5-48)+(at_ t 6-48)=0 then 100 else 10*(at_ t 5-48)+(at_ t 6-48))<=100:=by{omega};simp at h;generalize (if 10*(at_ t 5-48)+(at_ t 6-48)=0 then 100 else 10*(at_ t 5-48)+(at_ t 6-48))=a at h g;by_cases j:n%4=0\/a%2=1\/(20<a/\a<82);{simp_all};rw[qai j]at h;have d:∀{k:Int},k∈zN c (n/4) row (decide (80<a))->0<=k/\k<(c.length:Int):=fun e=>aeX e;generalize zN c (n/4) row (decide (80<a))=l at h d;cases l with|nil=>simp_all|cons k r=>have e:=d (k:=k) s_;simp at h;cases m:c[k.toNat]? with|none=>simp_all|some x=>rw[m]at h;simp at h;generalize B:(if 80<a then a-80 else a)/2-1=q at h;have o: -100<=q/\q<=100:=o_;grind[Lc]
theorem akR{all a:List xm}{g:xE}(h:aS c v all g=some a)(hl:c.length<2^32)(l:∀r∈all,V0 r):(∀r∈a,V0 r)/\a.length<=all.length+1:=by unfold aS at h;split at h;{obtain⟨⟨s,e⟩,hs⟩:∃y,mw c v (cmp g.2 0)=y:=⟨_,rfl⟩;rw[hs]at h;by_cases d:e=0;{subst d;rw[qao rfl]at h;have:=qa9 h;subst this;refine⟨?_,s_⟩;intro r f;rcases List.mem_append.mp f with b|b;{simp_all};have:=List.mem_singleton.mp b;subst this;obtain⟨i,j,k⟩:=akQ hs hl;refine⟨⟨⟨by show(0:Int)<=0;decide,by show(0:Int)<256;decide⟩,⟨by show(0:Int)<=0;decide,by show(0:Int)<256;decide⟩,?_,?_,?_,?_⟩,?_,i,j,k⟩<;>(show Lc 0;grind[Lc])};simp_all};grind[List.dropLast_subset,akP]
theorem ae1{c:List aL}{v:List bz}{l:List xE}(hl:c.length<2^32):∀{n:Nat} {all:List xm},nK c v l n=some all->(∀r∈all,V0 r)/\all.length<=n
|0,all,h=>by have:=qa9 h;simp_all
|n+1,all,h=>by rw[nK]at h;split at h;{cases h};rename_i a b;split at h;{cases h};obtain⟨d,e⟩:=ae1 hl b;obtain⟨f,g⟩:=akR h hl d;grind
theorem acd{c:List aL}{v:List bz}{l:List xE}{n:Nat}(h:nK c v l n=none):∀{m:Nat},n<=m->nK c v l m=none
|0,hm=>by simp_all
|m+1,hm=>by by_cases e:n=m+1;{simp_all};rw[nK,acd h (m:=m) o_]
def F1(g:xE):Prop:=g.2.length<=30/\∀e∈g.2,DL e
theorem akS{s a:PJ}(c:d.length<=30/\∀e∈d,DL e)(hs:(∀g∈s.cur.Hd,F1 g)/\∀m∈s.out,(∀g∈m.Hd,F1 g)/\m.Hd.length<=5000)(hl:s.cur.Hd.length<=5000)(h:lK s d=.ok a):(∀g∈a.cur.Hd,F1 g)/\∀m∈a.out,(∀g∈m.Hd,F1 g)/\m.Hd.length<=5000:=by unfold lK at h;split at h;{grind[aaF]};split at h;{grind[Dy]};unfold rW at h;split at h;{cases h};split at h;{cases h};cases h;refine⟨?_,hs.2⟩;intro g f;rcases List.mem_append.mp f with b|b;{simp_all};have:=List.mem_singleton.mp b;subst this;exact⟨g_,fun e i=>c.2 e (List.drop_subset _ _ i)⟩
theorem V1{L:List (List (List B_))}(d:L.length<=5000)(b:∀x∈L,abO x):∀{n:Nat} {s:PJ},n<=L.length->kU L n=.ok s->(∀g∈s.cur.Hd,F1 g)/\∀m∈s.out,(∀g∈m.Hd,F1 g)/\m.Hd.length<=5000
|0,s,_,h=>by have:aji=s:=by{cases h;rfl};subst this;exact⟨(fun g a=>by cases a),(fun m e=>by cases e)⟩
|n+1,s,i,h=>by rw[kU]at h;split at h;{rename_i j c;split at h;{rename_i k f;cases h;have a:L.getD n []∈L:=by{grind};exact akS (Qb (b _ a)) (V1 d b o_ c) (by have:=DA c;omega) f};cases h};cases h
theorem aim{p e:Int}(h:rX t=(l,p,e)):∀m∈l,(∀g∈m.Hd,F1 g)/\m.Hd.length<=5000:=by unfold rX at h;obtain⟨⟨L,d,f⟩,a⟩:∃y,wa t=y:=⟨_,rfl⟩;rw[a]at h;obtain⟨b,c⟩:=OU a;simp only[]at h;split at h;{simp_all};split at h;{simp_all};rename_i s hs;split at h;{simp_all};have:=congrArg Prod.fst h;simp at this;subst this;exact(V1 b c (qak _) hs).2
theorem ae8{p e:Int}(h:rX t=(l,p,e)):l.length<=5000:=by unfold rX at h;obtain⟨⟨L,b,c⟩,a⟩:∃y,wa t=y:=⟨_,rfl⟩;rw[a]at h;obtain⟨d,f⟩:=OU a;simp only[]at h;split at h;{simp_all};split at h;{simp_all};rename_i s hs;split at h;{simp_all};have:=congrArg Prod.fst h;simp at this;subst this;have:=DA hs;omega
end
section
open Go Go.Am
open Classical
variable {A:B_} {E:List (List B_)} {S:List (List (List B_))} {a:List B_} {b:UInt8} {c:List Raw} {i:Nat} {k:B_} {m:Nat} {p:B_} {s:F0} {x:Raw}
theorem al9{B:B_}(h:i<A.length):at_ (A++B) i=at_ A i:=by grind[at_]
theorem akT:at_ (A++[b]) A.length=(b.toNat:Int):=by grind[at_]
theorem V2{A B:B_}:∀{n:Nat},n<=A.length->bc (A++B) n=bc A n
|0,_=>rfl
|n+1,h=>by rw[bc,bc,V2 o_,al9 o_]
def uN(A:B_)(s:F0):Prop:=bc A A.length=.ok s
theorem uN.nil:uN [] adp:=rfl
theorem uN.step{s':F0}(h:uN A s)(a:mu s A.length (b.toNat:Int)=.ok s'):uN (A++[b]) s':=by simp_all[uN,bc,V2,akT]
theorem Yq{c:Int}(a:s.mode≠.rel)(hl:s.Hd.length<5000)(b:33<=c):mu s i c=rT s i c:=by grind[mu]
theorem uN.byte{a:U8}(h:uN A ⟨S,E,[],p,a,m⟩)(c:a≠.rel)(d:S.length<5000)(e:p.length<100)(f:(48<=b.toNat/\b.toNat<=57)\/(65<=b.toNat/\b.toNat<=90)):uN (A++[b]) ⟨S,E,[],p++[b],.ins,m⟩:=by refine h.step ?_;rw[Yq c d o_];unfold rT;rw[qai o_,qai o_,qai o_,qai o_,qai o_,qai o_];unfold jo;rw[qai g_];simp
theorem uN.piece{S:List (List (List B_))}{E:List (List B_)}{m:Nat}(e:S.length<5000):∀{c A p:B_} {a:U8},uN A ⟨S,E,[],p,a,m⟩->a≠.rel->p.length+c.length<=100->VU c->∃d,d≠.rel/\uN (A++c) ⟨S,E,[],p++c,d,m⟩
|[],A,p,a,h,hm,_,_=>⟨a,hm,a_⟩
|b::c,A,p,a,h,hm,hl,f=>by simp at hl;have h1:=h.byte hm e o_ (f b s_);obtain⟨d,i,j⟩:=uN.piece e (c:=c) h1 d_ g_ (fun x g=>f x (by simp[g]));grind
theorem uN.sep{a:U8}(h:uN A ⟨S,E,[],p,a,m⟩)(b:a≠.rel)(c:S.length<5000)(d:E.length<29):uN (A++[43]) ⟨S,E++[[p]],[],[],.ins,m⟩:=by refine h.step ?_;grind[Yq,rT]
theorem uN.fin{a:U8}(h:uN A ⟨S,E,[],p,a,m⟩)(b:a≠.rel)(c:S.length<5000):uN (A++[39]) ⟨S++[E++[[p]]],[],[],[],.out,m⟩:=by refine h.step ?_;grind[Yq,rT]
def Pp(a:List B_):Prop:=∀c∈a,VU c/\c.length<=100
theorem uN.ended{S:List (List (List B_))}{m:Nat}(b:S.length<5000):∀{cs:List B_} {A:B_} {E:List (List B_)} {a:U8},uN A ⟨S,E,[],[],a,m⟩->a≠.rel->E.length+cs.length<=29->Pp cs->∃d,d≠.rel/\uN (A++aA.ended 43 cs) ⟨S,E++Mn cs,[],[],d,m⟩
|[],A,E,a,h,hm,_,_=>⟨a,hm,by grind[aA.ended,Mn]⟩
|c::cs,A,E,a,h,hm,hl,e=>by simp at hl;obtain⟨h1,h2⟩:=e c s_;obtain⟨f,g,i⟩:=h.piece b hm a_ h1;have j:=i.sep g b o_;obtain⟨d,l,n⟩:=uN.ended b (cs:=cs) j d_ g_ (fun x k=>e x (by simp[k]));grind[aA.ended,Mn]
theorem uN.seg{d:List B_}(h:uN A ⟨S,[],[],[],.out,m⟩)(f:S.length<5000)(t:d≠[])(hl:d.length<=30)(g:Pp d):uN (A++adX (Mn d)) ⟨S++[Mn d],[],[],[],.out,m⟩:=by obtain⟨a,c,rfl⟩:∃a c,d=a++[c]:=by{rcases qda d with e|⟨l,b,e⟩;{simp_all};simp_all};have j:Pp a:=fun x i=>g x (by simp[i]);obtain⟨k,u⟩:=g c s_;have v:acB (Mn (a++[c])) (Mn (a++[c])).length=aA.ended 43 a++c:=by{have:=acP (cs:=a++[c]) (fun x i=>(g x i).1) s_;have w:aA.ended 43 (a++[c])=aA.ended 43 a++c++[43]:=by{simp[aA.ended]};grind[List.append_cancel_right]};obtain⟨n,o,p⟩:=h.ended f d_ a_ j;obtain⟨q,r,s⟩:=p.piece f o a_ k;have y:=s.fin r f;grind[adX,Mn]
theorem uN.out{l:List (List B_)}(b:l.length<=5000)(h:∀a∈l,a≠[]/\a.length<=30/\Pp a):∀{n:Nat},n<=l.length->uN (Uu (l.map Mn) n) ⟨(l.map Mn).take n,[],[],[],.out,0⟩
|0,_=>uN.nil
|n+1,g=>by have c:=uN.out b h (n:=n) o_;obtain⟨d,e,f⟩:=h _ (qaf (show n<l.length by omega));have:=c.seg g_ d e f;grind[Uu,List.take_succ_eq_append_getElem]
theorem Qk{l:List (List B_)}(b:l.length<=5000)(h:∀a∈l,a≠[]/\a.length<=30/\Pp a)(hl:(Uu (l.map Mn) (l.map Mn).length).length<=65536):wa (Uu (l.map Mn) (l.map Mn).length)=(l.map Mn,0,0):=by grind[uN.out,uN,wa]
def o5(a:List B_):Prop:=∃l d,a=l++[d]/\d≠[]
theorem Et(h:o5 a):CG (Mn a)=Mn a:=by obtain⟨l,d,rfl,b⟩:=h;have c:(Mn (l++[d])).map Jf=Mn (l++[d]):=by{unfold Mn;rw[qcA];rfl};simp_all[CG,Mn]
theorem ajW(h:o5 x.2):o5 (aeu x):=by obtain⟨l,d,b,a⟩:=h;exact⟨x.1::l,d,by grind[aeu],a⟩
def lN(x:Raw):B_×List (List B_):=(x.1,Mn x.2)
theorem M5{a b c:B_}:Ol (Mn [a,b,c]):=by refine⟨rfl,fun e d=>?_⟩;grind[Mn]
theorem GZ{c:B_}:gY (Mn (c::a)):=⟨by simp[Mn],rfl⟩
theorem aj0{a b:B_}(c:ab2 a)(d:acU b):lK aji (Mn (afD a b))=.ok ⟨⟨a,b,[]⟩,true,[b],[]⟩:=by unfold lK;rw[qao ⟨GZ,rfl⟩];unfold aaF;rw[qai (by rintro(h|h|h|h);{cases h};{exact h M5};{exact h d};exact h c),qai (by intro h;cases h)];rfl
theorem aj1{r:B_}{S:List (B_×List (List B_))}{out:List Fc}(b:Y0 x.1):lK ⟨⟨k,r,S⟩,true,a,out⟩ (Mn (aeu x))=.ok ⟨⟨k,r,S++[lN x]⟩,true,a,out⟩:=by unfold lK;rw[qai (fun h=>b.2.2.1 h.2),qai (fun h=>b.2.2.2 h.2)];unfold rW;rw[qai a_,qai (by rintro(h|h);{exact h GZ};exact h b)];rfl
theorem aj2{r:B_}{S:List (B_×List (List B_))}{out:List Fc}:lK ⟨⟨k,r,S⟩,true,a,out⟩ (Mn (af3 S.length r))=.ok ⟨⟨k,r,S⟩,false,a,out++[⟨k,r,S⟩]⟩:=by unfold lK;rw[qai (fun h=>absurd h.2 (by show ¬([69,78,68]:B_)=[72,69,68];decide)),qao ⟨GZ,rfl⟩];unfold Dy;rw[qai a_,qai (by rintro(h|h|h);{exact h M5};{exact h rfl};exact h rfl)]
def s4(a b:B_)(c:List Raw):List (List B_):=(afD a b::c.map aeu)++[af3 c.length b]
theorem MX{kind ref:B_}{ls:List Raw}:(s4 kind ref ls).length=ls.length+2:=by simp[s4]
theorem aj3{a b:B_}:((s4 a b c).map Mn).getD 0 []=Mn (afD a b):=rfl
theorem aj4{a b:B_}(h:i<c.length):((s4 a b c).map Mn).getD (i+1) []=Mn (aeu c[i]):=by grind[s4]
theorem aj5{a b:B_}:((s4 a b c).map Mn).getD (c.length+1) []=Mn (af3 c.length b):=by grind[s4]
theorem aj6{a b:B_}(h:a≠[]):o5 (afD a b):=⟨[[72,69,68],b],a,rfl,h⟩
theorem aj7{n:Nat}{a:B_}(h:a≠[]):o5 (af3 n a):=⟨[[69,78,68],digits (n+2)],a,rfl,h⟩
theorem ab2.ne(h:ab2 k):k≠[]:=by intro e;rw[e]at h;exact absurd h.1 d_
theorem acU.ne(h:acU k):k≠[]:=by intro e;rw[e]at h;exact absurd h.1 d_
theorem Q3{a b:B_}{c:List Raw}(d:ab2 a)(e:acU b)(h:∀x∈c,Y0 x.1/\o5 x.2):∀{n:Nat},n<=c.length->kU ((s4 a b c).map Mn) (n+1)=.ok ⟨⟨a,b,(c.take n).map lN⟩,true,[b],[]⟩
|0,_=>by rw[kU,kU];simp only[];rw[aj3,Et (aj6 d.ne),aj0 d e];rfl
|n+1,f=>by rw[kU,Q3 d e h o_];grind[aj4,Et,ajW,aj1,List.take_succ_eq_append_getElem]
theorem RX{a b t:B_}(f:ab2 a)(e:acU b)(h:∀x∈c,Y0 x.1/\o5 x.2)(d:wa t=((s4 a b c).map Mn,0,0)):rX t=([⟨a,b,c.map lN⟩],0,0):=by unfold rX;rw[d];simp only[];rw[qai s_,qap,MX,kU,Q3 f e h (qak _)];rw[aj5,Et (aj7 e.ne),qbh];grind[aj2]
end
open Go Go.Am Go.Proofs
open Classical
variable {b:bw} {c:List aL} {n:Int} {v:List bz} {mx:Int}
structure RY where
 ref:B_
 call:Int
 port:B_
 boxes:List bw
 ace:List aH
 err:Int
def RY.bad(e:Int):RY:=⟨[],0,[],[],[],e⟩
def iO(all:List xm):List bw:=all.map (·.1)
def lD(all:List xm):List aH:=all.map fun r=>⟨r.1.id,r.2⟩
def Hx(a b:List xE):Prop:=a.length=b.length/\∀k,(c:k<a.length)->(d:k<b.length)->Hw a[k] b[k]
noncomputable def Sk(c:List aL)(v:List bz)(b:B_)(call:Int)(a:B_)(d:List xE)(all:List xm):RY:=
 if abJ c v call a (iO all) (lD all)/\Hx ((aaT c v call a (iO all) (lD all) (iO all).length).map lN) d then⟨b,call,a,iO all,lD all,0⟩else .bad 393
noncomputable def s6(c:List aL)(v:List bz)(m:Fc):RY:=
 if m.kind≠abH then .bad 392 else match m.Hd with
 |[]=>.bad 393
 |g::gs=>if(lC (cmp g.2 0)).2=false then .bad 393 else match nK c v gs gs.length with
   |none=>.bad 393
   |some all=>Sk c v m.ref (lC (cmp g.2 0)).1 (cmp g.2 1) (g::gs) all
noncomputable def M7(c:List aL)(v:List bz):List Fc->RY
 |[m]=>s6 c v m
 |_=>.bad 392
noncomputable def j6(c:List aL)(v:List bz)(t:B_):RY:=
 if(rX t).2.2≠0 then .bad (rX t).2.2 else M7 c v (rX t).1
def RY.enc(r:RY):PV:=.eN [.str r.ref,.agg [.i r.call,.str r.port,.sl (r.boxes.map bw.enc) [],.sl (r.ace.map aH.enc) []],.i r.err]
theorem akV(x:Raw):Ug x=fW (lN x):=by unfold Ug fW lN acw Mn;simp only[qcA];congr 1
theorem aio{g:xE}(h:F1 g):Ax g.2:=by obtain⟨c,a⟩:=h;refine⟨o_,fun e b=>?_⟩;have:=a e b;exact⟨this.1,by have:=this.2.1;omega⟩
theorem aj8{b:UInt8}:∀{l:B_} {acc m:Nat},Lib.parseUint10 acc l=.ok m->Lib.parseUint10 acc (l++[b])=Lib.parseUint10 m [b]
|[],acc,m,h=>by grind[Lib.parseUint10]
|c::r,acc,m,h=>by simp[Lib.parseUint10]at h;rw[qaN];rw[Lib.parseUint10];split at h;{rename_i a;split at h;{cases h};rename_i h1;split at h;{cases h};rename_i h2;rw[qao a,qai h1,qai h2];exact aj8 h};cases h
theorem aj9{b:UInt8}{m:Nat}(a:48<=b.toNat/\b.toNat<=57)(c:m<10^18):Lib.parseUint10 m [b]=.ok (m*10+(b.toNat-48)):=by grind[Lib.parseUint10]
theorem aiq(n:Nat)(h:n<10^18):Lib.parseUint10 0 (digits n)=.ok n:=by induction n using Nat.strongRecOn with|ind n a=>rw[acY];split;{grind[aj9,UInt8.toNat_ofNat']};rw[aj8 (a (n/10) o_ o_),aj9 (by grind[UInt8.toNat_ofNat']) o_,qb3];grind
theorem xn(e:0<=n)(h:n<10^18):lC (digits n.toNat)=(n,true):=by have b:=aiq n.toNat o_;have a:=acC n.toNat;have d:digits n.toNat≠[]:=adZ;unfold lC Lib.atoiAll;generalize digits n.toNat=l at b a d;cases l with|nil=>simp_all|cons c r=>have f:=a c s_;grind[Lib.parseMag]
theorem Jk(n:Int):((CF n).toNat:Int)=48+n%10:=by grind[CF,UInt8.toNat_ofNat']
theorem M8{p:Nat->Bool}{v:Nat}{k:Int}:k∈ig p v↔∃i,i<v/\p i=true/\(i:Int)=k:=by grind[ig]
theorem aka(hs:fo c v){i:Nat}(a:i<c.length):∃r,zN c c[i].bay c[i].row c[i].deck=(i:Int)::r:=by have d:(i:Int)∈zN c c[i].bay c[i].row c[i].deck:=M8.mpr ⟨i,a,by rw[qcu a];exact qbT ⟨rfl,rfl,rfl⟩,rfl⟩;have m:∀k∈zN c c[i].bay c[i].row c[i].deck,k=(i:Int):=by{intro k n;obtain⟨j,e,f,rfl⟩:=M8.mp n;rw[qcu e]at f;obtain⟨g,h,l⟩:=qaZ f;rcases qcG i j with b|o|b;{exact absurd ⟨g.symm,h.symm,l.symm⟩ ((hs.2.1 _ e).2 _ b)};{rw[o]};exact absurd ⟨g,h,l⟩ ((hs.2.1 _ a).2 _ b)};generalize zN c c[i].bay c[i].row c[i].deck=q at d m;cases q with|nil=>cases d|cons k r=>simp_all
theorem Pq{x:Slot}(hs:fo c v)(h:acA c x):mw c v (YX c v x).1=(x,0):=by obtain⟨C,D,E,o,F⟩:=h.rk;have a:x.column.toNat<c.length:=o_;rw[adl hs h a];have p:=(hs.2.1 _ a).1;obtain⟨-,g,j,l,-⟩:=p;unfold In at g j l;have q:=o a;obtain⟨G,d⟩:=aka hs a;have r:c[x.column.toNat]? =some c[x.column.toNat]:=qag a;generalize c[x.column.toNat]=k at g j l q d r;obtain⟨n,H⟩:∃n,n=4*k.bay+(if x.half=0 then 2 else if x.half=1 then 1 else 3):=⟨_,rfl⟩;obtain⟨t,I⟩:∃t,t=(2*(x.ct+1)+if k.deck then 80 else 0)%100:=⟨_,rfl⟩;obtain⟨L,b⟩:∃L,L=[CF (n/100),CF (n/10),CF n,CF (k.row/10),CF k.row,CF (t/10),CF t]:=⟨_,rfl⟩;have f:(let e:=k;let n:=4*e.bay+(if x.half=0 then 2 else if x.half=1 then 1 else 3);let t:=(2*(x.ct+1)+if e.deck then 80 else 0)%100;[CF (n/100),CF (n/10),CF n,CF (e.row/10),CF e.row,CF (t/10),CF t])=L:=a_;refine qdC (congrArg (mw c v) f) ?_;have J:0<=n/\n<1000:=o_;have s:n/4=k.bay:=o_;(have K:n%4=if x.half=0 then 2 else if x.half=1 then 1 else 3:=o_);have M:0<=t/\t<100:=o_;have u:(if t=0 then(100:Int)else t)=2*(x.ct+1)+(if k.deck then 80 else 0):=by{omega};have N:at_ L 0=48+n/100%10:=by{rw[b];exact Jk _};have O:at_ L 1=48+n/10%10:=by{rw[b];exact Jk _};have P:at_ L 2=48+n%10:=by{rw[b];exact Jk _};have Q:at_ L 3=48+k.row/10%10:=by{rw[b];exact Jk _};have R:at_ L 4=48+k.row%10:=by{rw[b];exact Jk _};have S:at_ L 5=48+t/10%10:=by{rw[b];exact Jk _};have T:at_ L 6=48+t%10:=by{rw[b];exact Jk _};have m:L.length=7:=g_;have w:100*(at_ L 0-48)+10*(at_ L 1-48)+(at_ L 2-48)=n:=by{grind};have y:10*(at_ L 3-48)+(at_ L 4-48)=k.row:=o_;have hT:10*(at_ L 5-48)+(at_ L 6-48)=t:=o_;unfold mw;rw[qai (not_not.2 hs),qai (by rintro(z|⟨i,U,z⟩);{omega};have:i=0\/i=1\/i=2\/i=3\/i=4\/i=5\/i=6:=o_;rcases this with rfl|rfl|rfl|rfl|rfl|rfl|rfl;{omega};{omega};{omega};{omega};{omega};{omega};omega)];simp only[w,y,hT,u,s];have A:decide (80<2*(x.ct+1)+(if k.deck=true then(80:Int)else 0))=k.deck:=by{grind};have B:(if 80<2*(x.ct+1)+(if k.deck=true then(80:Int)else 0)then 2*(x.ct+1)+(if k.deck=true then(80:Int)else 0)-80 else 2*(x.ct+1)+(if k.deck=true then(80:Int)else 0))/2-1=x.ct:=by{grind};rw[A,d,B];obtain⟨V,W,X⟩:=x;grind
theorem aiw(a:iL b):sizeOf (aaU b).1=((b.size,b.high,b.cK),0):=by obtain⟨-,-,c,h,-⟩:=a;have d:b.size=20\/b.size=40:=by{grind[most]};obtain⟨i,j,e,f,k,l,m,n,g⟩:=b;rcases d with rfl|rfl<;>cases f<;>cases g<;>simp at c<;>simp[aaU]<;>rfl
theorem ama(e:0<=n)(h1:n<256):Qg n=n:=by rw[<-Qj];(have c:∀a b:Int,aF.min a b=if b<a then b else a:=fun _ _=>r_);(have d:∀a b:Int,aF.max a b=if b>a then b else a:=fun _ _=>r_);rw[c,d,qai o_,qai o_];simp_all[Zx]
noncomputable def na(c:List aL)(v:List bz):List xm->List xE->Option (List xm)
 |all,[]=>some all
 |all,g::gs=>match aS c v all g with
  |none=>none
  |some a=>na c v a gs
theorem M9{c:List aL}{v:List bz}{g:xE}:∀{b:List xE} {all:List xm},na c v all (b++[g])=match na c v all b with
  |none=>none
  |some a=>aS c v a g
 |[],all=>by
  grind[na]
 |x::b,all=>by
  simp[na]
  cases aS c v all x with
  |none=>rfl
  |some a=>exact M9
theorem G6{c:List aL}{v:List bz}{l:List xE}:∀{n:Nat},n<=l.length->nK c v l n=na c v [] (l.take n)
|0,_=>rfl
|n+1,h=>by rw[nK,G6 o_,qan o_,M9,qag o_];rfl
theorem xo{all:List xm}{r b:xm}{a:B_}{d:List (List B_)}(e:a≠M1)(f:gP a d r=some b):aS c v (all++[r]) (a,d)=some (all++[b]):=by grind[aS]
theorem akb{x:aH}{all:List xm}{a:List xE}(hs:fo c v)(d:iL b)(n:acA c x.slot)(o:0<=b.cls):na c v all ((abD c v b x).map lN++a)=na c v (all++[(b,x.slot)]) a:=by obtain⟨⟨p,q⟩,r,-,⟨s,t⟩,⟨u,w,y⟩,z⟩:=id d;have A:most b.size<=40000:=by{grind[most]};have f:=aiw d;have g:aS c v all (M1,Mn [(YX c v x.slot).1])=some (all++[(Pn,x.slot)]):=by{grind[aS,cmp,Mn,Pq]};have h:aS c v (all++[(Pn,x.slot)]) (aii,Mn [digits b.id.toNat,b.number,(aaU b).1])=some (all++[(⟨b.id,b.number,b.size,b.high,0,0,0,0,b.cK⟩,x.slot)]):=by{refine xo d_ ?_;unfold gP;rw[qao rfl,show cmp (Mn [digits b.id.toNat,b.number,(aaU b).1]) 0=digits b.id.toNat from rfl,xn o_ o_];simp only[];rw[show cmp (Mn [digits b.id.toNat,b.number,(aaU b).1]) 1=b.number from rfl,show cmp (Mn [digits b.id.toNat,b.number,(aaU b).1]) 2=(aaU b).1 from rfl,f];rfl};have i:aS c v (all++[(⟨b.id,b.number,b.size,b.high,0,0,0,0,b.cK⟩,x.slot)]) (ajA,Mn [digits b.cD.toNat])=some (all++[(⟨b.id,b.number,b.size,b.high,b.cD,0,0,0,b.cK⟩,x.slot)]):=by{refine xo d_ ?_;unfold gP;rw[qai d_,qao rfl,show cmp (Mn [digits b.cD.toNat]) 0=digits b.cD.toNat from rfl,xn o_ o_]};have j:aS c v (all++[(⟨b.id,b.number,b.size,b.high,b.cD,0,0,0,b.cK⟩,x.slot)]) (aij,Mn [digits b.load.toNat,digits b.discharge.toNat])=some (all++[(⟨b.id,b.number,b.size,b.high,b.cD,b.load,b.discharge,0,b.cK⟩,x.slot)]):=by{refine xo d_ ?_;unfold gP;rw[qai d_,qai d_,qao rfl,show cmp (Mn [digits b.load.toNat,digits b.discharge.toNat]) 0=digits b.load.toNat from rfl,xn o_ o_];grind[cmp,Mn,xn]};have k:(abD c v b x).map lN=(M1,Mn [(YX c v x.slot).1])::(aii,Mn [digits b.id.toNat,b.number,(aaU b).1])::(ajA,Mn [digits b.cD.toNat])::(aij,Mn [digits b.load.toNat,digits b.discharge.toNat])::(if 0<b.cls then [(akM,Mn [digits b.cls.toNat])]else []):=by{unfold abD;split<;>rfl};rw[k];simp[na];rw[g];simp;rw[h];simp;rw[i];simp;rw[j];by_cases e:0<b.cls;{rw[qao e];simp[na];have l:aS c v (all++[(⟨b.id,b.number,b.size,b.high,b.cD,b.load,b.discharge,0,b.cK⟩,x.slot)]) (akM,Mn [digits b.cls.toNat])=some (all++[(b,x.slot)]):=by{refine xo d_ ?_;unfold gP;rw[qai d_,qai d_,qai d_,qao rfl,show cmp (Mn [digits b.cls.toNat]) 0=digits b.cls.toNat from rfl,xn o_ o_];simp only[];rw[ama o_ o_]};rw[l]};rw[qai e];have:b.cls=0:=o_;obtain⟨B,C,m,D,E,F,G,H,I⟩:=b;simp_all
theorem acf{c:List aL}{v:List bz}(hs:fo c v):∀{q:List (bw×aH)} {all:List xm},agp c q->na c v all ((abI c v q).map lN)=some (all++q.map fun x=>(x.1,x.2.slot))
|[],all,_=>by simp[abI,na]
|x::q,all,h=>by obtain⟨h1,h2,d,a⟩:=h x s_;have e:(abI c v (x::q)).map lN=(abD c v x.1 x.2).map lN++(abI c v q).map lN:=by{simp[abI]};rw[e,akb hs h1 h2 a,acf hs (fun y b=>h y (by simp[b]))];simp
end Go.aA
