import Derived.Test.YtfaccbkibjkfjaaGreatDoorT37
import Derived.Test.YtfaccbkibjkfjaaGreatDoorT38
set_option linter.all false
set_option maxRecDepth 100000
set_option maxHeartbeats 1000000
namespace Go.aA
open Go Go.Am Go.Proofs
open Classical
variable {a:B_} {b:List xE} {c:List aL} {call:Int} {d:List (List B_)} {m:Fc} {t:B_} {v:List bz} {x:Slot} {mx:Int}
noncomputable def ng(g:xE)(r:xm):xm:=
 if g.1=aii then(⟨lL (SW g.2 0),SW g.2 1,(qq (SW g.2 2)).1,(qq (SW g.2 2)).2.1,r.1.cD,r.1.load,r.1.discharge,r.1.cls,(qq (SW g.2 2)).2.2⟩,r.2)
 else if g.1=ajA then(⟨r.1.id,r.1.number,r.1.size,r.1.high,lL (SW g.2 0),r.1.load,r.1.discharge,r.1.cls,r.1.cK⟩,r.2)
 else if g.1=aij then(⟨r.1.id,r.1.number,r.1.size,r.1.high,r.1.cD,lL (SW g.2 0),lL (SW g.2 1),r.1.cls,r.1.cK⟩,r.2)
 else if g.1=akM/\(SW g.2 0).length=1 then(⟨r.1.id,r.1.number,r.1.size,r.1.high,r.1.cD,r.1.load,r.1.discharge,(at_ (SW g.2 0) 0+208)%256,r.1.cK⟩,r.2)
 else r
theorem agu{a b d e f g h:UInt8}:at_ [a,b,d,e,f,g,h] 0=a.toNat/\at_ [a,b,d,e,f,g,h] 1=b.toNat/\at_ [a,b,d,e,f,g,h] 2=d.toNat/\at_ [a,b,d,e,f,g,h] 5=g.toNat/\at_ [a,b,d,e,f,g,h] 6=h.toNat:=⟨rfl,rfl,rfl,rfl,rfl⟩
theorem UU(hs:fo c v)(h:acA c x):Ey (YX c v x).1:=by obtain⟨D,E,F,m,j⟩:=h.rk;have l:x.column.toNat<c.length:=o_;have m:=m l;obtain⟨-,s,G,u,-⟩:=(hs.2.1 _ l).1;rw[adl hs h l];generalize c[x.column.toNat]=k at*;obtain⟨n,o⟩:∃n,n=4*k.bay+(if x.half=0 then 2 else if x.half=1 then 1 else 3):=⟨_,rfl⟩;obtain⟨t,p⟩:∃t,t=(2*(x.cC+1)+if k.deck=true then 80 else 0)%100:=⟨_,rfl⟩;have H:n%4≠0/\0<=n/\n<1000:=by{unfold In at s;rcases j with j|j|j<;>simp[j]at o<;>omega};have I:0<=t/\t<100/\t%2=0/\(t<=20\/82<=t):=by{unfold In at u;cases w:k.deck<;>simp[w]at p<;>omega};simp only;rw[<-o,<-p];refine⟨rfl,fun i q=>?_,?_⟩;{have key:∀b∈[CF (n/100),CF (n/10),CF n,CF (k.row/10),CF k.row,CF (t/10),CF t],48<=b.toNat/\b.toNat<=57:=by{intro b r;simp only[qam,qaB,qa7]at r;rcases r with rfl|rfl|rfl|rfl|rfl|rfl|rfl<;>exact agH _};have:=key _ (qaf q);unfold at_;rw[List.getD_eq_getElem?_getD,qag q,qbg];omega};obtain⟨y,z,A,B,C⟩:=agu (a:=CF (n/100)) (b:=CF (n/10)) (d:=CF n) (e:=CF (k.row/10)) (f:=CF k.row) (g:=CF (t/10)) (h:=CF t);rw[y,z,A,B,C,Jk,Jk,Jk,Jk,Jk];omega
theorem UW(hs:fo c v)(h:acA c x):mC c v (YX c v x).1=(x,0):=by unfold mC;rw[qai (fun a=>a hs),qai (fun a=>a (UU hs h))];have e:x∈cJ c 20++cJ c 40:=by{rw[qav,pg,pg];exact h};cases hf:(cJ c 20++cJ c 40).find? (fun y=>decide ((YX c v y).1=(YX c v x).1))with|none=>have:=qdD.1 hf x e;simp at this|some y=>have b:=List.find?_some hf;have d:=qbV hf;rw[qav,pg,pg]at d;simp only[qae]at b;rw[KO hs d h b]
noncomputable def e8(c:List aL)(v:List bz)(all:List xm)(g:xE):List xm:=
 if g.1=M1 then all++[(Pn,(mC c v (SW g.2 0)).1)]else match all.getLast? with
  |none=>all
  |some r=>all.dropLast++[ng g r]
noncomputable def fI(c:List aL)(v:List bz):List xm->List xE->List xm
 |all,[]=>all
 |all,g::gs=>fI c v (e8 c v all g) gs
theorem Cw{c:List aL}{v:List bz}{g:xE}:∀{a:List xE} {all:List xm},fI c v all (a++[g])=e8 c v (fI c v all a) g
|[],all=>rfl
|x::a,all=>by simp only[qaN,fI];exact Cw
def Cx(g:xE):Seg:=⟨g.1,g.2⟩
noncomputable def nI(a b:B_)(c:List xE):B_×Int:=
 if ¬adf ⟨a,b,c.map Cx⟩then([],2)else afv (([[P6],[b],[a]]::c.map fun g=>[g.1]::CG g.2)++[[[P7],[digits (c.length+2)],[b]]])
def Jq(c d:B_)(a b:List xE):Prop:=(nI c d a).2=0/\(nI c d b).2=0/\(nI c d a).1=(nI c d b).1
noncomputable def sR(a:List xE):Int:=match a with
 |[]=>0
 |g::_=>lL (SW g.2 0)
def s5(a:List xE):B_:=match a with
 |[]=>[]
 |g::_=>SW g.2 1
noncomputable def xp(c:List aL)(v:List bz)(m:Fc):RY:=
 if m.kind≠abH then .bad 392
 else if abJ c v (sR m.Hd) (s5 m.Hd) (iO (fI c v [] m.Hd.tail)) (lD (fI c v [] m.Hd.tail))/\Jq abH m.ref ((aaT c v (sR m.Hd) (s5 m.Hd) (iO (fI c v [] m.Hd.tail)) (lD (fI c v [] m.Hd.tail)) (iO (fI c v [] m.Hd.tail)).length).map lN) m.Hd
  then⟨m.ref,sR m.Hd,s5 m.Hd,iO (fI c v [] m.Hd.tail),lD (fI c v [] m.Hd.tail),0⟩
 else .bad 393
noncomputable def KT(c:List aL)(v:List bz)(t:B_):RY:=
 if(rX t).2.2≠0 then .bad (rX t).2.2 else match(rX t).1 with
  |[m]=>xp c v m
  |_=>.bad 392
theorem Jr{s:B_}{b:UInt8}:∀{n:Nat},n<=s.length->lE (s++[b]) n=lE s n
|0,_=>rfl
|n+1,h=>by rw[lE,lE,Jr o_,al9 o_]
theorem BM(n:Nat):lE (digits n) (digits n).length=n:=by rw[digits];split;{rename_i h;simp only[qcm,lE];show(0:Int)*10+at_ [UInt8.ofNat (48+n)] 0-48=n;have:at_ [UInt8.ofNat (48+n)] 0=((UInt8.ofNat (48+n)).toNat:Int):=rfl;rw[this,qb3];omega};rename_i h;rw[qal,qcm,lE,Jr (qak _),BM (n/10),akT,qb3];omega
theorem Ez(n:Nat):wi (digits n):=by intro i a;rw[digits]at a ⊢;split at a;{rename_i h;rw[qcu h];simp only[qcm]at a;have:i=0:=o_;subst this;have:at_ [UInt8.ofNat (48+n)] 0=((UInt8.ofNat (48+n)).toNat:Int):=rfl;rw[this,qb3];omega};rename_i h;rw[dif_neg h];rw[qal,qcm]at a;by_cases b:i<(digits (n/10)).length;{rw[al9 b];exact Ez (n/10) i b};have:i=(digits (n/10)).length:=o_;subst this;rw[akT,qb3];omega
theorem nP{n:Int}(b:0<=n)(h:n<10^9):lL (digits n.toNat)=n:=by have hl:=acD (k:=9) (n:=n.toNat) o_ o_;have a:1<=(digits n.toNat).length:=qbm.2 adZ;unfold lL;rw[qao ⟨a,hl,Ez _⟩,BM];omega
theorem PB{b:bw}(f:iL b)(a:b.size=40\/(b.size=20/\b.high=false)):qq (aaU b).1=(b.size,b.high,b.cK):=by obtain⟨i,n,s,h,k,l,d,c,r⟩:=b;simp only at a;rcases a with a|⟨a,e⟩;{subst a;cases h<;>cases r<;>simp[aaU,qq,at_]};subst a;subst e;cases r<;>simp[aaU,qq,at_]
theorem B9:ajA≠aii/\aij≠aii/\aij≠ajA/\akM≠aii/\akM≠ajA/\akM≠aij:=d_
def tVOY:B_:=[86,79,89]
theorem wj{all:List xm}{r:xm}(b:a≠M1):e8 c v (all++[r]) (a,d)=all++[ng (a,d) r]:=by unfold e8;rw[qai b,qbb,qab];simp
theorem UX{b:bw}{x:aH}{all:List xm}{a:List xE}(hs:fo c v)(d:iL b)(f:b.size=40\/(b.size=20/\b.high=false))(g:acA c x.slot)(s:0<=b.cls):fI c v all ((abD c v b x).map lN++a)=fI c v (all++[(b,x.slot)]) a:=by obtain⟨⟨t,u⟩,w,-,⟨y,z⟩,⟨A,B,C⟩,D⟩:=id d;have E:most b.size<=40000:=by{unfold most;split<;>(try split)<;>omega};have h:=PB d f;have i:e8 c v all (M1,Mn [(YX c v x.slot).1])=all++[(Pn,x.slot)]:=by{unfold e8;rw[qao rfl];rw[show SW (M1,Mn [(YX c v x.slot).1]).2 0=(YX c v x.slot).1 from rfl,UW hs g]};have j:e8 c v (all++[(Pn,x.slot)]) (aii,Mn [digits b.id.toNat,b.number,(aaU b).1])=all++[(⟨b.id,b.number,b.size,b.high,0,0,0,0,b.cK⟩,x.slot)]:=by{rw[wj d_];unfold ng;rw[qao rfl];simp only;rw[show SW (Mn [digits b.id.toNat,b.number,(aaU b).1]) 0=digits b.id.toNat from rfl,show SW (Mn [digits b.id.toNat,b.number,(aaU b).1]) 1=b.number from rfl,show SW (Mn [digits b.id.toNat,b.number,(aaU b).1]) 2=(aaU b).1 from rfl,h,nP o_ o_];rfl};have k:e8 c v (all++[(⟨b.id,b.number,b.size,b.high,0,0,0,0,b.cK⟩,x.slot)]) (ajA,Mn [digits b.cD.toNat])=all++[(⟨b.id,b.number,b.size,b.high,b.cD,0,0,0,b.cK⟩,x.slot)]:=by{rw[wj d_];unfold ng;rw[qai B9.1,qao rfl];simp only;rw[show SW (Mn [digits b.cD.toNat]) 0=digits b.cD.toNat from rfl,nP o_ o_]};have l:e8 c v (all++[(⟨b.id,b.number,b.size,b.high,b.cD,0,0,0,b.cK⟩,x.slot)]) (aij,Mn [digits b.load.toNat,digits b.discharge.toNat])=all++[(⟨b.id,b.number,b.size,b.high,b.cD,b.load,b.discharge,0,b.cK⟩,x.slot)]:=by{rw[wj d_];unfold ng;rw[qai B9.2.1,qai B9.2.2.1,qao rfl];simp only;rw[show SW (Mn [digits b.load.toNat,digits b.discharge.toNat]) 0=digits b.load.toNat from rfl,show SW (Mn [digits b.load.toNat,digits b.discharge.toNat]) 1=digits b.discharge.toNat from rfl,nP o_ o_,nP o_ o_]};have m:(abD c v b x).map lN=(M1,Mn [(YX c v x.slot).1])::(aii,Mn [digits b.id.toNat,b.number,(aaU b).1])::(ajA,Mn [digits b.cD.toNat])::(aij,Mn [digits b.load.toNat,digits b.discharge.toNat])::(if 0<b.cls then [(akM,Mn [digits b.cls.toNat])]else []):=by{unfold abD;split<;>rfl};rw[m];simp only[qaN,fI];rw[i,j,k,l];by_cases e:0<b.cls;{rw[qao e];simp only[qaN,qbi,fI];have n:digits b.cls.toNat=[UInt8.ofNat (48+b.cls.toNat)]:=by{rw[digits,qcu o_]};have o:e8 c v (all++[(⟨b.id,b.number,b.size,b.high,b.cD,b.load,b.discharge,0,b.cK⟩,x.slot)]) (akM,Mn [digits b.cls.toNat])=all++[(b,x.slot)]:=by{rw[wj d_];unfold ng;have p:SW (Mn [digits b.cls.toNat]) 0=[UInt8.ofNat (48+b.cls.toNat)]:=n;rw[qai B9.2.2.2.1,qai B9.2.2.2.2.1,qai B9.2.2.2.2.2];dsimp only;rw[p,qao ⟨rfl,rfl⟩];have q:at_ [UInt8.ofNat (48+b.cls.toNat)] 0=((UInt8.ofNat (48+b.cls.toNat)).toNat:Int):=rfl;have:(at_ [UInt8.ofNat (48+b.cls.toNat)] 0+208)%256=b.cls:=by{rw[q,qb3];omega};rw[this]};rw[o]};rw[qai e];have:b.cls=0:=o_;obtain⟨F,G,r,H,I,J,K,L,M⟩:=b;simp only at this;subst this;rfl
theorem Jx{c:List aL}{v:List bz}(hs:fo c v):∀{q:List (bw×aH)} {all:List xm},agp c q->(∀x∈q,x.1.size=40\/(x.1.size=20/\x.1.high=false))->fI c v all ((abI c v q).map lN)=all++q.map fun x=>(x.1,x.2.slot)
|[],all,_,_=>by simp[abI,fI]
|x::q,all,h,b=>by obtain⟨h1,h2,f,d⟩:=h x s_;have e:(abI c v (x::q)).map lN=(abD c v x.1 x.2).map lN++(abI c v q).map lN:=by{simp[abI]};rw[e,UX hs h1 (b x s_) h2 d,Jx hs (fun y a=>h y (by simp[a])) (fun y a=>b y (by simp[a]))];simp
def iI(all:List xm):List (bw×aH):=all.map fun r=>(r.1,⟨r.1.id,r.2⟩)
theorem Zr(all:List xm):(iO all).zip (lD all)=iI all:=by unfold iO lD iI;induction all with|nil=>rfl|cons a r b=>simp[b]
theorem EA(all:List xm):(iI all).map (fun x=>(x.1,x.2.slot))=all:=by unfold iI;rw[qcA];exact(qcv fun x _=>rfl).trans (List.map_id all)
noncomputable def jj(c:List aL)(v:List bz)(call:Int)(a:B_)(all:List xm):List xE:=(aaT c v call a (iO all) (lD all) (iO all).length).map lN
structure E1(c:List aL)(v:List bz)(call:Int)(port:B_)(all:List xm):Prop where
 eq:jj c v call port all=(tVOY,Mn [digits call.toNat,port])::(abI c v (iI all)).map lN
 pr:agp c (iI all)
 Hh:acL (iO all)
 raw:∀x∈pieces c v call port (iI all),akh x
 same:jj c v call port all=(pieces c v call port (iI all)).map lN
theorem Ca{all:List xm}(h:abJ c v call a (iO all) (lD all))(i:∀r∈all,0<=r.1.cls):E1 c v call a all:=by obtain⟨j,k,l,m,d,p⟩:=id h;have f:acL (iO all):=afU m (fun b n=>by obtain⟨r,o,rfl⟩:=qaw.1 n;exact i r o);have g:agp c (iI all):=by{rw[<-Zr];refine ad1 f d ?_;unfold lD iO;rw[qcA,qcA];rfl};have e:aaT c v call a (iO all) (lD all) (iO all).length=pieces c v call a (iI all):=by{rw[ae0 l (qak _),Zr];unfold pieces;rw[qbI];unfold iI iO;rw[qap,qap];exact qak _};refine⟨?_,g,f,afP d.1 j k g,?_⟩;{unfold jj;rw[e];rfl};unfold jj;rw[e]
theorem E1.loose{all:List xm}(h:E1 c v call a all)(hs:fo c v)(e:0<=call/\call<20)(d:b=jj c v call a all):sR b=call/\s5 b=a/\fI c v [] b.tail=all:=by rw[h.eq]at d;subst d;refine⟨?_,rfl,?_⟩;{show lL (SW (Mn [digits call.toNat,a]) 0)=call;exact nP e.1 o_};show fI c v [] ((abI c v (iI all)).map lN)=all;rw[Jx hs h.pr,EA];{rfl};intro x f;have:x.1∈iO all:=by{rw[show iO all=(iI all).map (·.1) by unfold iO iI;rw[qcA];rfl];exact qbP f};exact(h.Hh.1 _ this).2.2
theorem E1.strict{b:B_}{all:List xm}(h:E1 c v call a all)(f:abJ c v call a (iO all) (lD all))(g:m.kind=abH)(i:m.ref=b)(d:m.Hd=jj c v call a all):s6 c v m=⟨b,call,a,iO all,lD all,0⟩:=by obtain⟨j,o,p,q,l,t⟩:=id f;obtain⟨k,r,s⟩:=m;simp only at g i d;subst g i;have e:=d;rw[h.eq]at d;subst d;unfold s6;rw[qai s_];simp only;rw[show cmp (Mn [digits call.toNat,a]) 0=digits call.toNat from rfl,xn j.1 o_];rw[qai s_,G6 (qak _),qbh,acf l.1 h.pr,qbi,EA];simp only;unfold Sk;rw[qao];{rfl};refine⟨f,?_⟩;show Hx (jj c v call a all) _;rw[e,h.same];exact aiz (fun x n=>(h.raw x n).2)
theorem PL(e:List B_):Jf (Jf e)=Jf e:=by cases e with|nil=>rfl|cons c r=>show c::VV _ (VV _ r)=c::VV _ r;congr 1;obtain⟨m,g,a,h,b⟩:=abN (fun x:B_=>x.isEmpty) r;rw[a];by_cases d:0<m;{obtain⟨hl,f⟩:=b d;rw[show r.take m=r.take (m-1)++[r[m-1]] by rw[<-qan hl];congr 1;omega];rw[P4,f]};have:m=0:=o_;subst this;rfl
def kX(d:List (List B_)):Prop:=(∀e∈d,Jf e=e)/\∀l x,d=l++[x]->x≠[[]]
theorem Jy(h:kX d):CG d=d:=by have b:d.map Jf=d:=(qcv fun e c=>h.1 e c).trans (List.map_id d);show VV (fun e=>e==[[]]) (d.map Jf)=d;rw[b];rcases qda d with rfl|⟨l,x,a⟩;{rfl};rw[qbs]at a;have:=h.2 l x a;subst a;rw[P4];have:(x==[[]])=false:=by{simpa using this};rw[this]
theorem Cz(d:List (List B_)):kX (CG d):=by obtain⟨m,n,c,o,f⟩:=P5 d;rw[c];refine⟨fun e h=>?_,fun l x b=>?_⟩;{obtain⟨i,-,rfl⟩:=qaw.1 (qbf h);exact PL i};have hl:=congrArg List.length b;rw[qaT,qap,qal,qcm]at hl;have j:0<m:=o_;obtain⟨g,k⟩:=f j;have a:((d.map Jf).take m)[l.length]? =some x:=by{rw[b];simp};rw[List.getElem?_take_of_lt o_,show l.length=m-1 by omega,List.getElem?_map,qag g]at a;simp only[qaM,qaa]at a;rw[<-a];exact k
theorem MT(h:kX d)(n:Nat):kX (d.drop n):=by refine⟨fun e a=>h.1 e (List.mem_of_mem_drop a),fun l x b=>?_⟩;refine h.2 (d.take n++l) x ?_;rw[qaR,<-b,qbR]
theorem UY{s c:PJ}(e:kX d)(hs:(∀g∈s.cur.Hd,kX g.2)/\∀m∈s.out,∀g∈m.Hd,kX g.2)(h:lK s d=.ok c):(∀g∈c.cur.Hd,kX g.2)/\∀m∈c.out,∀g∈m.Hd,kX g.2:=by unfold lK at h;split at h;{unfold aaF at h;split at h;{cases h};split at h;{cases h};cases h;exact⟨fun _ a=>(nomatch a),hs.2⟩};split at h;{unfold Dy at h;split at h;{cases h};split at h;{cases h};cases h;refine⟨hs.1,fun m b=>?_⟩;rcases qav.1 b with b|b;{exact hs.2 m b};rw[qaO]at b;subst b;exact hs.1};unfold rW at h;split at h;{cases h};split at h;{cases h};cases h;refine⟨fun g a=>?_,hs.2⟩;rcases qav.1 a with a|a;{exact hs.1 g a};rw[qaO]at a;subst a;exact MT e 1
theorem CE{L:List (List (List B_))}:∀{n:Nat} {s:PJ},kU L n=.ok s->(∀g∈s.cur.Hd,kX g.2)/\∀m∈s.out,∀g∈m.Hd,kX g.2
|0,s,h=>by cases h;exact⟨fun g a=>(by cases a),fun m b=>(by cases b)⟩
|n+1,s,h=>by rw[kU]at h;split at h;{rename_i d c;split at h;{rename_i e h1;cases h;exact UY (Cz _) (CE c) h1};cases h};cases h
def zT(a:List xE):Nat:=(a.map fun g=>g.1.length+1+wD g.2).sum
theorem Fb:∀(l:List Nat) (n:Nat),(l.take n).sum<=l.sum
|[],n=>s_
|a::r,0=>s_
|a::r,n+1=>by have:=Fb r n;simp only[qbl,qbF];omega
theorem PQ{a:Nat}:∀{l:List Nat},a∈l->a<=l.sum
|[],h=>by cases h
|b::r,h=>by rcases qam.1 h with rfl|h;{simp};have:=PQ h;simp only[qbF];omega
theorem UZ(e:List B_)(a:e≠[]):Hq (Jf e)<=Hq e:=by obtain⟨m,-,-,h,-⟩:=KH a;rw[h];unfold Hq;rw[qdj];exact Fb _ _
theorem U0(d:List (List B_))(a:∀e∈d,e≠[]):wD (CG d)<=wD d:=by obtain⟨m,-,h,-⟩:=P5 d;rw[h];unfold wD;rw[qdj,qcA];refine qbr (Fb _ _) ?_;clear h;induction d with|nil=>exact qak _|cons e r b=>have f:=UZ e (a e s_);have g:=b (fun x c=>a x (by simp[c]));simp only[qaj,qbF,Function.comp_apply];omega
theorem Zs(a b:List (List (List B_))):zQ (a++b)=zQ a+zQ b:=by simp[zQ]
theorem Zt(a b:List xE):zT (a++b)=zT a+zT b:=by simp[zT]
def PJ.sum(s:PJ):Nat:=(s.out.map fun m=>zT m.Hd).sum+if s.opn then zT s.cur.Hd else 0
theorem Zu{s f:PJ}(h:lK s d=.ok f):f.sum<=s.sum+wD d:=by unfold lK at h;split at h;{unfold aaF at h;split at h;{cases h};split at h;{cases h};cases h;simp[PJ.sum,zT];omega};split at h;{unfold Dy at h;split at h;{cases h};split at h;{cases h};rename_i c _;cases h;have:s.opn=true:=by{simpa using c};simp[PJ.sum,this]};unfold rW at h;split at h;{cases h};split at h;{cases h};rename_i c i;cases h;have j:s.opn=true:=by{simpa using c};have k:gB d:=qaC fun l=>i (Or.inl l);have m:(cmp d 0).length+1+wD (d.drop 1)=wD d:=by{obtain⟨n,g⟩:=k;cases d with|nil=>exact absurd rfl n|cons e r=>cases e with|nil=>simp at g|cons a q=>cases q with|nil=>simp[cmp,wD,Hq]|cons b q=>simp at g};have o:zT [(cmp d 0,d.drop 1)]=wD d:=by{rw[<-m];simp only[zT,qaj,qaF,qbF,List.sum_nil];omega};simp only[PJ.sum,j,qax,Zt,o];omega
theorem Fh{L:List (List (List B_))}(a:∀x∈L,abO x):∀{n:Nat} {s:PJ},n<=L.length->kU L n=.ok s->s.sum<=zQ (L.take n)
|0,s,_,h=>by cases h;simp[PJ.sum,aji]
|n+1,s,g,h=>by rw[kU]at h;split at h;{rename_i i d;split at h;{rename_i j h1;cases h;have h2:=Zu h1;have k:=Fh a o_ d;have b:L.getD n []=L[n]:=by{simp[List.getD_eq_getElem?_getD,show n<L.length by omega]};have f:=U0 (L.getD n []) (fun e c=>by rw[b]at c;exact((a _ (qaf (show n<L.length by omega))).2.2 e c).1);rw[qan o_,Zs];rw[b]at h2 f;have:zQ [L[n]]=wD L[n]:=by{simp[zQ]};omega};cases h};cases h
structure Told(t:B_)(m:Fc):Prop where
 trim:∀g∈m.Hd,kX g.2
 sum:zT m.Hd<=t.length
 ref:acU m.ref
theorem xq{l:List Fc}{p e:Int}(h:rX t=(l,p,e)):∀m∈l,Told t m:=by have b:=afQ h;unfold rX at h;obtain⟨⟨L,d,f⟩,a⟩:∃y,wa t=y:=⟨_,rfl⟩;rw[a]at h;have nil:∀{d f:Int},(([],d,f):List Fc×Int×Int)=(l,p,e)->∀m∈l,Told t m:=fun h=>by{cases h;exact(fun x a=>by cases a)};obtain⟨k,j⟩:=OU a;have g:=PA a;simp only[]at h;split at h;{exact nil h};split at h;{exact nil h};rename_i s hs;split at h;{exact nil h};have:=congrArg Prod.fst h;simp only[]at this;subst this;intro m c;have i:=Fh j (qak _) hs;rw[qbh]at i;refine⟨(CE hs).2 m c,?_,(b m c).1⟩;have n:zT m.Hd<=(s.out.map fun m=>zT m.Hd).sum:=PQ (qbP c);unfold PJ.sum at i;omega
theorem Zv{gs:List xE}(h:∀g∈gs,g.1.length=3):4*gs.length<=zT gs:=by induction gs with|nil=>simp|cons g r a=>have d:=h g s_;have b:=a (fun x c=>h x (by simp[c]));simp only[zT,qaj,qbF,qaq]at b ⊢;omega
theorem alP{b:List Raw}(d:acU a)(h:∀x∈b,akh x)(f:b.length<=990):(nI abH a (b.map lN)).2=0:=by have j:=d.ao4;have m:=Jl j d.2.1 (fun x k=>(h x k).1) f;unfold nI;have l:adf ⟨abH,a,(b.map lN).map Cx⟩:=by{refine⟨afF,d,fun i c=>?_⟩;simp only[qcA,qap]at c;have e:(⟨abH,a,(b.map lN).map Cx⟩:Message).Hd[i]'(by simpa using c)=Cx (lN b[i]):=s_;rw[e];refine⟨(h _ (qaf c)).1.1,?_⟩;have:=m (aeu b[i]) (by unfold s4;refine qcU _ (qaE _ (qbP (qaf c))));exact this.lex};rw[qai (fun f=>f l)];have e:([[P6],[a],[abH]]::(b.map lN).map fun g=>[g.1]::CG g.2)++[[[P7],[digits ((b.map lN).length+2)],[a]]]=(s4 abH a b).map Mn:=by{unfold s4;rw[qaX,qaj,qap,qcA];have:(b.map ((fun g:xE=>[g.1]::CG g.2)∘lN))=(b.map aeu).map Mn:=by{rw[qcA];refine qcv fun x k=>?_;show [x.1]::CG (Mn x.2)=Mn (x.1::x.2);rw[Et (h x k).2];rfl};rw[this];rfl};rw[e,ag5 m (by rw[Ei];omega)]
theorem agv{ref:B_}{a:List xE}(i:∀g∈a,kX g.2)(j:∀g∈b,kX g.2)(h:Jq abH ref a b):a=b:=by
 obtain⟨k,l,m⟩:=h;have key:∀x:List xE,(∀g∈x,kX g.2)->(nI abH ref x).2=0->wa (nI abH ref x).1=(([[P6],[ref],[abH]]::x.map fun g=>[g.1]::g.2)++[[[P7],[digits (x.length+2)],[ref]]],0,0):=by{intro x n c;have o:(x.map fun g=>[g.1]::CG g.2)=x.map fun g=>[g.1]::g.2:=qcv fun g p=>by{rw[Jy (n g p)]};unfold nI at c ⊢;split at c;{simp at c};rename_i q;rw[qai q];rw[o]at c ⊢;refine UT ?_;rw[<-c]};have f:=key a i k;have s:=key b j l;rw[m,s]at f;have e:=congrArg Prod.fst f;simp only[qaN,qbn,true_and]at e;have e:=(List.append_inj' e rfl).1
 have d:∀x y:List xE,(x.map fun g=>[g.1]::g.2)=(y.map fun g=>[g.1]::g.2)->x=y:=by
  intro x
  induction x with
  |nil=>intro y h;cases y with
   |nil=>rfl
   |cons g r=>simp at h
  |cons g r t=>intro y h;cases y with|nil=>simp at h|cons u r'=>simp only[qaj,qbn]at h;obtain⟨⟨⟨v,-⟩,w⟩,z⟩:=h;rw[t r' z,show g=u from Prod.ext v w]
 exact(d _ _ e).symm
theorem MU{a:List Raw}(h:∀x∈a,akh x):∀g∈a.map lN,kX g.2:=by intro g b;obtain⟨x,c,rfl⟩:=qaw.1 b;have:=Cz (lN x).2;rw[show(lN x).2=Mn x.2 from rfl,Et (h x c).2]at this;exact this
theorem Zw{a:List Raw}(h:∀x∈a,akh x)(hs:Hx (a.map lN) b):b=a.map lN:=by obtain⟨d,e⟩:=hs;refine(qcq d fun i c f=>?_).symm;obtain⟨g,j⟩:=e i c f;have k:=Jy (MU h _ (qaf c));exact Prod.ext g (k.symm.trans j)
theorem JL{c:List aL}{v:List bz}:∀{d:List xE} {all:List xm},(∀r∈all,0<=r.1.cls)->∀r∈fI c v all d,0<=r.1.cls
|[],all,h=>h
|g::d,all,h=>by rw[fI];refine JL ?_;unfold e8;intro r a;split at a;{rcases qav.1 a with a|a;{exact h r a};rw[qaO]at a;subst a;exact qdG 0};split at a;{exact h r a};rename_i q e;have b:=h q (qbO e);rcases qav.1 a with a|a;{exact h r (qbf (List.dropLast_eq_take ..▸a))};rw[qaO]at a;subst a;unfold ng;split;{exact b};split;{exact b};split;{exact b};split;{show 0<=_%256;omega};exact b
theorem U1(hl:c.length<2^32)(E:t.length<=3900)(o:Told t m):xp c v m=s6 c v m:=by by_cases f:m.kind=abH;{by_cases i:abJ c v (sR m.Hd) (s5 m.Hd) (iO (fI c v [] m.Hd.tail)) (lD (fI c v [] m.Hd.tail))/\Jq abH m.ref (jj c v (sR m.Hd) (s5 m.Hd) (fI c v [] m.Hd.tail)) m.Hd;{have b:=Ca i.1 (JL (fun r d=>by cases d));have a:=agv (ref:=m.ref) (by rw[b.same];exact MU b.raw) o.trim i.2;rw[b.strict i.1 f rfl a.symm];unfold xp;rw[qai (fun h=>h f)];exact qao i};have:xp c v m=.bad 393:=by{unfold xp;rw[qai (fun h=>h f)];exact qai i};rw[this];by_cases a:(s6 c v m).err=0;{exfalso;apply i;unfold s6 at a;have F:¬(392:Int)=0:=d_;have l:¬(393:Int)=0:=d_;rw[qai (fun h=>h f)]at a;cases hs:m.Hd with|nil=>rw[hs]at a;exact absurd a l|cons g gs=>rw[hs]at a;simp only[]at a;by_cases n:(lC (cmp g.2 0)).2=false;{rw[qao n]at a;exact absurd a l};rw[qai n]at a;cases d:nK c v gs gs.length with|none=>rw[d]at a;exact absurd a l|some all=>rw[d]at a;simp only[]at a;unfold Sk at a;by_cases j:abJ c v (lC (cmp g.2 0)).1 (cmp g.2 1) (iO all) (lD all)/\Hx ((aaT c v (lC (cmp g.2 0)).1 (cmp g.2 1) (iO all) (lD all) (iO all).length).map lN) (g::gs);{obtain⟨p,-⟩:=ae1 hl d;have b:=Ca j.1 (fun r d=>(p r d).1.2.1.1);have e:Hx (jj c v (lC (cmp g.2 0)).1 (cmp g.2 1) all) (g::gs):=j.2;rw[b.same]at e;have e:=Zw b.raw e;rw[<-b.same]at e;obtain⟨q,s,u⟩:=b.loose j.1.2.2.2.2.1.1 j.1.1 e;rw[q,s,u];refine⟨j.1,?_⟩;rw[e];have k:(nI abH m.ref (jj c v (lC (cmp g.2 0)).1 (cmp g.2 1) all)).2=0:=by{rw[b.same];refine alP o.ref b.raw ?_;have w:=Zv (gs:=m.Hd) (by rw[hs,e,b.same];intro y z;obtain⟨x,A,rfl⟩:=qaw.1 z;exact(b.raw x A).1.1.1);have B:=o.sum;rw[hs,e,b.same,qap]at w;rw[hs,e,b.same]at B;omega};exact⟨k,k,rfl⟩};rw[qai j]at a;exact absurd a l};have C:=afV a;rw[C];have:(s6 c v m).err=393:=by{unfold s6 at a ⊢;rw[qai (fun h=>h f)]at a ⊢;cases hs:m.Hd with|nil=>rfl|cons g gs=>rw[hs]at a;simp only[]at a ⊢;split;{rfl};rename_i n;rw[qai n]at a;cases d:nK c v gs gs.length with|none=>rfl|some all=>rw[d]at a;simp only[]at a ⊢;unfold Sk at a ⊢;split;{rename_i D;rw[qao D]at a;exact absurd rfl a};rfl};rw[this]};unfold xp s6;rw[qao f,qao f]
theorem U2(hl:c.length<2^32)(b:t.length<=3900):KT c v t=j6 c v t:=by obtain⟨⟨l,p,e⟩,a⟩:∃y,rX t=y:=⟨_,rfl⟩;have h:=xq a;unfold KT j6;rw[a];simp only;split;{rfl};unfold M7;rcases l with _|⟨m,_|⟨d,r⟩⟩;{rfl};{exact U1 hl b (h _ s_)};rfl
end Go.aA
