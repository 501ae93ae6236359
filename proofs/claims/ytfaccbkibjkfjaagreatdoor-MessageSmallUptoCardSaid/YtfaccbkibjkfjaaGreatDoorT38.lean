import Derived.Test.YtfaccbkibjkfjaaGreatDoorT36
import Derived.Test.YtfaccbkibjkfjaaGreatDoorT37
set_option linter.all false
set_option maxRecDepth 100000
set_option maxHeartbeats 1000000
namespace Go.aA
open Go Go.Am Go.Proofs
open Classical
variable {a:B_} {b:List xE} {c:List aL} {call:Int} {d:List (List B_)} {m:Fc} {t:B_} {v:List bz} {x:Slot} {mx:Int}
noncomputable def nT(g:xE)(r:xm):xm:=
 if g.1=aii then(⟨nx (SW g.2 0),SW g.2 1,(pQ (SW g.2 2)).1,(pQ (SW g.2 2)).2.1,r.1.cD,r.1.load,r.1.discharge,r.1.cls,(pQ (SW g.2 2)).2.2⟩,r.2)
 else if g.1=ajA then(⟨r.1.id,r.1.number,r.1.size,r.1.high,nx (SW g.2 0),r.1.load,r.1.discharge,r.1.cls,r.1.cK⟩,r.2)
 else if g.1=aij then(⟨r.1.id,r.1.number,r.1.size,r.1.high,r.1.cD,nx (SW g.2 0),nx (SW g.2 1),r.1.cls,r.1.cK⟩,r.2)
 else if g.1=akM/\(SW g.2 0).length=1 then(⟨r.1.id,r.1.number,r.1.size,r.1.high,r.1.cD,r.1.load,r.1.discharge,(at_ (SW g.2 0) 0+208)%256,r.1.cK⟩,r.2)
 else r
theorem ai0{a b d e f g h:UInt8}:at_ [a,b,d,e,f,g,h] 0=a.toNat/\at_ [a,b,d,e,f,g,h] 1=b.toNat/\at_ [a,b,d,e,f,g,h] 2=d.toNat/\at_ [a,b,d,e,f,g,h] 5=g.toNat/\at_ [a,b,d,e,f,g,h] 6=h.toNat:=⟨rfl,rfl,rfl,rfl,rfl⟩
theorem WY(hs:fo c v)(h:acA c x):Fb (YX c v x).1:=by obtain⟨m,o,p,l,q⟩:=h.rk;have j:x.column.toNat<c.length:=o_;have l:=l j;obtain⟨-,r,s,u,-⟩:=(hs.2.1 _ j).1;rw[adl hs h j];generalize c[x.column.toNat]=k at*;obtain⟨n,w⟩:∃n,n=4*k.bay+(if x.half=0 then 2 else if x.half=1 then 1 else 3):=⟨_,rfl⟩;obtain⟨t,y⟩:∃t,t=(2*(x.ct+1)+if k.deck=true then 80 else 0)%100:=⟨_,rfl⟩;have z:0<=t/\t<100/\t%2=0/\(t<=20\/82<=t):=by{grind[In]};refine⟨rfl,fun i A=>?_,?_⟩;{have key:∀b∈[CF (n/100),CF (n/10),CF n,CF (k.row/10),CF k.row,CF (t/10),CF t],48<=b.toNat/\b.toNat<=57:=by{grind[agH]};grind[at_]};obtain⟨B,C,D,E,F⟩:=ai0 (a:=CF (n/100)) (b:=CF (n/10)) (d:=CF n) (e:=CF (k.row/10)) (f:=CF k.row) (g:=CF (t/10)) (h:=CF t);grind[Jk]
theorem W2(hs:fo c v)(h:acA c x):nI c v (YX c v x).1=(x,0):=by unfold nI;rw[qai (fun a=>a hs),qai (fun a=>a (WY hs h))];have e:x∈cB c 20++cB c 40:=by{rw[qav,pg,pg];exact h};cases hf:(cB c 20++cB c 40).find? (fun y=>decide ((YX c v y).1=(YX c v x).1))with|none=>grind|some y=>have b:=List.find?_some hf;have d:=qbV hf;rw[qav,pg,pg]at d;simp at b;rw[K0 hs d h b]
noncomputable def cZ(c:List aL)(v:List bz)(all:List xm)(g:xE):List xm:=
 if g.1=M1 then all++[(Pn,(nI c v (SW g.2 0)).1)]else match all.getLast? with
  |none=>all
  |some r=>all.dropLast++[nT g r]
noncomputable def fI(c:List aL)(v:List bz):List xm->List xE->List xm
 |all,[]=>all
 |all,g::gs=>fI c v (cZ c v all g) gs
theorem Dq{c:List aL}{v:List bz}{g:xE}:∀{a:List xE} {all:List xm},fI c v all (a++[g])=cZ c v (fI c v all a) g
|[],all=>rfl
|x::a,all=>by simp[fI];exact Dq
def DB(g:xE):Seg:=⟨g.1,g.2⟩
noncomputable def nU(a b:B_)(c:List xE):B_×Int:=
 if ¬adf ⟨a,b,c.map DB⟩then([],2)else afv (([[P6],[b],[a]]::c.map fun g=>[g.1]::CG g.2)++[[[P7],[digits (c.length+2)],[b]]])
def Jq(c d:B_)(a b:List xE):Prop:=(nU c d a).2=0/\(nU c d b).2=0/\(nU c d a).1=(nU c d b).1
noncomputable def s8(a:List xE):Int:=match a with
 |[]=>0
 |g::_=>nx (SW g.2 0)
def td(a:List xE):B_:=match a with
 |[]=>[]
 |g::_=>SW g.2 1
noncomputable def w8(c:List aL)(v:List bz)(m:Fc):RY:=
 if m.kind≠abH then .bad 392
 else if abJ c v (s8 m.Hd) (td m.Hd) (iO (fI c v [] m.Hd.tail)) (lD (fI c v [] m.Hd.tail))/\Jq abH m.ref ((aaT c v (s8 m.Hd) (td m.Hd) (iO (fI c v [] m.Hd.tail)) (lD (fI c v [] m.Hd.tail)) (iO (fI c v [] m.Hd.tail)).length).map lN) m.Hd
  then⟨m.ref,s8 m.Hd,td m.Hd,iO (fI c v [] m.Hd.tail),lD (fI c v [] m.Hd.tail),0⟩
 else .bad 393
noncomputable def Mb(c:List aL)(v:List bz)(t:B_):RY:=
 if(rX t).2.2≠0 then .bad (rX t).2.2 else match(rX t).1 with
  |[m]=>w8 c v m
  |_=>.bad 392
theorem Jr{s:B_}{b:UInt8}:∀{n:Nat},n<=s.length->lI (s++[b]) n=lI s n
|0,_=>rfl
|n+1,h=>by rw[lI,lI,Jr o_,al9 o_]
theorem Bs(n:Nat):lI (digits n) (digits n).length=n:=by rw[digits];split;{simp only[qcm,lI];grind[at_,UInt8.toNat_ofNat']};rw[qal,qcm,lI,Jr (qak _),Bs (n/10),akT,qb3];omega
theorem Fh(n:Nat):wg (digits n):=by intro i a;rw[digits]at a ⊢;split at a;{grind[at_,UInt8.toNat_ofNat']};rename_i h;rw[dif_neg h];by_cases b:i<(digits (n/10)).length;{rw[al9 b];exact Fh (n/10) i b};grind[akT,UInt8.toNat_ofNat']
theorem n0{n:Int}(a:0<=n)(h:n<10^9):nx (digits n.toNat)=n:=by grind[acD,List.length_pos_iff,adZ,nx,Fh,Bs]
theorem SD{b:bw}(f:iL b)(a:b.size=40\/(b.size=20/\b.high=false)):pQ (aaU b).1=(b.size,b.high,b.cK):=by obtain⟨i,n,s,h,k,l,d,c,r⟩:=b;rcases a with a|⟨a,e⟩;{subst a;cases h<;>cases r<;>simp[aaU,pQ,at_]};subst a;subst e;cases r<;>simp[aaU,pQ,at_]
theorem Cl:ajA≠aii/\aij≠aii/\aij≠ajA/\akM≠aii/\akM≠ajA/\akM≠aij:=d_
def tVOY:B_:=[86,79,89]
theorem wh{all:List xm}{r:xm}(b:a≠M1):cZ c v (all++[r]) (a,d)=all++[nT (a,d) r]:=by grind[cZ]
theorem W3{b:bw}{x:aH}{all:List xm}{a:List xE}(hs:fo c v)(d:iL b)(e:b.size=40\/(b.size=20/\b.high=false))(f:acA c x.slot)(r:0<=b.cls):fI c v all ((abD c v b x).map lN++a)=fI c v (all++[(b,x.slot)]) a:=by obtain⟨⟨s,t⟩,u,-,⟨w,y⟩,⟨z,A,B⟩,C⟩:=id d;have D:most b.size<=40000:=by{grind[most]};have g:=SD d e;have h:cZ c v all (M1,Mn [(YX c v x.slot).1])=all++[(Pn,x.slot)]:=by{unfold cZ;rw[qao rfl];rw[show SW (M1,Mn [(YX c v x.slot).1]).2 0=(YX c v x.slot).1 from rfl,W2 hs f]};have i:cZ c v (all++[(Pn,x.slot)]) (aii,Mn [digits b.id.toNat,b.number,(aaU b).1])=all++[(⟨b.id,b.number,b.size,b.high,0,0,0,0,b.cK⟩,x.slot)]:=by{rw[wh d_];unfold nT;rw[show SW (Mn [digits b.id.toNat,b.number,(aaU b).1]) 0=digits b.id.toNat from rfl,show SW (Mn [digits b.id.toNat,b.number,(aaU b).1]) 1=b.number from rfl,show SW (Mn [digits b.id.toNat,b.number,(aaU b).1]) 2=(aaU b).1 from rfl,g,n0 o_ o_];rfl};have j:cZ c v (all++[(⟨b.id,b.number,b.size,b.high,0,0,0,0,b.cK⟩,x.slot)]) (ajA,Mn [digits b.cD.toNat])=all++[(⟨b.id,b.number,b.size,b.high,b.cD,0,0,0,b.cK⟩,x.slot)]:=by{rw[wh d_];unfold nT;rw[qai Cl.1,qao rfl];rw[show SW (Mn [digits b.cD.toNat]) 0=digits b.cD.toNat from rfl,n0 o_ o_]};have k:cZ c v (all++[(⟨b.id,b.number,b.size,b.high,b.cD,0,0,0,b.cK⟩,x.slot)]) (aij,Mn [digits b.load.toNat,digits b.discharge.toNat])=all++[(⟨b.id,b.number,b.size,b.high,b.cD,b.load,b.discharge,0,b.cK⟩,x.slot)]:=by{rw[wh d_];unfold nT;rw[qai Cl.2.1,qai Cl.2.2.1,qao rfl];rw[show SW (Mn [digits b.load.toNat,digits b.discharge.toNat]) 0=digits b.load.toNat from rfl,show SW (Mn [digits b.load.toNat,digits b.discharge.toNat]) 1=digits b.discharge.toNat from rfl,n0 o_ o_,n0 o_ o_]};have l:(abD c v b x).map lN=(M1,Mn [(YX c v x.slot).1])::(aii,Mn [digits b.id.toNat,b.number,(aaU b).1])::(ajA,Mn [digits b.cD.toNat])::(aij,Mn [digits b.load.toNat,digits b.discharge.toNat])::(if 0<b.cls then [(akM,Mn [digits b.cls.toNat])]else []):=by{unfold abD;split<;>rfl};rw[l];simp[fI];rw[h,i,j,k];by_cases m:0<b.cls;{rw[qao m];simp[fI];have n:digits b.cls.toNat=[UInt8.ofNat (48+b.cls.toNat)]:=by{grind[digits]};have o:cZ c v (all++[(⟨b.id,b.number,b.size,b.high,b.cD,b.load,b.discharge,0,b.cK⟩,x.slot)]) (akM,Mn [digits b.cls.toNat])=all++[(b,x.slot)]:=by{rw[wh d_];unfold nT;have p:SW (Mn [digits b.cls.toNat]) 0=[UInt8.ofNat (48+b.cls.toNat)]:=n;rw[qai Cl.2.2.2.1,qai Cl.2.2.2.2.1,qai Cl.2.2.2.2.2];rw[p,qao ⟨rfl,rfl⟩];have E:at_ [UInt8.ofNat (48+b.cls.toNat)] 0=((UInt8.ofNat (48+b.cls.toNat)).toNat:Int):=rfl;have:(at_ [UInt8.ofNat (48+b.cls.toNat)] 0+208)%256=b.cls:=by{grind[UInt8.toNat_ofNat']};rw[this]};rw[o]};have:b.cls=0:=o_;obtain⟨F,G,q,H,I,J,K,L,M⟩:=b;simp_all
theorem Jx{c:List aL}{v:List bz}(hs:fo c v):∀{q:List (bw×aH)} {all:List xm},agp c q->(∀x∈q,x.1.size=40\/(x.1.size=20/\x.1.high=false))->fI c v all ((abI c v q).map lN)=all++q.map fun x=>(x.1,x.2.slot)
|[],all,_,_=>by simp[abI,fI]
|x::q,all,h,b=>by obtain⟨h1,h2,f,d⟩:=h x s_;have e:(abI c v (x::q)).map lN=(abD c v x.1 x.2).map lN++(abI c v q).map lN:=by{simp[abI]};rw[e,W3 hs h1 (b x s_) h2 d,Jx hs (fun y a=>h y (by simp[a])) (fun y a=>b y (by simp[a]))];simp
def iZ(all:List xm):List (bw×aH):=all.map fun r=>(r.1,⟨r.1.id,r.2⟩)
theorem abq(all:List xm):(iO all).zip (lD all)=iZ all:=by grind[iO,lD,iZ]
theorem Fm(all:List xm):(iZ all).map (fun x=>(x.1,x.2.slot))=all:=by unfold iZ;rw[qcA];exact(qcv fun x _=>rfl).trans (List.map_id all)
noncomputable def kO(c:List aL)(v:List bz)(call:Int)(a:B_)(all:List xm):List xE:=(aaT c v call a (iO all) (lD all) (iO all).length).map lN
structure Fp(c:List aL)(v:List bz)(call:Int)(port:B_)(all:List xm):Prop where
 eq:kO c v call port all=(tVOY,Mn [digits call.toNat,port])::(abI c v (iZ all)).map lN
 pr:agp c (iZ all)
 Hh:acL (iO all)
 raw:∀x∈pieces c v call port (iZ all),akh x
 same:kO c v call port all=(pieces c v call port (iZ all)).map lN
theorem Cr{all:List xm}(h:abJ c v call a (iO all) (lD all))(m:∀r∈all,0<=r.1.cls):Fp c v call a all:=by obtain⟨i,j,n,k,d,o⟩:=id h;have f:acL (iO all):=afU k (fun b l=>by obtain⟨r,p,rfl⟩:=qaw.1 l;grind);have g:agp c (iZ all):=by{rw[<-abq];refine ad1 f d ?_;simp_all[lD,iO]};have e:aaT c v call a (iO all) (lD all) (iO all).length=pieces c v call a (iZ all):=by{grind[ae0,abq,pieces,iZ,List.length_map]};refine⟨?_,g,f,afP d.1 i j g,?_⟩;{unfold kO;rw[e];rfl};grind[kO]
theorem Fp.loose{all:List xm}(h:Fp c v call a all)(hs:fo c v)(e:0<=call/\call<20)(d:b=kO c v call a all):s8 b=call/\td b=a/\fI c v [] b.tail=all:=by rw[h.eq]at d;subst d;refine⟨?_,rfl,?_⟩;{exact n0 e.1 o_};show fI c v [] ((abI c v (iZ all)).map lN)=all;rw[Jx hs h.pr,Fm];{rfl};intro x f;have:x.1∈iO all:=by{grind[iO,iZ]};exact(h.Hh.1 _ this).2.2
theorem Fp.strict{b:B_}{all:List xm}(h:Fp c v call a all)(f:abJ c v call a (iO all) (lD all))(g:m.kind=abH)(i:m.ref=b)(d:m.Hd=kO c v call a all):s6 c v m=⟨b,call,a,iO all,lD all,0⟩:=by obtain⟨j,o,p,q,l,t⟩:=id f;obtain⟨k,r,s⟩:=m;simp at g i d;subst g i;have e:=d;rw[h.eq]at d;subst d;unfold s6;simp only;rw[show cmp (Mn [digits call.toNat,a]) 0=digits call.toNat from rfl,xn j.1 o_];rw[qai s_,G6 (qak _),qbh,acf l.1 h.pr,qbi,Fm];simp;unfold Sk;rw[qao];{rfl};refine⟨f,?_⟩;show Hx (kO c v call a all) _;rw[e,h.same];exact aiz (fun x n=>(h.raw x n).2)
theorem SE(e:List B_):Jf (Jf e)=Jf e:=by cases e with|nil=>rfl|cons c r=>show c::VV _ (VV _ r)=c::VV _ r;obtain⟨m,g,a,h,b⟩:=abN (fun x:B_=>x.isEmpty) r;rw[a];by_cases d:0<m;{obtain⟨hl,f⟩:=b d;rw[show r.take m=r.take (m-1)++[r[m-1]] by rw[<-qan hl];grind];rw[P4,f]};have:m=0:=o_;subst this;rfl
def lp(d:List (List B_)):Prop:=(∀e∈d,Jf e=e)/\∀l x,d=l++[x]->x≠[[]]
theorem Jy(h:lp d):CG d=d:=by have c:d.map Jf=d:=(qcv fun e b=>h.1 e b).trans (List.map_id d);show VV (fun e=>e==[[]]) (d.map Jf)=d;rcases qda d with rfl|⟨l,x,a⟩;{rfl};rw[Vh]at a;have:=h.2 l x a;grind[P4]
theorem DE(d:List (List B_)):lp (CG d):=by obtain⟨m,b,a,c,f⟩:=P5 d;rw[a];refine⟨fun e g=>?_,fun l x h=>?_⟩;{grind[SE]};have i:((d.map Jf).take m)[l.length]? =some x:=g_;grind
theorem NY(h:lp d)(n:Nat):lp (d.drop n):=by refine⟨fun e a=>h.1 e (qaY a),fun l x b=>?_⟩;refine h.2 (d.take n++l) x ?_;grind[List.take_append_drop]
theorem W4{s a:PJ}(b:lp d)(hs:(∀g∈s.cur.Hd,lp g.2)/\∀m∈s.out,∀g∈m.Hd,lp g.2)(h:lK s d=.ok a):(∀g∈a.cur.Hd,lp g.2)/\∀m∈a.out,∀g∈m.Hd,lp g.2:=by unfold lK at h;split at h;{grind[aaF]};grind[Dy,rW,NY]
theorem DF{L:List (List (List B_))}:∀{n:Nat} {s:PJ},kU L n=.ok s->(∀g∈s.cur.Hd,lp g.2)/\∀m∈s.out,∀g∈m.Hd,lp g.2
|0,s,h=>by cases h;exact⟨fun g a=>(by cases a),fun m b=>(by cases b)⟩
|n+1,s,h=>by rw[kU]at h;split at h;{rename_i d c;split at h;{rename_i e h1;cases h;exact W4 (DE _) (DF c) h1};cases h};cases h
def BP(a:List xE):Nat:=(a.map fun g=>g.1.length+1+zr g.2).sum
theorem Fq:∀(l:List Nat) (n:Nat),(l.take n).sum<=l.sum
|[],n=>s_
|a::r,0=>s_
|a::r,n+1=>by have:=Fq r n;simp_all
theorem SM{a:Nat}:∀{l:List Nat},a∈l->a<=l.sum
|[],h=>by cases h
|b::r,h=>by rcases qam.1 h with rfl|h;{simp};have:=SM h;grind
theorem W5(e:List B_)(a:e≠[]):Hr (Jf e)<=Hr e:=by obtain⟨m,-,-,h,-⟩:=KH a;grind[Hr,List.map_take,Fq]
theorem XQ(d:List (List B_))(a:∀e∈d,e≠[]):zr (CG d)<=zr d:=by obtain⟨m,-,h,-⟩:=P5 d;rw[h];unfold zr;rw[qdj,qcA];refine qbr (Fq _ _) ?_;clear h;induction d with|nil=>simp_all|cons e r b=>grind[W5]
theorem abr(a b:List xE):BP (a++b)=BP a+BP b:=by simp[BP]
def PJ.sum(s:PJ):Nat:=(s.out.map fun m=>BP m.Hd).sum+if s.opn then BP s.cur.Hd else 0
theorem abt{s b:PJ}(h:lK s d=.ok b):b.sum<=s.sum+zr d:=by unfold lK at h;split at h;{grind[aaF,PJ.sum,BP]};split at h;{grind[Dy,PJ.sum]};unfold rW at h;split at h;{cases h};split at h;{cases h};rename_i i c;have f:gY d:=qaC fun g=>c (Or.inl g);have j:(cmp d 0).length+1+zr (d.drop 1)=zr d:=by{obtain⟨k,l⟩:=f;cases d with|nil=>simp_all|cons e r=>cases e with|nil=>simp_all|cons a q=>grind[cmp,zr,Hr]};grind[BP,PJ.sum,abr]
theorem Fs{L:List (List (List B_))}(a:∀x∈L,abO x):∀{n:Nat} {s:PJ},n<=L.length->kU L n=.ok s->s.sum<=LK (L.take n)
|0,s,_,h=>by cases h;simp[PJ.sum,aji]
|n+1,s,f,h=>by rw[kU]at h;split at h;{rename_i g c;split at h;{rename_i i h1;have h2:=abt h1;have j:=Fs a o_ c;have d:L.getD n []=L[n]:=g_;have k:=XQ (L.getD n []) (fun e b=>by rw[d]at b;exact((a _ (qaf (show n<L.length by omega))).2.2 e b).1);grind[List.take_succ_eq_append_getElem,LK]};cases h};cases h
structure Told(t:B_)(m:Fc):Prop where
 trim:∀g∈m.Hd,lp g.2
 sum:BP m.Hd<=t.length
 ref:acU m.ref
theorem w9{l:List Fc}{p e:Int}(h:rX t=(l,p,e)):∀m∈l,Told t m:=by have a:=afQ h;unfold rX at h;obtain⟨⟨L,i,j⟩,b⟩:∃y,wa t=y:=⟨_,rfl⟩;rw[b]at h;obtain⟨k,f⟩:=OU b;have d:=SA b;simp only[]at h;split at h;{simp_all};split at h;{simp_all};rename_i s hs;split at h;{simp_all};have:=congrArg Prod.fst h;simp at this;subst this;intro m c;have g:=Fs f (qak _) hs;rw[qbh]at g;refine⟨(DF hs).2 m c,?_,(a m c).1⟩;have n:BP m.Hd<=(s.out.map fun m=>BP m.Hd).sum:=SM (qbP c);grind[PJ.sum]
theorem abx{gs:List xE}(h:∀g∈gs,g.1.length=3):4*gs.length<=BP gs:=by induction gs with|nil=>simp|cons g r a=>grind[BP]
theorem am9{b:List Raw}(c:acU a)(h:∀x∈b,akh x)(k:b.length<=990):(nU abH a (b.map lN)).2=0:=by have d:=c.alk;have l:=Jl d c.2.1 (fun x f=>(h x f).1) k;unfold nU;have m:adf ⟨abH,a,(b.map lN).map DB⟩:=by{refine⟨afF,c,fun i j=>?_⟩;simp at j;have e:(⟨abH,a,(b.map lN).map DB⟩:Message).Hd[i]' o_=DB (lN b[i]):=s_;rw[e];refine⟨(h _ (qaf j)).1.1,?_⟩;have:=l (aeu b[i]) (by grind[s4]);exact this.lex};have e:([[P6],[a],[abH]]::(b.map lN).map fun g=>[g.1]::CG g.2)++[[[P7],[digits ((b.map lN).length+2)],[a]]]=(s4 abH a b).map Mn:=by{unfold s4;rw[qaX,qaj,qap,qcA];have:(b.map ((fun g:xE=>[g.1]::CG g.2)∘lN))=(b.map aeu).map Mn:=by{rw[qcA];refine qcv fun x f=>?_;show [x.1]::CG (Mn x.2)=Mn (x.1::x.2);rw[Et (h x f).2];rfl};rw[this];rfl};grind[ag5]
theorem ai2{ref:B_}{a:List xE}(d:∀g∈a,lp g.2)(f:∀g∈b,lp g.2)(h:Jq abH ref a b):a=b:=by obtain⟨i,j,k⟩:=h;have key:∀x:List xE,(∀g∈x,lp g.2)->(nU abH ref x).2=0->wa (nU abH ref x).1=(([[P6],[ref],[abH]]::x.map fun g=>[g.1]::g.2)++[[[P7],[digits (x.length+2)],[ref]]],0,0):=by{grind[List.map_congr_left,Jy,nU,WW]};have c:=key a d i;have l:=key b f j;rw[k,l]at c;have e:=congrArg Prod.fst c;have e:=(List.append_inj' e rfl).1;have m:∀x y:List xE,(x.map fun g=>[g.1]::g.2)=(y.map fun g=>[g.1]::g.2)->x=y:=by{intro x;induction x with|nil=>simp_all|cons g r n=>intro y h;cases y with|nil=>grind|cons o r'=>grind};grind
theorem NZ{a:List Raw}(h:∀x∈a,akh x):∀g∈a.map lN,lp g.2:=by intro g b;obtain⟨x,c,rfl⟩:=qaw.1 b;have:=DE (lN x).2;rw[show(lN x).2=Mn x.2 from rfl,Et (h x c).2]at this;exact this
theorem abz{a:List Raw}(h:∀x∈a,akh x)(hs:Hx (a.map lN) b):b=a.map lN:=by obtain⟨c,d⟩:=hs;refine(qcq c fun i e f=>?_).symm;obtain⟨g,j⟩:=d i e f;grind[Jy,NZ]
theorem JL{c:List aL}{v:List bz}:∀{b:List xE} {all:List xm},(∀r∈all,0<=r.1.cls)->∀r∈fI c v all b,0<=r.1.cls
|[],all,h=>h
|g::b,all,h=>by rw[fI];refine JL ?_;unfold cZ;intro r a;split at a;{rcases qav.1 a with a|a;{grind};rw[qaO]at a;subst a;exact qdG 0};grind[List.dropLast_eq_take,nT]
theorem XX(hl:c.length<2^32)(D:t.length<=3900)(n:Told t m):w8 c v m=s6 c v m:=by by_cases j:m.kind=abH;{by_cases h:abJ c v (s8 m.Hd) (td m.Hd) (iO (fI c v [] m.Hd.tail)) (lD (fI c v [] m.Hd.tail))/\Jq abH m.ref (kO c v (s8 m.Hd) (td m.Hd) (fI c v [] m.Hd.tail)) m.Hd;{have b:=Cr h.1 (JL (fun r d=>by cases d));have a:=ai2 (ref:=m.ref) (by rw[b.same];exact NZ b.raw) n.trim h.2;rw[b.strict h.1 j rfl a.symm];unfold w8;rw[qai (fun f=>f j)];exact qao h};have:w8 c v m=.bad 393:=by{unfold w8;rw[qai (fun f=>f j)];exact qai h};rw[this];by_cases a:(s6 c v m).err=0;{exfalso;apply h;unfold s6 at a;have l:¬(393:Int)=0:=d_;rw[qai (fun f=>f j)]at a;cases hs:m.Hd with|nil=>rw[hs]at a;exact absurd a l|cons g gs=>rw[hs]at a;simp at a;by_cases o:(lC (cmp g.2 0)).2=false;{rw[qao o]at a;exact absurd a l};rw[qai o]at a;cases d:nK c v gs gs.length with|none=>rw[d]at a;exact absurd a l|some all=>rw[d]at a;simp at a;unfold Sk at a;by_cases i:abJ c v (lC (cmp g.2 0)).1 (cmp g.2 1) (iO all) (lD all)/\Hx ((aaT c v (lC (cmp g.2 0)).1 (cmp g.2 1) (iO all) (lD all) (iO all).length).map lN) (g::gs);{obtain⟨p,-⟩:=ae1 hl d;have b:=Cr i.1 (fun r d=>(p r d).1.2.1.1);have e:Hx (kO c v (lC (cmp g.2 0)).1 (cmp g.2 1) all) (g::gs):=i.2;rw[b.same]at e;have e:=abz b.raw e;rw[<-b.same]at e;obtain⟨q,s,u⟩:=b.loose i.1.2.2.2.2.1.1 i.1.1 e;rw[q,s,u];refine⟨i.1,?_⟩;rw[e];have k:(nU abH m.ref (kO c v (lC (cmp g.2 0)).1 (cmp g.2 1) all)).2=0:=by{rw[b.same];refine am9 n.ref b.raw ?_;have w:=abx (gs:=m.Hd) (by rw[hs,e,b.same];intro y z;obtain⟨x,A,rfl⟩:=qaw.1 z;exact(b.raw x A).1.1.1);have B:=n.sum;rw[hs,e,b.same,qap]at w;rw[hs,e,b.same]at B;omega};exact⟨k,k,rfl⟩};rw[qai i]at a;exact absurd a l};have C:=afV a;rw[C];have:(s6 c v m).err=393:=by{unfold s6 at a ⊢;rw[qai (fun f=>f j)]at a ⊢;cases hs:m.Hd with|nil=>rfl|cons g gs=>rw[hs]at a;simp at a ⊢;split;{rfl};cases d:nK c v gs gs.length with|none=>rfl|some all=>rw[d]at a;simp at a ⊢;unfold Sk at a ⊢;split;{simp_all};rfl};rw[this]};grind[w8,s6]
theorem X1(hl:c.length<2^32)(a:t.length<=3900):Mb c v t=j6 c v t:=by grind[w9,Mb,j6,M7,XX]
end Go.aA
