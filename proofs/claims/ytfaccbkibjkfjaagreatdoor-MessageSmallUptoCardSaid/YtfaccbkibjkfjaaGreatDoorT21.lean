import Derived.Test.YtfaccbkibjkfjaaGreatDoorT20
import Derived.Test.YtfaccbkibjkfjaaGreatDoorT18
set_option linter.all false
set_option maxRecDepth 100000
set_option maxHeartbeats 1000000
namespace Go.aA
section
open Go Go.Am
open Classical
variable {a:List B_} {b:bw} {boxes:List bw} {c:List aL} {call:Int} {l:List aH} {v:List bz} {x:Slot}
def VU(c:B_):Prop:=∀b∈c,(48<=b.toNat/\b.toNat<=57)\/(65<=b.toNat/\b.toNat<=90)
theorem VU.at_{c:B_}(h:VU c){i:Nat}(a:i<c.length):(48<=at_ c i/\at_ c i<=57)\/(65<=at_ c i/\at_ c i<=90):=by have:=h c[i] (qaf a);grind[aA.at_]
theorem VU.no{c:B_}(h:VU c){b:UInt8}(d:b.toNat<48):b∉c:=fun a=>by have:=h b a;omega
def ended(sep:UInt8)(a:List B_):B_:=(a.map (·++[sep])).flatten
theorem adj{c:B_}{f:Bool}(h:VU c):∀{n:Nat},n<=c.length->adh c f n=c.take n
|0,_=>by simp[adh]
|n+1,a=>by have b:=h.at_ (i:=n) o_;rw[adh,adj h o_,qai (by grind[ahG]),qan o_];grind
def Mn(a:List B_):List (List B_):=a.map fun c=>[c]
theorem aeb{a:List B_}(h:∀c∈a,VU c):∀{i:Nat},i<a.length->acB (Mn a) (i+1)++[43]=ended 43 (a.take (i+1))
|0,b=>by have h1:(Mn a).getD 0 []=[a[0]]:=by{grind[Mn]};rw[qan b];simp only[acB,h1,acR,qcm,List.take_zero,qbi,ended,qaj,qaF,List.flatten_cons,List.flatten_nil,qbw];grind[adj]
|i+1,b=>by have d:=aeb h (i:=i) o_;have h1:(Mn a).getD (i+1) []=[a[i+1]]:=by{grind[Mn]};rw[qan b];have e:ended 43 (a.take (i+1)++[a[i+1]])=ended 43 (a.take (i+1))++(a[i+1]++[43]):=by{grind[ended]};grind[acB,acR,adj,List.getElem_mem]
theorem acP{cs:List B_}(h:∀c∈cs,VU c)(a:cs≠[]):acB (Mn cs) (Mn cs).length++[43]=ended 43 cs:=by have hl:0<cs.length:=qbm.2 a;have:=aeb h (i:=cs.length-1) o_;grind[Mn]
theorem adk{l:List (List B_)}:∀{n:Nat},n<=l.length->Uu (l.map Mn) n=ended 39 ((l.take n).map fun a=>acB (Mn a) (Mn a).length)
|0,_=>r_
|n+1,b=>by rw[Uu,adk (n:=n) o_,qan o_];grind[ended,adX]
def ag2(l:List (List B_)):Prop:=∀a∈l,a≠[]/\∀c∈a,VU c
def afD(a b:B_):List B_:=[[72,69,68],b,a]
def af3(n:Nat)(a:B_):List B_:=[[69,78,68],digits (n+2),a]
def aeu(x:Raw):List B_:=x.1::x.2
theorem aev{b a:B_}{c:List Raw}:(ads b a::c.map adi++[ady c.length a]).map acK.val=((afD b a::c.map aeu)++[af3 c.length a]).map Mn:=by simp only[qaX,qaj,qaF,qcA];congr 1;congr 1;simp_all[acK.val,adi,Mn,aeu]
theorem acC(n:Nat):VU (digits n):=by induction n using Nat.strongRecOn with|ind n c=>rw[acY];split;{intro b a;grind[UInt8.toNat_ofNat']};intro b a;rcases qav.1 a with a|a;{exact c (n/10) o_ b a};grind[UInt8.toNat_ofNat']
def aaq(x:Raw):Prop:=VU x.1/\∀c∈x.2,VU c
theorem aew(n:Nat):(digits n).foldl (fun a b=>a*10+(b.toNat-48)) 0=n:=by induction n using Nat.strongRecOn with|ind n c=>grind[acY,UInt8.toNat_ofNat']
theorem aiL{n m:Nat}(h:digits n=digits m):n=m:=by grind[aew]
theorem toNat_inj{a b:Int}(c:0<=a)(d:0<=b)(h:digits a.toNat=digits b.toNat):a=b:=by grind[aiL]
theorem uR{a b:Int}(h:CF a=CF b):a%10=b%10:=by grind[CF,UInt8.toNat_ofNat']
theorem agH(n:Int):48<=(CF n).toNat/\(CF n).toNat<=57:=by grind[CF,UInt8.toNat_ofNat']
def acA(c:List aL)(x:Slot):Prop:=fy c x 20\/fy c x 40
theorem acA.rk(h:acA c x):0<=x.column/\x.column<c.length/\0<=x.ct/\(∀h:x.column.toNat<c.length,x.ct<c[x.column.toNat].dv)/\(x.half=0\/x.half=1\/x.half=2):=by rcases h with⟨⟨a,b,d,e⟩,f⟩|⟨⟨a,b,d,e⟩,f⟩;{simp_all};simp_all
theorem adl(hs:fo c v)(h:acA c x)(a:x.column.toNat<c.length):(YX c v x).1= (let k:=c[x.column.toNat];let n:=4*k.bay+(if x.half=0 then 2 else if x.half=1 then 1 else 3);let t:=(2*(x.ct+1)+if k.deck then 80 else 0)%100;[CF (n/100),CF (n/10),CF n,CF (k.row/10),CF k.row,CF (t/10),CF t]):=by unfold YX;rw[qai a_,qai (by rintro⟨b,d⟩;rcases h with h|h;exact b h;simp_all),qag a]
theorem K0{y:Slot}(hs:fo c v)(l:acA c x)(m:acA c y)(h:(YX c v x).1=(YX c v y).1):x=y:=by obtain⟨H,I,J,K,L⟩:=l.rk;obtain⟨M,N,O,P,Q⟩:=m.rk;have e:x.column.toNat<c.length:=o_;have f:y.column.toNat<c.length:=o_;rw[adl hs l e,adl hs m f]at h;have w:=(hs.2.1 _ e).1;have z:=(hs.2.1 _ f).1;obtain⟨-,A,B,C,-⟩:=w;obtain⟨-,j,D,E,-⟩:=z;unfold In at A B C j D E;simp at h;obtain⟨n,o,p,q,r,s,t⟩:=h;have n:=uR n;have o:=uR o;have p:=uR p;have q:=uR q;have r:=uR r;have s:=uR s;have t:=uR t;have g:c[x.column.toNat].bay=c[y.column.toNat].bay/\x.half=y.half:=by{grind};have u:c[x.column.toNat].row=c[y.column.toNat].row:=o_;have i:x.ct=y.ct/\c[x.column.toNat].deck=c[y.column.toNat].deck:=by{grind};have F:x.column.toNat=y.column.toNat:=by{rcases qcG x.column.toNat y.column.toNat with k|G|k;{exact absurd ⟨g.1,u,i.2⟩ ((hs.2.1 _ f).2 _ k)};{exact G};exact absurd ⟨g.1.symm,u.symm,i.2.symm⟩ ((hs.2.1 _ e).2 _ k)};obtain⟨a,b,d⟩:=x;obtain⟨R,S,T⟩:=y;grind
def agp(c:List aL)(q:List (bw×aH)):Prop:=∀x∈q,iL x.1/\acA c x.2.slot/\x.2.box=x.1.id/\0<=x.1.cls
noncomputable def abI(c:List aL)(v:List bz)(q:List (bw×aH)):List Raw:=(q.map fun x=>abD c v x.1 x.2).flatten
theorem acD:∀{k n:Nat},0<k->n<10^k->(digits n).length<=k
|1,n,_,h=>by grind[acY]
|k+2,n,_,h=>by rw[acY];split;{simp};have:=acD (k:=k+1) (n:=n/10) o_ g_;simp_all
def aey(a:List B_):Prop:=1<=a.length/\a.length<=4/\∀c∈a,VU c/\c.length<=14
theorem aey.lex(h:aey a):uJ (Mn a):=by obtain⟨l,m,b⟩:=h;refine⟨by grind[Mn],by grind[Mn],fun i n=>?_⟩;have c:i<a.length:=by{grind[Mn]};have e:(Mn a)[i]=[a[i]]:=by{simp[Mn]};rw[e];refine⟨s_,s_,fun k o=>?_⟩;have d:k=0:=a_;subst d;obtain⟨f,hl⟩:=b _ (qaf c);refine⟨g_,fun j g=>?_⟩;have:=f.at_ (i:=j) g;grind
theorem agI(h:∀c∈a,c.length<=14):(ended 43 a).length<=15*a.length:=by induction a with|nil=>simp[ended]|cons c a b=>grind[ended]
theorem aey.len(h:aey a):(adX (Mn a)).length<=60:=by obtain⟨b,c,d⟩:=h;have e:a≠[]:=g_;grind[acP,agI,adX]
theorem agq{l:List (List B_)}(h:∀a∈l,aey a):∀{n:Nat},n<=l.length->(Uu (l.map Mn) n).length<=60*n
|0,_=>by simp[Uu]
|n+1,b=>by rw[Uu,qal];have h1:(l.map Mn).getD n []=Mn l[n]:=g_;rw[h1];have:=(h _ (qaf (show n<l.length by omega))).len;have:=agq h (n:=n) o_;omega
theorem ag5{l:List (List B_)}(h:∀a∈l,aey a)(c:l.length<=1000):afv (l.map Mn)=(Uu (l.map Mn) (l.map Mn).length,0):=by have hl:(l.map Mn).length=l.length:=s_;have d:=agq h (qak _);unfold afv;rw[qai o_,qai,qai g_];rintro⟨i,e,b⟩;refine b ?_;have:(l.map Mn)[i]=Mn (l[i]' o_):=s_;rw[this];exact(h _ (qaf _)).lex
def acM(x:Raw):Prop:=Y0 x.1/\VU x.1/\x.2.length<=3/\∀c∈x.2,VU c/\c.length<=14
theorem acM.short{x:Raw}(h:acM x):aey (aeu x):=by obtain⟨⟨b,-⟩,d,e,f⟩:=h;refine⟨by simp[aeu],by grind[aeu],fun c a=>?_⟩;rcases qam.1 a with rfl|a;{simp_all};simp_all
theorem aeY:VU abH:=by intro b a;simp[abH]at a;rcases a with rfl|rfl|rfl|rfl|rfl|rfl<;>decide
theorem afF:ab2 abH:=by refine⟨rfl,fun i a=>?_⟩;have a:i=0\/i=1\/i=2\/i=3\/i=4\/i=5:=by{simp[abH]at a;omega};rcases a with rfl|rfl|rfl|rfl|rfl|rfl<;>simp[at_,abH]
theorem aeZ{a:B_}(h:VU a)(h1:1<=a.length)(h2:a.length<=14):acU a:=⟨h1,h2,fun i b=>by have:=h.at_ b;omega⟩
theorem ag6{a:B_}{f:List Raw}(m:VU a)(o:1<=a.length)(p:a.length<=14)(h:∀x∈f,acM x)(s:f.length<=500): aeT abH a f=(Uu ((ads abH a::f.map adi++[ady f.length a]).map acK.val) ((ads abH a::f.map adi++[ady f.length a]).map acK.val).length,0):=by unfold aeT;have t:adf ⟨abH,a,(f.map abZ).map acz.val⟩:=by{refine⟨afF,aeZ m o p,fun i u=>?_⟩;have q:i<f.length:=a_;have e:((f.map abZ).map acz.val)[i]=acz.val (abZ f[i]):=s_;rw[e];have l:=h _ (qaf q);refine⟨l.1,?_⟩;have r:([(acz.val (abZ f[i])).tag]::(acz.val (abZ f[i])).data)=Mn (aeu f[i]):=by{simp[acz.val,abZ,Mn,aeu]};rw[r];exact l.short.lex};rw[qai a_,aev];refine ag5 (fun v d=>?_) g_;rcases qav.1 d with d|d;{rcases qam.1 d with rfl|d;{refine⟨by simp[afD],by simp[afD],fun c g=>?_⟩;simp[afD]at g;rcases g with rfl|rfl|rfl;{exact⟨by intro b j;simp at j;rcases j with rfl|rfl|rfl<;>decide,s_⟩};{simp_all};grind[aeY,abH]};obtain⟨x,l,rfl⟩:=qaw.1 d;exact(h x l).short};rw[qaO]at d;subst d;refine⟨by simp[af3],by simp[af3],fun c g=>?_⟩;simp[af3]at g;rcases g with rfl|rfl|rfl;{exact⟨by intro b j;simp at j;rcases j with rfl|rfl|rfl<;>decide,s_⟩};{exact⟨acC _,by have:=acD (k:=4) (n:=f.length+2) o_ o_;omega⟩};simp_all
theorem af5(hs:fo c v)(h:acA c x):VU (YX c v x).1/\(YX c v x).1.length<=14:=by have a:x.column.toNat<c.length:=by{have:=h.rk;omega};rw[adl hs h a];refine⟨fun b d=>?_,s_⟩;grind[agH]
theorem af6(h:iL b):VU (aaU b).1/\(aaU b).1.length<=14:=by have hl:=aen h;refine⟨?_,o_⟩;unfold aaU;(repeat' split);(all_goals intro c a;simp only[qam,qaB,qa7]at a);(all_goals(try(rcases a with rfl|rfl|rfl|rfl<;>decide)));all_goals simp at a
theorem afg{s:B_}(h:ra s):VU s:=by intro b a;obtain⟨i,c,rfl⟩:=qaI a;have:=h i c;grind[at_]
theorem afh{x:aH}(hs:fo c v)(j:iL b)(p:0<=b.cls)(q:acA c x.slot):∀y∈abD c v b x,acM y:=by obtain⟨⟨r,s⟩,o,-,⟨u,w⟩,⟨z,A,B⟩,C⟩:=id j;have D:most b.size<=40000:=by{grind[most]};have E:∀n:Int,0<=n->n<1000000->VU (digits n.toNat)/\(digits n.toNat).length<=14:=fun n F G=>⟨acC _,by have:=acD (k:=6) (n:=n.toNat) o_ o_;omega⟩;have l:VU b.number/\b.number.length<=14:=by{rcases o with e|e;{rw[e];exact⟨(fun _ h=>nomatch h),s_⟩};exact⟨afg e.2.1,by rw[e.1];omega⟩};have a:∀t:B_,t∈[[76,79,67],[69,81,68],[77,69,65],[82,70,70],[68,71,83]]->Y0 t/\VU t:=by{intro t m;simp at m;rcases m with rfl|rfl|rfl|rfl|rfl;all_goals refine⟨⟨rfl,fun i H=>?_,d_,d_⟩,fun b j=>?_⟩;{have:i=0\/i=1\/i=2:=g_;rcases this with rfl|rfl|rfl<;>simp[at_]};simp only[qam,qaB,qa7]at j;rcases j with rfl|rfl|rfl<;>decide};intro y f;rcases qav.1 f with f|f;{simp at f;rcases f with rfl|rfl|rfl|rfl;{refine⟨(a _ s_).1,(a _ s_).2,s_,fun d g=>?_⟩;grind[af5]};{refine⟨(a _ s_).1,(a _ s_).2,s_,fun d g=>?_⟩;simp at g;rcases g with rfl|rfl|rfl;{grind};{exact l};grind[af6]};{refine⟨(a _ s_).1,(a _ s_).2,s_,fun d g=>?_⟩;grind};refine⟨(a _ s_).1,(a _ s_).2,s_,fun d g=>?_⟩;grind};split at f;{rw[qaO]at f;rw[f];refine⟨(a _ s_).1,(a _ s_).2,s_,fun d g=>?_⟩;grind};grind
theorem ae0{c:List aL}{v:List bz}{call:Int}{a:B_}{boxes:List bw}{l:List aH}(hl:boxes.length=l.length):∀{n:Nat},n<=boxes.length->aaT c v call a boxes l n=([86,79,89],[digits call.toNat,a])::abI c v ((boxes.zip l).take n)
|0,_=>r_
|n+1,b=>by rw[acJ o_ o_,ae0 hl o_];grind[List.take_succ_eq_append_getElem,abI]
def KP(boxes a:List bw)(id:Int):Prop:=(ku boxes id).map (fun b=>(b.size,b.high))=(ku a id).map (fun b=>(b.size,b.high))
theorem KP.symm{boxes a:List bw}{id:Int}(h:KP boxes a id):KP a boxes id:=Eq.symm h
def acL(l:List bw):Prop:=(∀b∈l,iL b/\0<=b.cls/\(b.size=40\/(b.size=20/\b.high=false)))/\l.Pairwise (fun a b=>a.id<b.id)/\l.Pairwise (fun a b=>b.number≠[]->a.number≠b.number)
theorem acL.sub{l m:List bw}(h:acL m)(hs:l.Sublist m):acL l:=⟨fun b a=>h.1 b (hs.subset a),h.2.1.sublist hs,h.2.2.sublist hs⟩
theorem acL.right{l:List bw}(h:acL l)(hl:l.length<=2000):wo l:=by refine⟨hl,fun i a d=>⟨(h.1 _ (qaf a)).1,fun k b c=>?_,fun e b=>?_⟩⟩;{exact qaU.1 h.2.2 k i o_ a b c};exact qaU.1 h.2.1 (i-1) i b a o_
theorem ad1(d:acL boxes)(hs:gC c v boxes l)(g:l.map (·.box)=boxes.map (·.id)):agp c (boxes.zip l):=by intro x j;obtain⟨i,o,rfl⟩:=qaI j;have k:i<boxes.length:=g_;have f:i<l.length:=g_;have e:(boxes.zip l)[i]=(boxes[i],l[i]):=s_;rw[e];obtain⟨g1,g2,p⟩:=d.1 _ (qaf k);refine⟨g1,?_,?_,g2⟩;{obtain⟨⟨b,m,a⟩,-⟩:=hs.2.1 i f f;have n:=qbV m;rcases(d.1 _ n).2.2 with h|⟨h,-⟩;{rw[h]at a;exact .inr a};rw[h]at a;exact .inl a};have:=congrArg (fun L=>L[i]?) g;grind
theorem aez{c:List aL}{v:List bz}:∀{q:List (bw×aH)},(abI c v q).length<=5*q.length
|[]=>by simp[abI]
|x::q=>by have:=aez (c:=c) (v:=v) (q:=q);grind[abD,abI]
noncomputable def pieces(c:List aL)(v:List bz)(call:Int)(a:B_)(q:List (bw×aH)):List Raw:=([86,79,89],[digits call.toNat,a])::abI c v q
theorem af7{p:B_}(h:yH p):VU p:=by intro b a;obtain⟨i,c,rfl⟩:=qaI a;have:=h.2 i c;grind[at_]
theorem ac9{a:B_}{q:List (bw×aH)}(hs:fo c v)(o:0<=call/\call<20)(f:yH a)(j:agp c q):∀x∈pieces c v call a q,acM x:=by intro x e;rcases qam.1 e with rfl|e;{refine⟨⟨rfl,fun i p=>?_,(by decide:([86,79,89]:B_)≠_),(by decide:([86,79,89]:B_)≠_)⟩,fun b g=>?_,s_,fun d h=>?_⟩;{have:i=0\/i=1\/i=2:=g_;rcases this with rfl|rfl|rfl<;>simp[at_]};{simp at g;rcases g with rfl|rfl|rfl<;>decide};simp at h;rcases h with rfl|rfl;{exact⟨acC _,by have:=acD (k:=2) (n:=call.toNat) o_ o_;omega⟩};exact⟨af7 f,by rw[f.1];omega⟩};obtain⟨L,l,e⟩:=qcN.1 e;obtain⟨y,m,rfl⟩:=qaw.1 l;obtain⟨r,s,t,u⟩:=j y m;grind[afh]
noncomputable def agJ(a:B_)(b:List Raw):B_:=Uu ((ads abH a::b.map adi++[ady b.length a]).map acK.val) ((ads abH a::b.map adi++[ady b.length a]).map acK.val).length
theorem adA{a b:B_}(h:abJ c v call a boxes l)(j:acL boxes)(k:l.map (·.box)=boxes.map (·.id))(t:boxes.length<=90)(d:VU b)(e:1<=b.length)(f:b.length<=14): adL c v b call a boxes l=(agJ b (pieces c v call a (boxes.zip l)),0):=by obtain⟨m,n,o,u,g,w⟩:=id h;have p:=ad1 j g k;have r:(boxes.zip l).length=boxes.length:=a_;have hl:=aez (c:=c) (v:=v) (q:=boxes.zip l);unfold adL;rw[qai a_,qai];{rw[ae0 o (qak _),<-r,qbh];exact ag6 d e f (ac9 g.1 m n p) g_};intro s;refine s ⟨afF,aeZ d e f,fun i x=>?_⟩;grind
theorem acM.plain{x:Raw}(h:acM x):aaq x:=⟨h.2.1,fun c a=>(h.2.2.2 c a).1⟩
end
open Go Go.Am Go.Proofs
open Classical
variable {r:Bool}
attribute [local irreducible] Am.bp.holds bH fw bP ek
variable {mx:Int}
theorem ahJ(x y:bw):aF.not (aF.Xf x.enc y.enc)=decide (x≠y):=by obtain⟨a,b,c,d,e,f,g,h,i⟩:=x;obtain⟨j,k,l,m,n,o,p,q,r⟩:=y;rw[qbX];simp[aF,bw.enc,JK]
theorem ag7(x y:aH):aF.not (aF.Xf x.enc y.enc)=decide (x≠y):=by obtain⟨a,b,c,d⟩:=x;obtain⟨e,f,g,h⟩:=y;rw[qbX];simp[aF,aH.enc,JK]
theorem ahK(x y:bw):aF.HP [1,2,1,0,1,1,1,1,0] x.enc y.enc:=by obtain⟨a,b,c,d,e,f,g,h,i⟩:=x;obtain⟨j,k,l,m,n,o,p,q,r⟩:=y;simp[aF,bw.enc,aR]
theorem ag8(x y:aH):aF.HP [1,1,1,1] x.enc y.enc:=by obtain⟨a,b,c,d⟩:=x;obtain⟨e,f,g,h⟩:=y;simp[aF,aH.enc,aR]
theorem af8{rows a Y Z:R_}{l m:List bw}(t:rows=l.map bw.enc)(u:a=m.map bw.enc)(hl:l.length<2^32)(hm:m.length<2^32)(w:r=decide (l=m)):pC mx 71 [.sl rows Y,.sl a Z] (.bool r):=by have c:rows.length=l.length:=by{simp[t]};have Xn:a.length=m.length:=by{simp[u]};refine pZ Ja ?_;(iterate 86 intro _);intro Kl CH;(iterate 34 intro _);intro aw _ mz A B C D zI aU aV bC bA ag aC;refine gK ?_;refine bp.af (fun b=>?_) (fun b=>?_);{rw[<-aV,<-bA,<-ag]at b;simp at b;refine aY ?_;refine aX ?_;exact fa w (fun h=>b (by rw[c,Xn,h]))};rw[<-aV,<-bA,<-ag]at b;simp at b;refine aY ?_;refine bQ [0,1,5] [] (fun v σ_=>σ_.put (some 5) (.pv (.i (Int.ofNat v)))) (l.length) (fun k=>∀(h:k<l.length) (E:k<m.length),l[k]=m[k]) ?_;intro v hv hk;refine ej ?_;refine bp.af (fun d=>?_) (fun d=>?_);{have g:v<l.length:=by{rw[<-aC,<-ag]at d;simp at d;omega};have F:v<m.length:=o_;obtain⟨gI,j⟩:∃x,l[v]=x:=⟨_,rfl⟩;have bG:C (Int.ofNat v) rows 9:=by{rw[<-D,t];exact aO (enc:=bw.enc) g rfl};obtain⟨⟨G,H,I,J,K,L,M,N,O⟩,bW⟩:∃y,gI=y:=⟨_,rfl⟩;subst bW;have aW:A rows (Int.ofNat v)=[.i G,.str H,.u I,.bool J,.i K,.i L,.i M,.u N,.bool O]:=by{rw[<-B,t,aN (enc:=bw.enc) g,j];rfl};obtain⟨Ac,n⟩:∃x,m[v]=x:=⟨_,rfl⟩;have gw:C (Int.ofNat v) a 9:=by{rw[<-D,u];exact aO (enc:=bw.enc) F rfl};obtain⟨⟨P,Q,R,S,T,U,V,W,X⟩,jF⟩:∃y,Ac=y:=⟨_,rfl⟩;subst jF;have dV:A a (Int.ofNat v)=[.i P,.str Q,.u R,.bool S,.i T,.i U,.i V,.u W,.bool X]:=by{rw[<-B,u,aN (enc:=bw.enc) F,n];rfl};refine aY ?_;refine ae bG ?_;rw[aW];refine gK ?_;refine ae gw ?_;rw[dV];refine gK ?_;obtain⟨e,o⟩:∃x:bw,x=⟨G,H,I,J,K,L,M,N,O⟩:=⟨_,rfl⟩;obtain⟨f,p⟩:∃x:bw,x=⟨P,Q,R,S,T,U,V,W,X⟩:=⟨_,rfl⟩;have z:=ahJ e f;have q:=ahK e f;rw[aV,CH,o,p]at z;rw[Kl,o,p]at q;simp only[bw.enc]at z q;rw[z,<-o,<-p];rw[<-o]at j;rw[<-p]at n;by_cases s:e=f;{rw[show decide (e≠f)=false by simp[s]];refine aY ?_;refine ae q ?_;refine gK ?_;refine aB ⟨g,fun _ _=>by rw[j,n,s],?_⟩;rw[wS mz aw (v:=v) o_];cbv};rw[show decide (e≠f)=true by simp[s]];refine aY ?_;refine ae q ?_;refine gK ?_;refine dS ?_;exact fa w (fun h=>s (by rw[<-j,<-n];simp only[h]))};have g:v=l.length:=by{rw[<-aC,<-ag]at d;simp at d;omega};refine aY ?_;refine wW rfl ?_;refine gK ?_;refine aX ?_;exact tr w (qcq o_ fun i h1 E=>hk i o_ h1 E)
theorem afi{rows a O P:R_}{l m:List aH}(t:rows=l.map aH.enc)(u:a=m.map aH.enc)(hl:l.length<2^32)(hm:m.length<2^32)(w:r=decide (l=m)):pC mx 72 [.sl rows O,.sl a P] (.bool r):=by have c:rows.length=l.length:=by{simp[t]};have Q:a.length=m.length:=by{simp[u]};refine pZ Jb ?_;(iterate 86 intro _);intro R S;(iterate 34 intro _);intro T _ U A B C D zI aU aV bC bA ag aC;refine gK ?_;refine bp.af (fun b=>?_) (fun b=>?_);{rw[<-aV,<-bA,<-ag]at b;simp at b;refine aY ?_;refine aX ?_;exact fa w (fun h=>b (by rw[c,Q,h]))};rw[<-aV,<-bA,<-ag]at b;simp at b;refine aY ?_;refine bQ [0,1,5] [] (fun v σ_=>σ_.put (some 5) (.pv (.i (Int.ofNat v)))) (l.length) (fun k=>∀(h:k<l.length) (E:k<m.length),l[k]=m[k]) ?_;intro v hv V;refine ej ?_;refine bp.af (fun d=>?_) (fun d=>?_);{have g:v<l.length:=by{rw[<-aC,<-ag]at d;simp at d;omega};have F:v<m.length:=o_;obtain⟨W,j⟩:∃x,l[v]=x:=⟨_,rfl⟩;have X:C (Int.ofNat v) rows 4:=by{rw[<-D,t];exact aO (enc:=aH.enc) g rfl};obtain⟨⟨G,⟨H,I,J⟩⟩,Y⟩:∃y,W=y:=⟨_,rfl⟩;subst Y;have Z:A rows (Int.ofNat v)=[.i G,.i H,.i I,.u J]:=by{rw[<-B,t,aN (enc:=aH.enc) g,j];rfl};obtain⟨Ac,n⟩:∃x,m[v]=x:=⟨_,rfl⟩;have gw:C (Int.ofNat v) a 4:=by{rw[<-D,u];exact aO (enc:=aH.enc) F rfl};obtain⟨⟨K,⟨L,M,N⟩⟩,jF⟩:∃y,Ac=y:=⟨_,rfl⟩;subst jF;have dV:A a (Int.ofNat v)=[.i K,.i L,.i M,.u N]:=by{rw[<-B,u,aN (enc:=aH.enc) F,n];rfl};refine aY ?_;refine ae X ?_;rw[Z];refine gK ?_;refine ae gw ?_;rw[dV];refine gK ?_;obtain⟨e,o⟩:∃x:aH,x=⟨G,H,I,J⟩:=⟨_,rfl⟩;obtain⟨f,p⟩:∃x:aH,x=⟨K,L,M,N⟩:=⟨_,rfl⟩;have z:=ag7 e f;have q:=ag8 e f;rw[aV,S,o,p]at z;rw[R,o,p]at q;simp only[aH.enc]at z q;rw[z,<-o,<-p];rw[<-o]at j;rw[<-p]at n;by_cases s:e=f;{rw[show decide (e≠f)=false by simp[s]];refine aY ?_;refine ae q ?_;refine gK ?_;refine aB ⟨g,fun _ _=>by rw[j,n,s],?_⟩;rw[wS U T (v:=v) o_];cbv};rw[show decide (e≠f)=true by simp[s]];refine aY ?_;refine ae q ?_;refine gK ?_;refine dS ?_;exact fa w (fun h=>s (by rw[<-j,<-n];simp only[h]))};have g:v=l.length:=by{rw[<-aC,<-ag]at d;simp at d;omega};refine aY ?_;refine wW rfl ?_;refine gK ?_;refine aX ?_;exact tr w (qcq o_ fun i h1 E=>V i o_ h1 E)
theorem ajl{rows d q s p e o f:R_}{l l2:List aH}{boxes boxes2:List bw}{call call2:Int}{a i:B_}(t:rows=l.map aH.enc)(j:d=l2.map aH.enc)(u:p=boxes.map bw.enc)(v:e=boxes2.map bw.enc)(hl:l.length<2^32)(w:l2.length<2^32)(x:boxes.length<2^32)(k:boxes2.length<2^32)(m:r=decide (call=call2/\a=i/\boxes=boxes2/\l=l2)): pC mx 23 [.agg [.i call,.str a,.sl p o,.sl rows q],.agg [.i call2,.str i,.sl e f,.sl d s]] (.bool r):=by refine pZ Jc ?_;(iterate 129 intro _);intro zI aU aV bC bA ag aC;refine gK ?_;refine bp.af (fun b=>?_) (fun b=>?_);{rw[<-bA]at b;simp at b;refine aY ?_;refine bp.af (fun c=>?_) (fun c=>?_);{rw[<-aU]at c;simp[aF]at c;refine aY ?_;refine cU c_ (af8 u v x k rfl) (fun h=>?_) (fun h=>?_)<;>simp only[qae,qad]at h;{refine gK ?_;refine cU c_ (afi t j hl w rfl) (fun n=>?_) (fun n=>?_)<;>simp only[qae,qad]at n;{refine gK ?_;refine aX ?_;exact tr m ⟨b,c,h,n⟩};refine gK ?_;refine aX ?_;exact fa m (fun g=>n g.2.2.2)};refine gK ?_;refine aX ?_;exact fa m (fun g=>h g.2.2.1)};rw[<-aU]at c;simp[aF]at c;refine aY ?_;refine aX ?_;exact fa m (fun g=>c g.2.1)};rw[<-bA]at b;simp at b;refine aY ?_;refine aX ?_;exact fa m (fun g=>b g.1)
end Go.aA
