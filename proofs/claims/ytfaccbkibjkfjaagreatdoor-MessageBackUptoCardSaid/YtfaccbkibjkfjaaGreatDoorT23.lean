import Derived.Test.YtfaccbkibjkfjaaGreatDoorT22
set_option linter.all false
set_option maxRecDepth 100000
set_option maxHeartbeats 1000000
namespace Go.bt
section
open Go Go.Am Go.Proofs
variable {B:Nat} {a:List Sh} {ps:List PV}
theorem dx{k:IntKind}(h:iR B (.i k::a) ps):∃n r,ps=.int k n::r/\(Lit.int k n).wf=true/\iR B a r:=by simp only[iR,K9]at h;obtain⟨p,r,rfl,⟨n,rfl,b⟩,h⟩:=h;exact⟨n,r,rfl,b,h⟩
theorem Eu(h:iR B (.b::a) ps):∃n r,ps=.bool n::r/\iR B a r:=by simp only[iR,K9]at h;obtain⟨p,r,rfl,⟨n,rfl⟩,h⟩:=h;exact⟨n,r,rfl,h⟩
theorem qe{row b:List Sh}(h:iR B (.l row::b) ps):∃rows a r,ps=.sl rows a::r/\rows.length<=B/\(∀x∈rows,iR B row x)/\iR B b r:=by simp only[iR,K9]at h;obtain⟨p,r,rfl,⟨rows,a,rfl,d,c,e⟩,h⟩:=h;exact⟨rows,a,r,rfl,o_,c,h⟩
theorem kO(h:iR B [] ps):ps=[]:=by simpa only[iR]using h
theorem rowsOf{B:Nat}{c:List Sh}{α:Type}{enc:α->List PV}{Q:α->Prop}(h:∀ps,iR B c ps->∃x,ps=enc x/\Q x):∀{rows:R_},(∀r∈rows,iR B c r)->∃l:List α,rows=l.map enc/\∀x∈l,Q x
|[],_=>⟨[],rfl,fun _ b=>by cases b⟩
|r::rows,d=>by obtain⟨x,rfl,b⟩:=h r (d r s_);obtain⟨l,rfl,hl⟩:=rowsOf h (rows:=rows) (fun y a=>d y (by simp[a]));exact⟨x::l,rfl,fun y a=>by rcases qam.1 a with rfl|a;{exact b};exact hl y a⟩
abbrev shI:Sh:=.i .i64
theorem aaJ{n:Int}(h:(Lit.int .u8 n).wf=true):0<=n/\n<256:=by simp only[Lit.wf,qaG,qae]at h;have a:IntKind.u8.min=0:=r_;have b:IntKind.u8.max=255:=r_;rw[a,b]at h;omega
end
section
open Go Go.Am
open Classical
variable {cl:List aL} {vl:List bz} {home:Int->Int} {a:List bw} {b:bw} {calls:Int} {i:Nat} {l:List Item} {n:Int} {v:Nat}
def abp:Item:=⟨0,0,0,0,false,false⟩
def BZ(l:List Item)(n:Int)(id:Int):Int:=(l.getD (id/5-1).toNat abp).rk%n
theorem JQ(h:i<l.length):BZ l n (5*((i:Int)+1))=l[i].rk%n:=by unfold BZ;have:(5*((i:Int)+1)/5-1).toNat=i:=o_;rw[this,List.getD_eq_getElem?_getD,qag h];rfl
def lE(n:Int)(i:Nat)(x:Item):List PV:=[.i (5*((i:Int)+1)),.i (x.rk%n)]
theorem qv:lL l n v=(l.take v).mapIdx (lE n):=rfl
theorem Hz(h:v<l.length):lL l n (v+1)=lL l n v++[lE n v l[v]]:=by rw[qv,qv,qan h,qdh];simp only[qaT,qce,List.mapIdx_nil];rw[show 0+min v l.length=v by omega]
theorem MW{id:Int}:aF.CZ [1] 1 (lL l n v) [.i id]:=by refine⟨rfl,by simp[aR],fun r a=>?_⟩;obtain⟨i,b,rfl⟩:=qaI a;simp only[qv,qc0];simp[aR,lE]
theorem JR{n:Int}{z:List PV}:∀{l:List Item} {k0 i:Nat} (h:i<l.length),aF.xJ 1 (l.mapIdx fun j=>lE n (j+k0)) [.i (5*(((i+k0:Nat):Int)+1))] z=.i (l[i].rk%n)
|x::l,k0,0,h=>by rw[qce];simp[aF,jy,lE,JK,jz,qbv]
|x::l,k0,i+1,h=>by rw[qce];have a:=JR (n:=n) (z:=z) (l:=l) (k0:=k0+1) (i:=i) (by simpa using h);have b:(fun j=>lE n (j+1+k0))=fun j=>lE n (j+(k0+1)):=by{funext j;congr 1;omega};rw[b];rw[show((i+1+k0:Nat):Int)=((i+(k0+1):Nat):Int) by omega];have c:(5*(((i+(k0+1):Nat):Int)+1)==5*(((0+k0:Nat):Int)+1))=false:=w_;rw[qcV,<-a];simp only[aF];unfold jy;rw[qbv];have:JK [.i (5*(((i+(k0+1):Nat):Int)+1))] ((lE n (0+k0) x).take 1)=false:=by{simp only[lE,qbl,qbo,JK,c,Bool.false_and]};rw[this]
theorem Um{z:List PV}(b:v<=l.length)(h:i<v):aF.xJ 1 (lL l n v) [.i (5*((i:Int)+1))] z=.i (BZ l n (5*((i:Int)+1))):=by have a:i<(l.take v).length:=w_;have:=JR (n:=n) (z:=z) (l:=l.take v) (k0:=0) a;rw[JQ o_];simpa[qv]using this
theorem JU{n:Int}:∀{l:List Item} {k0 i:Nat} (h:l.length<=i),aF.yU 1 (l.mapIdx fun j=>lE n (j+k0)) [.i (5*(((i+k0:Nat):Int)+1))]=false
|[],k0,i,h=>rfl
|x::l,k0,0,h=>by simp at h
|x::l,k0,i+1,h=>by rw[qce];have b:=JU (n:=n) (l:=l) (k0:=k0+1) (i:=i) (by simpa using h);have c:(fun j=>lE n (j+1+k0))=fun j=>lE n (j+(k0+1)):=by{funext j;congr 1;omega};rw[c];rw[show((i+1+k0:Nat):Int)=((i+(k0+1):Nat):Int) by omega];have d:(5*(((i+(k0+1):Nat):Int)+1)==5*(((0+k0:Nat):Int)+1))=false:=w_;show dQ _ _ _=false;have a:dQ _ _ _=false:=b;unfold dQ at a ⊢;rw[qdE,a];simp only[lE,qbl,qbo,JK,d,Bool.false_and,Bool.false_or]
theorem Un(a:v<l.length):aF.HS 1 (lL l n v) [.i (5*((v:Int)+1))] [.i (l[v].rk%n)]=lL l n (v+1):=by have b:=JU (n:=n) (l:=l.take v) (k0:=0) (i:=v) w_;have c:dQ 1 (lL l n v) [.i (5*((v:Int)+1))]=false:=b;show(match dQ 1 (lL l n v) [.i (5*((v:Int)+1))]with|true=>_|false=>_)=_;rw[c,Hz a];rfl
theorem KK(h:v<l.length):fU l calls (v+1)=fU l calls v++[kX calls v l[v]]:=by unfold fU;rw[qan h,qdh];simp only[qaT,qce,List.mapIdx_nil];rw[show 0+min v l.length=v by omega]
theorem o9(h:v<=l.length):(fU l calls v).length=v:=by unfold fU;rw[List.length_mapIdx,qaT];omega
theorem Ch(h:b∈fU l calls v):∃i,∃h:i<l.length,i<v/\b=kX calls i l[i]:=by obtain⟨i,c,rfl⟩:=qaI h;have a:=c;unfold fU at a;rw[List.length_mapIdx,qaT]at a;refine⟨i,o_,o_,?_⟩;simp only[fU,qc0,qcH]
theorem Eh{x:Item}(a:BM x)(b:2<=calls/\calls<=6)(c:i<2^20):og (kX calls i x):=by obtain⟨d,e,f,g,h,j,k,l⟩:=a;have m:0<=x.load%(calls-1):=qbb _ o_;have n:x.load%(calls-1)<calls-1:=qaY _ o_;have o:0<=x.stay%(calls-1-x.load%(calls-1)):=qbb _ o_;have p:x.stay%(calls-1-x.load%(calls-1))<calls-1-x.load%(calls-1):=qaY _ o_;unfold og kX Lc;dsimp only;refine⟨?_,⟨o_,o_⟩,⟨o_,o_⟩,⟨o_,o_⟩,⟨o_,o_⟩,⟨o_,o_⟩⟩;split<;>omega
section
variable {boxes:List bw}
theorem Ei{home:Int->Int}{k e:Int}{l:List aH}:∀{n:Nat},iI cl vl boxes home k l n=.inr e->∃b∈boxes,b.id=e
|0,h=>by simp[iI]at h
|n+1,h=>by unfold iI at h;split at h;{rename_i d b a c;unfold pU at h;split at h;{cases h};split at h;{cases h};exact⟨b,qbE c,qdz h⟩};{cases h};rename_i f a;rw[<-qdz h];exact Ei a
theorem xu{home:Int->Int}{e:Int}:∀{k:Nat},fj cl vl boxes home k=.inr e->∃b∈boxes,b.id=e
|0,h=>by simp[fj]at h
|k+1,h=>by unfold fj at h;split at h;{split at h;{cases h};rename_i a h2;rw[<-qdz h];exact Ei h2};rename_i a h2;rw[<-qdz h];exact xu h2
theorem Mt{calls:Nat}(h:(xF cl vl boxes home calls).2≠0):∃b∈boxes,b.id=(xF cl vl boxes home calls).2:=by unfold xF at h ⊢;cases hs:fj cl vl boxes home calls with|inl L=>rw[hs]at h;exact absurd rfl h|inr e=>exact xu hs
end
noncomputable def lJ(cl:List aL)(vl:List bz)(home:Int->Int)(calls:Nat)(boxes:List bw):Nat->List bw
 |0=>boxes
 |q+1=>(lJ cl vl home calls boxes q).filter fun b=>decide (b.id≠(xF cl vl (lJ cl vl home calls boxes q) home calls).2)
section
variable {calls:Nat} {boxes:List bw}
theorem En:∀{q:Nat},(lJ cl vl home calls boxes q).Sublist boxes
|0=>List.Sublist.refl _
|q+1=>List.Sublist.trans qcw (En (q:=q))
theorem xv{α:Type}{p:α->Bool}:∀{l:List α} {x:α},x∈l->p x=false->(l.filter p).length<l.length
|y::l,x,a,b=>by rcases qam.1 a with rfl|a;{rw[qcp,b];have:=qbB p l;simp;omega};have:=xv a b;rw[qcp];split;{simp only[qaq];omega};simp only[qaq];omega
theorem Eo:∀{q:Nat},(∀k,k<q->(xF cl vl (lJ cl vl home calls boxes k) home calls).2≠0)->(lJ cl vl home calls boxes q).length+q<=boxes.length
|0,_=>by simp[lJ]
|q+1,h=>by have d:=Eo (q:=q) (fun k e=>h k o_);obtain⟨b,a,c⟩:=Mt (h q o_);have:=xv (p:=fun b=>decide (b.id≠(xF cl vl (lJ cl vl home calls boxes q) home calls).2)) a (by simp[c]);rw[lJ];omega
theorem BU:∀{q:Nat},lJ cl vl home calls (boxes.filter fun b=>decide (b.id≠(xF cl vl boxes home calls).2)) q=lJ cl vl home calls boxes (q+1)
|0=>rfl
|q+1=>by rw[lJ,BU (q:=q)];rfl
end
theorem JZ{cl:List aL}{vl:List bz}{home:Int->Int}{calls:Nat}:∀{q n:Nat} {boxes:List bw},(∀k,k<q->(xF cl vl (lJ cl vl home calls boxes k) home calls).2≠0)->(xF cl vl (lJ cl vl home calls boxes q) home calls).2=0->q<n->rounds cl vl home calls n boxes=(lJ cl vl home calls boxes q,(xF cl vl (lJ cl vl home calls boxes q) home calls).1)
|0,n+1,boxes,_,h,_=>by unfold rounds;rw[qao (show(xF cl vl boxes home calls).2=0 from h)];rfl
|q+1,n+1,boxes,a,h,d=>by have c:=a 0 o_;unfold rounds;rw[qai (show ¬(xF cl vl boxes home calls).2=0 from c)];have:=JZ (cl:=cl) (vl:=vl) (home:=home) (calls:=calls) (q:=q) (n:=n) (boxes:=boxes.filter fun b=>decide (b.id≠(xF cl vl boxes home calls).2)) (fun k e=>by rw[BU];exact a (k+1) o_) (by rw[BU];exact h) o_;rw[this,BU]
def B1:List B_:=[[67,83,81,85,51,48,53,52,51,56,51],[65,65,65,85,48,48,48,48,48,48,55],[65,65,65,85,48,48,48,48,48,49,50],[65,65,65,85,49,48,48,48,48,48,49],[65,65,65,85,48,48,48,48,49,48,48]]
def Ez:List B_:=[[78,76,82,84,77],[68,69,72,65,77],[83,69,71,79,84],[71,66,70,88,84],[70,82,76,69,72],[66,69,65,78,82]]
def m8s(l:List Int):R_:=l.map fun n=>[.u n]
def n7(more:List Int)(i:Nat)(b:bw):bw:=
 if i<more.length then
  {b with
       cls:=more.getD i 0%10,cK:=aF.eq (aF.bits .and .u8 (aF.shr .u8 (more.getD i 0) 4) 1) 1,
       number:=if aF.eq (aF.bits .and .u8 (aF.shr .u8 (more.getD i 0) 5) 1) 1=true then B1.getD (i%5) []else b.number}
 else b
noncomputable def fG(a:List bw)(b:bw)(k:Nat):bw:=if ∃x∈a.take k,x.number=b.number then{b with number:=[]}else b
noncomputable def lP(more:List Int)(B:List bw):Nat->List bw
 |0=>[]
 |v+1=>match B[v]? with
  |some b=>lP more B v++[fG (lP more B v) (n7 more v b) v]
  |none=>lP more B v
theorem zK{more:List Int}{B:List bw}(h:v<B.length):lP more B (v+1)=lP more B v++[fG (lP more B v) (n7 more v B[v]) v]:=by rw[lP,qag h]
theorem abY{more:List Int}{B:List bw}:∀{v:Nat},v<=B.length->(lP more B v).length=v
|0,_=>rfl
|v+1,h=>by rw[zK o_,qal,abY o_];rfl
theorem pd{prev:List bw}{k:Nat}(h:k<prev.length):fG prev b (k+1)=if prev[k].number=(fG prev b k).number then{fG prev b k with number:=[]}else fG prev b k:=by have e:(∃x∈prev.take (k+1),x.number=b.number)↔(∃x∈prev.take k,x.number=b.number)\/prev[k].number=b.number:=by{rw[qan h];constructor;all_goals grind};unfold fG;by_cases a:∃x∈prev.take k,x.number=b.number;all_goals grind
theorem pg:fG a b 0=b:=by unfold fG;rw[qai s_]
def zL(i:Nat):cT:=⟨Ez.getD i [],1000*((i:Int)+1),0⟩
def gB(v:Nat):List cT:=(List.range v).map zL
theorem KM:gB (v+1)=gB v++[zL v]:=by unfold gB;rw[qcy,qaX];rfl
theorem fT:(gB v).length=v:=by simp[gB]
theorem Uo{c:List bw}{f:bw}{d:Nat}{e:List PV}(h:a.length=v)(g:jL d e b.enc=f.enc):aF.Gt ((a++b::c).map bw.enc) (Int.ofNat v) d e=(a++f::c).map bw.enc:=by show((a++b::c).map bw.enc).set v (jL d e (((a++b::c).map bw.enc).getD v []))=_;grind
theorem HA{P:Program}{G:Nat->Option (List PV)}{f:FuncId}{ps qs:List PV}{rows sp:R_}{a:List (Nat×R_)}{res:AV}(g:∀{S:Nat->Prop} {w:World} {v:Value},aD S w (.sl rows sp) v->aD S w (.sl rows []) v)(h:oQ P G f (qs++.sl rows []::ps) a res):oQ P G f (qs++.sl rows sp::ps) a res:=by intro S w b d e c;refine h S w b d e ?_;clear h;induction qs generalizing b with|nil=>simp only[qbi,aM]at c ⊢;grind|cons q qs i=>simp only[qaN,aM]at c ⊢;grind
theorem KN{size:Int}{c:Nat}{x:aL}(h:x.dv<=5):(l9 size c x).length<=10:=by have d:(fk size).length<=2:=by{unfold fk;split<;>(try split)<;>simp};have:∀l:List Nat,(l.flatMap fun t:Nat=>(fk size).map fun h=>(⟨(c:Int),(t:Int),h⟩:Slot)).length<=2*l.length:=fun l=>by{induction l with|nil=>simp|cons a l e=>simp only[qdo,qal,qap,qaq];omega};have b:=this (List.range x.dv.toNat);rw[List.length_range]at b;unfold l9;omega
theorem Ox(b:∀x∈cl,x.dv<=5)(hl:cl.length<=12)(size:Int):(slotsOf cl size).length<2^32:=by have:∀(l:List aL) (f:Nat->Nat),(∀x∈l,x.dv<=5)->((l.mapIdx fun i x=>l9 size (f i) x).flatten).length<=10*l.length:=fun l=>by{induction l with|nil=>intro f _;simp|cons a l d=>intro f h;rw[qce];simp only[qa3,qal,qaq];have g:=KN (size:=size) (c:=f 0) (h a (qaz ..));have j:=d (fun i=>f (i+1)) (fun x e=>h x (qaE _ e));omega};have h:=this cl id b;have k:(slotsOf cl size).length<=10*cl.length:=h;omega
theorem EA{cl:List aL}{vl:List bz}{home:Int->Int}{calls:Nat}:∀{n:Nat} {boxes:List bw},(rounds cl vl home calls n boxes).1.length<=boxes.length
|0,boxes=>by simp[rounds]
|n+1,boxes=>by unfold rounds;split;{exact qak _};exact qbr (EA (n:=n)) (qbB _ _)
end
section
open Go Go.Am Go.Proofs
variable {B:Nat} {ps:List PV}
abbrev Cl:List Sh:=[.i .u8,.i .u8,.i .u8,.b]
abbrev Kv:List Sh:=[.i .u8,.i .u8,.i .u8,.i .u8,.b,.b]
theorem amq{n:Int}(h:(Lit.int .u32 n).wf=true):0<=n/\n<2^32:=by simp only[Lit.wf,qaG,qae]at h;have a:IntKind.u32.min=0:=r_;have b:IntKind.u32.max=4294967295:=r_;rw[a,b]at h;omega
theorem placeOf(h:iR B Cl ps):∃x:Place,ps=x.enc/\xw x:=by obtain⟨e,_,rfl,b,h⟩:=dx h;obtain⟨f,_,rfl,c,h⟩:=dx h;obtain⟨g,_,rfl,d,h⟩:=dx h;obtain⟨i,_,rfl,a⟩:=Eu h;replace h:=a;obtain rfl:=kO h;exact⟨⟨e,f,g,i⟩,rfl,(aaJ b).1,(aaJ b).2,(aaJ c).1,(aaJ c).2,(aaJ d).1,(aaJ d).2⟩
theorem Yz(h:iR B Kv ps):∃x:Item,ps=x.enc/\BM x:=by obtain⟨g,_,rfl,c,h⟩:=dx h;obtain⟨i,_,rfl,d,h⟩:=dx h;obtain⟨j,_,rfl,e,h⟩:=dx h;obtain⟨k,_,rfl,f,h⟩:=dx h;obtain⟨l,_,rfl,a⟩:=Eu h;replace h:=a;obtain⟨m,_,rfl,b⟩:=Eu h;replace h:=b;obtain rfl:=kO h;exact⟨⟨g,i,j,k,l,m⟩,rfl,(aaJ c).1,(aaJ c).2,(aaJ d).1,(aaJ d).2,(aaJ e).1,(aaJ e).2,(aaJ f).1,(aaJ f).2⟩
theorem placesOf(h:iR 1048576 [.l Cl] ps):∃(rows b:R_) (l:List Place),ps=[.sl rows b]/\rows=l.map Place.enc/\l.length<2^32/\∀x∈l,xw x:=by obtain⟨s,a,_,rfl,c,hs,h⟩:=qe h;obtain rfl:=kO h;obtain⟨l,rfl,hl⟩:=rowsOf (fun ps=>placeOf) hs;simp only[qap]at c;exact⟨_,a,l,rfl,rfl,o_,hl⟩
theorem UW(h:iR 1048576 [.l Kv] ps):∃(rows b:R_) (l:List Item),ps=[.sl rows b]/\rows=l.map Item.enc/\l.length<2^32/\∀x∈l,BM x:=by obtain⟨s,a,_,rfl,c,hs,h⟩:=qe h;obtain rfl:=kO h;obtain⟨l,rfl,hl⟩:=rowsOf (fun ps=>Yz) hs;simp only[qap]at c;exact⟨_,a,l,rfl,rfl,o_,hl⟩
theorem anB(h:iR B [.i .u32] ps):∃n,ps=[.int .u32 n]/\0<=n/\n<2^32:=by obtain⟨n,_,rfl,w,h⟩:=dx h;obtain rfl:=kO h;exact⟨n,rfl,amq w⟩
theorem Zz(h:iR B [.i .u8] ps):∃n,ps=[.u n]/\0<=n/\n<256:=by obtain⟨n,_,rfl,w,h⟩:=dx h;obtain rfl:=kO h;exact⟨n,rfl,aaJ w⟩
theorem byteOf(h:iR B [.i .u8] ps):∃x:Int,ps=[PV.int .u8 x]/\(0<=x/\x<256):=by obtain⟨n,_,rfl,w,h⟩:=dx h;obtain rfl:=kO h;exact⟨n,rfl,aaJ w⟩
theorem anC(h:iR 1048576 [.l [.i .u8]] ps):∃(rows b:R_) (l:List Int),ps=[.sl rows b]/\rows=m8s l/\l.length<2^32/\∀x∈l,0<=x/\x<256:=by obtain⟨s,a,_,rfl,c,hs,h⟩:=qe h;obtain rfl:=kO h;obtain⟨l,rfl,hl⟩:=rowsOf (enc:=fun n:Int=>[PV.int .u8 n]) (Q:=fun x=>0<=x/\x<256) (fun ps=>byteOf) hs;simp only[qap]at c;exact⟨_,a,l,rfl,rfl,o_,hl⟩
end
section
open Go Go.Am
open Classical
variable {cl:List aL} {vl:List bz} {c:bw} {l:List aH} {v:Nat} {x:aH}
theorem F4(p:Place):fX (r9 p):=by have b:=qbb p.bay (by decide:(5:Int)≠0);have c:=qaY p.bay (by decide:(0:Int)<5);have d:=qbb p.row (by decide:(5:Int)≠0);have e:=qaY p.row (by decide:(0:Int)<5);have f:=qbb p.dv (by decide:(4:Int)≠0);have g:=qaY p.dv (by decide:(0:Int)<4);refine⟨fun i a=>absurd a (by simp[r9]),?_⟩;simp only[In,r9];grind
theorem KO:fX BX:=by refine⟨fun i a=>absurd a (by simp[BX]),?_⟩;simp only[In,BX];omega
def MJ(c:aL):Prop:=fX c/\c.ko=0/\c.dv<=5/\c.cq=[]/\c.psp=[]
theorem zX(a:List aL)(p:Place):nQ a p=a\/(nQ a p=a++[r9 p]/\∀c∈a,Je c (r9 p)):=by unfold nQ;split;{exact .inl rfl};rename_i h;refine .inr ⟨rfl,fun c b d=>h ⟨c,b,?_⟩⟩;exact d
theorem Gh:∀{l:List Place} {d:List aL},(∀c∈d,MJ c)/\d.Pairwise Je->(∀c∈l.foldl nQ d,MJ c)/\(l.foldl nQ d).Pairwise Je
|[],d,h=>h
|p::l,d,h=>by refine Gh (l:=l) ?_;rcases zX d p with e|⟨e,i⟩;{rw[e];exact h};rw[e];refine⟨fun c f=>?_,qcs.2 ⟨h.2,qcD _ _,fun a j b g=>?_⟩⟩;{rcases qav.1 f with f|f;{exact h.1 c f};rw[qaO]at f;rw[f];exact⟨F4 p,rfl,by have:=qaY p.dv (by decide:(0:Int)<4);show 2+p.dv%4<=5;omega,rfl,rfl⟩};rw[qaO]at g;rw[g];exact i a j
theorem GQ(l:List Place):(∀c∈ie l,MJ c)/\(ie l).Pairwise Je:=by unfold ie;split;{refine⟨fun c a=>?_,qcD _ _⟩;rw[qaO]at a;rw[a];exact⟨KO,rfl,d_,rfl,rfl⟩};exact Gh ⟨fun c a=>by simp at a,List.Pairwise.nil⟩
theorem agz:∀{l:List Place} {cs:List aL},(l.foldl nQ cs).length<=cs.length+l.length
|[],cs=>s_
|p::l,cs=>by have:=agz (l:=l) (cs:=nQ cs p);rcases zX cs p with e|⟨e,-⟩;{rw[e]at this;simp only[qbu,qaq];rw[e];omega};rw[e]at this;simp only[qbu,qaq];rw[e];simp at this;omega
theorem Kg(l:List Place):1<=(ie l).length/\(ie l).length<=12:=by unfold ie;split;{decide};rename_i h;refine⟨qbm.2 h,?_⟩;have:=agz (l:=l.take (min l.length 12)) (cs:=[]);simp only[qaD,qaT]at this;unfold acH;omega
def YQ(x:bz)(v:Nat):Prop:=0<=x.bay/\x.bay<v/\(x.rows=[0,1]\/x.rows=[2,3,4])
def YR(a b:bz):Prop:=a.bay=b.bay->∀r,r∈b.rows->r∉a.rows
theorem MK{covers:Int}:(∀x∈se covers v,x.bay=(v:Int)/\(x.rows=[0,1]\/x.rows=[2,3,4]))/\(se covers v).Pairwise YR/\(se covers v).length<=2:=by unfold se;split<;>split;all_goals simp[YR]
theorem B3{covers:Int}:∀{v:Nat},(∀x∈cJ covers v,YQ x v)/\(cJ covers v).Pairwise YR/\(cJ covers v).length<=2*v
|0=>⟨fun x d=>by simp[cJ]at d,List.Pairwise.nil,by simp[cJ]⟩
|v+1=>by obtain⟨h1,h2,i⟩:=B3 (covers:=covers) (v:=v);obtain⟨e,f,j⟩:=MK (covers:=covers) (v:=v);rw[cJ];refine⟨fun x d=>?_,qcs.2 ⟨h2,f,fun a g b h=>?_⟩,w_⟩;{rcases qav.1 d with d|d;{obtain⟨a,b,c⟩:=h1 x d;exact⟨a,o_,c⟩};obtain⟨a,c⟩:=e x d;exact⟨o_,o_,c⟩};intro k;have:=(h1 a g).2.1;have:=(e b h).1;omega
theorem afc{x:bz}(h:YQ x v)(d:v<=40):iM x:=by obtain⟨c,e,b⟩:=h;refine⟨⟨c,o_⟩,?_,?_⟩;{rcases b with h|h<;>rw[h]<;>simp};intro i a;rcases b with h|h;{rw[h]at a;unfold qA;rw[h];match i,a with|0,_=>exact⟨d_,d_,.inl rfl⟩|1,_=>exact⟨d_,d_,.inr d_⟩};rw[h]at a;unfold qA;rw[h];match i,a with|0,_=>exact⟨d_,d_,.inl rfl⟩|1,_=>exact⟨d_,d_,.inr d_⟩|2,_=>exact⟨d_,d_,.inr d_⟩
theorem ad5(l:List Place)(a:Int):fo (ie l) (cJ a 5):=by obtain⟨d,e⟩:=GQ l;obtain⟨f,m⟩:=Kg l;obtain⟨g,h,n⟩:=B3 (covers:=a) (v:=5);refine⟨⟨f,o_,o_⟩,fun i b=>⟨(d _ (qaf b)).1,fun k c=>qaU.1 e k i o_ b c⟩,fun i b=>⟨afc (g _ (qaf b)) o_,fun k c j=>qaU.1 h k i o_ b c j⟩⟩
theorem afY{boxes:List bw}(hs:fo cl vl)(b:∀c∈cl,MJ c):gC cl vl boxes []:=⟨hs,fun i a=>absurd a s_,fun i a=>.inl (by rw[(b _ (qaf a)).2.1];decide)⟩
theorem afZ{boxes:List bw}(hs:fo cl vl)(a:∀c∈cl,MJ c)(h:wM cl vl boxes l):gC cl vl boxes l:=by rcases h with rfl|h;{exact afY hs a};grind
def KP(boxes a:List bw)(id:Int):Prop:=(ku boxes id).map (fun b=>(b.size,b.high))=(ku a id).map (fun b=>(b.size,b.high))
theorem ac6{boxes a:List bw}{l:List aH}(h:∀x∈l,KP boxes a x.box){rk b:Int}:∀{n:Nat},iJ boxes l rk b n=iJ a l rk b n
|0=>rfl
|n+1=>by rw[iJ,iJ,ac6 h (n:=n)];congr 1;cases d:l[n]? with|none=>rfl|some x=>have c:=h x (qbE d);unfold KP at c;dsimp only;congr 1;cases e:ku boxes x.box<;>cases f:ku a x.box<;>rw[e,f]at c<;>simp at c ⊢;unfold DM;rw[c.2]
theorem aeo{boxes a:List bw}(h:∀x∈l,KP boxes a x.box)(hs:gC cl vl boxes l):gC cl vl a l:=by obtain⟨g,j,k⟩:=hs;refine⟨g,fun i c m=>?_,fun i c=>?_⟩;{obtain⟨⟨b,n,q⟩,d,o⟩:=j i c m;refine⟨?_,d,o⟩;have e:=h _ (qaf c);unfold KP at e;rw[n]at e;cases p:ku a l[i].box with|none=>rw[p]at e;simp at e|some r=>grind};rcases k i c with f|⟨f,d⟩;{exact .inl f};refine .inr ⟨?_,?_⟩;{unfold ko at f ⊢;rw[<-ac6 h];exact f};unfold ko at d ⊢;rw[<-ac6 h];exact d
theorem af0{id:Int}(h:Gk l id):Gk (nP l x) id:=by obtain⟨y,a,rfl⟩:=h;unfold nP;rcases Int.lt_trichotomy y.box x.box with h|h|h;{exact⟨y,by simp[a,h],rfl⟩};{exact⟨x,s_,h.symm⟩};exact⟨y,by simp[a,h],rfl⟩
theorem agG:Gk (nP l x) x.box:=⟨x,by simp[nP],rfl⟩
theorem agZ{y:aH}(h:y∈nP l x):y∈l\/y=x:=by unfold nP at h;grind
section
variable {boxes:List bw}
def aep(boxes:List bw)(k:Int)(l:List aH):Prop:=∀x∈l,∃b∈boxes,b.id=x.box/\lG b k
theorem agn{k:Int}(h:aep boxes k l)(c:∃b∈boxes,b.id=x.box/\lG b k):aep boxes k (nP l x):=fun y a=>by rcases agZ a with a|rfl;{exact h y a};exact c
theorem aeq{α β:Type}{P:β->Prop}{f:β->α->β}:∀{l:List α} {b:β},(∀b a,a∈l->P b->P (f b a))->P b->P (l.foldl f b)
|[],_,_,h=>h
|a::l,b,hf,h=>aeq (l:=l) (fun b x c=>hf b x (qaE _ c)) (hf b a (qaz ..) h)
theorem afy{a:List aH}{k:Int}:∀{t:Nat},aep boxes k (pS cl vl boxes a k t)
|0=>fun x c=>by simp[pS]at c
|t+1=>by unfold pS sc;refine aeq (P:=aep boxes k) (fun l b d h=>?_) (afy (t:=t));have e:=qbf d;unfold kq;split;{split;{rename_i f;exact agn h ⟨b,e,rfl,by unfold lG;omega⟩};exact h};exact h
theorem aer{l r:List aH}{id rk:Int}:∀{s:List Slot},sf cl vl boxes l id rk s=some r->∃x,r=nP l ⟨id,x⟩
|[],h=>by simp[sf]at h
|x::s,h=>by unfold sf at h;split at h;{exact⟨x,(qa9 h).symm⟩};exact aer h
theorem ad6{l r:List aH}{id size home:Int}:∀{t:Nat},iK cl vl boxes l id size home t=some r->∃x,r=nP l ⟨id,x⟩
|0,h=>by simp[iK]at h
|t+1,h=>by unfold iK at h;split at h;{rename_i b a;rw[<-qa9 h];exact ad6 a};exact aer h
theorem afz{home:Int->Int}{k:Int}{l:List aH}(h:aep boxes k l):∀{v:Nat} {r:List aH},v<=boxes.length->iI cl vl boxes home k l v=.inl r->aep boxes k r/\∀i (d:i<v) (hl:i<boxes.length),lG boxes[i] k->Gk r boxes[i].id
|0,r,_,a=>by unfold iI at a;rw[<-qbs a];exact⟨h,fun i d=>absurd d o_⟩
|v+1,r,q,a=>by have j:v<boxes.length:=o_;cases f:iI cl vl boxes home k l v with|inr e=>rw[iI,f]at a;simp at a|inl s=>obtain⟨m,n⟩:=afz h o_ f;rw[MI j f]at a;unfold pU at a;split at a;{rename_i g;rw[<-qbs a];refine⟨m,fun i d hl b=>?_⟩;rcases qbQ i v with c|c;{exact n i c hl b};obtain rfl:i=v:=o_;rcases g with hs|hs|hs;{exact absurd b.1 o_};{exact absurd b.2 o_};exact hs};rename_i o;split at a;{rename_i t p;rw[<-qbs a];obtain⟨x,rfl⟩:=ad6 p;refine⟨agn m ⟨_,qaf j,rfl,?_⟩,fun i d hl b=>?_⟩;{unfold lG;constructor;{have:¬k<boxes[v].load:=fun h=>o (.inl h);omega};have:¬boxes[v].discharge<=k:=fun h=>o (.inr (.inl h));omega};rcases qbQ i v with c|c;{exact af0 (n i c hl b)};obtain rfl:i=v:=o_;exact agG};cases a
theorem aeU{home:Int->Int}:∀{k:Nat} {L:List (List aH)},fj cl vl boxes home k=.inl L->∀j (a:j<L.length),aep boxes (j:Int) L[j]/\∀b∈boxes,lG b (j:Int)->Gk L[j] b.id
|0,L,h,j,a=>by unfold fj at h;rw[<-qbs h]at a;simp at a
|k+1,L,h,j,a=>by unfold fj at h;split at h;{rename_i g h1;split at h;{rename_i l h2;have c:=(aaD h1).1;have e:=(qbs h).symm;subst e;rcases qbQ j g.length with d|d;{rw[qbC d];exact aeU h1 j d};have f:j=g.length:=by{simp at a;omega};subst f;rw[qbz (qak _)];simp only[Nat.sub_self,List.getElem_singleton];rw[c];unfold Kj at h2;obtain⟨n,o⟩:=afz afy (qak _) h2;refine⟨n,fun b p q=>?_⟩;obtain⟨i,m,rfl⟩:=qaI p;exact o i m m q};cases h};cases h
end
theorem aes:∀{a b:List Int},a.Pairwise (·<·)->b.Pairwise (·<·)->(∀x,x∈a↔x∈b)->a=b
|[],[],_,_,_=>rfl
|[],y::b,_,_,h=>by have:=(h y).2 (qaz ..);simp at this
|x::a,[],_,_,h=>by have:=(h x).1 (qaz ..);simp at this
|x::a,y::b,k,l,h=>by obtain⟨c,f⟩:=qdg.1 k;obtain⟨j,m⟩:=qdg.1 l;have g:x=y:=by{rcases qam.1 ((h x).1 (qaz ..))with e|e;{exact e};rcases qam.1 ((h y).2 (qaz ..))with i|i;{exact i.symm};have:=j x e;have:=c y i;omega};subst g;rw[aes f m (fun z=>?_)];constructor;{intro d;rcases qam.1 ((h z).1 (qaE _ d))with e|e;{have:=c z d;omega};exact e};intro d;rcases qam.1 ((h z).2 (qaE _ d))with e|e;{have:=j z d;omega};exact e
def O5(b c:bw):Prop:=c.id=b.id/\c.size=b.size/\c.high=b.high/\c.cD=b.cD/\c.load=b.load/\c.discharge=b.discharge/\(c.cls=b.cls\/(0<=c.cls/\c.cls<=9))/\(c.number=b.number\/c.number=[]\/c.number∈B1)
theorem ML(i:Nat):B1.getD (i%5) []∈B1:=by have h:i%5<B1.length:=by{have:=Nat.mod_lt i (by decide:0<5);exact this};rw[List.getD_eq_getElem?_getD,qag h];exact qaf h
theorem K0(more:List Int)(i:Nat)(b:bw):O5 b (n7 more i b):=by unfold n7;split;{refine⟨rfl,rfl,rfl,rfl,rfl,rfl,.inr ⟨qbb _ d_,by have:=qaY (more.getD i 0) (by decide:(0:Int)<10);show more.getD i 0%10<=9;omega⟩,?_⟩;dsimp only;split;{exact .inr (.inr (ML i))};exact .inl rfl};exact⟨rfl,rfl,rfl,rfl,rfl,rfl,.inl rfl,.inl rfl⟩
theorem Mw{b:bw}(h:O5 b c)(a:List bw)(k:Nat):O5 b (fG a c k):=by unfold fG;split;{obtain⟨d,e,f,g,i,j,l,m⟩:=h;exact⟨d,e,f,g,i,j,l,.inr (.inl rfl)⟩};exact h
theorem Ha{more:List Int}{B:List bw}:∀{v:Nat} (b:v<=B.length) (i:Nat) (a:i<(lP more B v).length),O5 (B[i]'(by rw[abY b]at a;omega)) ((lP more B v)[i])
|0,_,i,a=>by simp[lP]at a
|v+1,b,i,a=>by have e:=zK (more:=more) (B:=B) (v:=v) o_;have hl:(lP more B v).length=v:=abY o_;rcases qbQ i v with h|h;{have:(lP more B (v+1))[i]=(lP more B v)[i]' o_:=by{simp only[e];rw[qbC o_]};rw[this];exact Ha o_ i o_};have c:i=v:=by{rw[abY b]at a;omega};subst c;have:(lP more B (i+1))[i]=fG (lP more B i) (n7 more i B[i]) i:=by{simp only[e];rw[qbz o_];simp[hl]};rw[this];exact Mw (K0 _ _ _) _ _
theorem O6{more:List Int}{B:List bw}(h:c∈lP more B B.length):∃b∈B,O5 b c:=by obtain⟨i,a,rfl⟩:=qaI h;exact⟨_,qaf _,Ha (qak _) i a⟩
theorem Ve{b:bw}(h:O5 b c)(d:og b):og c:=by obtain⟨e,f,p,g,i,j,a,q⟩:=h;obtain⟨k,r,l,m,n,o⟩:=d;unfold og;rw[e,f,g,i,j];exact⟨k,by rcases a with a|a<;>omega,l,m,n,o⟩
section
variable {boxes:List bw} {home:Int->Int}
theorem Hb:∀{k:Nat} {L:List (List aH)},fj cl vl boxes home k=.inl L->∀l∈L,l.length<=11*boxes.length
|0,L,h,l,hl=>by unfold fj at h;rw[<-qbs h]at hl;simp at hl
|k+1,L,h,l,hl=>by unfold fj at h;split at h;{rename_i a h1;split at h;{rename_i b h2;rw[<-qbs h]at hl;rcases qav.1 hl with hl|hl;{exact Hb h1 l hl};rw[qaO]at hl;rw[hl];have c:=xA h2;have d:=sk (cl:=cl) (vl:=vl) (boxes:=boxes) (was:=a.getLastD []) (k:=(k:Int)) (t:=10);omega};cases h};cases h
end
theorem Hc{cl:List aL}{vl:List bz}{home:Int->Int}{calls:Nat}:∀{n:Nat} {boxes:List bw},(rounds cl vl home calls n boxes).1.Sublist boxes
|0,boxes=>by simp[rounds]
|n+1,boxes=>by unfold rounds;split;{exact List.Sublist.refl _};exact List.Sublist.trans (Hc (n:=n)) qcw
theorem He{cl:List aL}{vl:List bz}{home:Int->Int}{calls:Nat}:∀{n:Nat} {boxes:List bw},boxes.length<n->(∀b∈boxes,b.id≠0)->fj cl vl (rounds cl vl home calls n boxes).1 home calls=.inl (rounds cl vl home calls n boxes).2
|0,boxes,h,_=>o_
|n+1,boxes,h,hid=>by unfold rounds;split;{rename_i a;unfold xF at a ⊢;cases hs:fj cl vl boxes home calls with|inl L=>rfl|inr e=>rw[hs]at a;dsimp only at a;obtain⟨b,c,d⟩:=xu hs;exact absurd (d.trans a) (hid b c)};rename_i a;obtain⟨b,c,d⟩:=Mt a;have f:=xv (p:=fun b=>decide (b.id≠(xF cl vl boxes home calls).2)) c (by simp[d]);exact He (n:=n) o_ (fun b c=>hid b (qba.1 c).1)
theorem ad7{l:List Item}{calls:Int}:(fU l calls v).Pairwise (fun a b=>a.id<b.id):=by refine qaU.2 fun i j c d e=>?_;simp only[fU,qc0,kX];omega
end
open Go Go.Am Go.Proofs
open Classical
attribute [local irreducible] Am.bp.holds bH fw bP ek
variable {mx:Int}
theorem Mu{c csp vv vsp r rsp f fsp t tsp:R_}{l1 l2 l3 l4 m1 m2 m3 m4:Int}{Y brows srows:R_}{L M:List Item}{cl:List aL}{vl:List bz}{calls n:Nat}{N Z:Int}{home:Int->Int}(hN:N=Int.ofNat calls)(wI:2<=calls/\calls<=6)(jI:c=cl.map aL.enc)(pN:vv=vl.map bz.enc)(wU:cl.length<2^20)(Hn:vl.length<2^32)(CS:∀x∈cl,x.cq.length<2^32)(AE:∀x∈vl,x.rows.length<2^16)(MB:cl≠[])(Iw:∀x∈cl,x.dv<2^32)(oa:∀size,(slotsOf cl size).length<2^32)(hi:Y=L.map Item.enc)(xR:∀x∈L,BM x)(hl:L.length<2^32)(hn:n=min L.length 12)(hM:M=L.take n)(Mv:Z=(cl.length:Int))(DT:home=BZ M Z)(hB:brows=(rounds cl vl home calls (n+1) (fU M N n)).1.map bw.enc)(hS:srows=(rounds cl vl home calls (n+1) (fU M N n)).2.map Tu): oQ Tryz.prog (GG mx) 83 [.agg [.sl c csp,.sl vv vsp,.i l1,.i l2,.i l3,.i l4,.sl r rsp,.sl f fsp,.sl t tsp,.i m1,.i m2,.i m3,.i m4],.sl Y [],.i N,.i 12] [(9,brows)] (one? [.c8 0 0,.agg [.pv (.sl srows []),.full []]]):=by have ad:Y.length=L.length:=by{simp[hi]};have Zk:n<=L.length:=o_;have aK:n<=12:=o_;have aM:M.length=n:=by{rw[hM];simp;omega};obtain⟨mr,MA⟩:∃mr,mr=M.map Item.enc:=⟨_,rfl⟩;refine BO (rs:=[.c8 0 0,.agg [.pv (.sl srows []),.full []]]) mixed Yj (iC rfl) (az (F:=fun A=>bH (CC Tryz.prog (GG mx)) A (Hf Tryz.prog (GG mx)) [.code Zu] (ri [.tmp 8,.cell 9 (some 2)] [(9,brows)] [.c8 0 0,.agg [.pv (.sl srows []),.full []]]) .normal (Am.start 120 [.agg [.sl c csp,.sl vv vsp,.i l1,.i l2,.i l3,.i l4,.sl r rsp,.sl f fsp,.sl t tsp,.i m1,.i m2,.i m3,.i m4],.sl Y [],.i N,.i 12])) ?_);intro _ _ _ _ _ _ _ QR;(iterate 41 intro _);intro Uh;(iterate 24 intro _);intro zu Vu;(iterate 13 intro _);intro Kc _ _ _ _ kK _ _ _ _ _ _ Ab _ tV Ci _ yy J5 eo _ _ _ oZ sg uP l8 dF _ bX cP cY K aw g O aI aQ aJ aP zI aU aV bC bA ag aC;refine gK ?_;have Cu:QR (l8 Y) 12=Int.ofNat n:=by{rw[<-Uh,<-ag,hn];simp[aF,ad];omega};rw[Cu];refine ae (by rw[<-kK];simp[aF];omega) ?_;rw[show eo Y 0 (Int.ofNat n)=mr by rw[<-uP,MA,hM,hi];simp[aF,qdj]];refine gK ?_;have aR:0<cl.length:=qbm.2 MB;have Su:c.length=cl.length:=by{simp[jI]};obtain⟨m,s⟩:∃m:Nat->List bw,m=fun v=>fU M N v:=⟨_,rfl⟩;obtain⟨HT,w⟩:∃HT:Nat->R_,HT=fun v=>lL M Z v:=⟨_,rfl⟩;have ah:m 0=[]:=by{rw[s];rfl};have ai:HT 0=[]:=by{rw[w];rfl};refine jJ (fun v σ_=>(((σ_.tidy [2,4,8,9,10,11,26,27,28] (nn [4,4,4,9,0,10,9,20])).put (some 28) (.pv (.i (Int.ofNat v)))).aq 10 (.rows 9 ((m v).map bw.enc) 0)).aq 20 (.map false false 1 (HT v))) n (fun _=>True) (by rw[ah,ai];exact Fg.ca [2,4,8,9,10,11,26,27,28] (nn [4,4,4,9,0,10,9,20]) rfl c_) ?_;intro v hv hk;(try dsimp only);generalize jb:(m v).map bw.enc=br;generalize z:HT v=hr;refine ej ?_;refine bp.af (fun hd=>?_) (fun hd=>?_);{have P:v<M.length:=by{rw[<-aC,<-ag]at hd;simp[MA]at hd;omega};obtain⟨gI,bj⟩:∃x,M[v]=x:=⟨_,rfl⟩;have bG:aJ (Int.ofNat v) mr 6:=by{rw[<-aP,MA];exact aO (enc:=Item.enc) P rfl};obtain⟨⟨Q,G,R,S,zU,Ut⟩,bW⟩:∃y,gI=y:=⟨_,rfl⟩;subst bW;have aW:aI mr (Int.ofNat v)=[.u Q,.u G,.u R,.u S,.bool zU,.bool Ut]:=by{rw[<-aQ,MA,aN (enc:=Item.enc) P,bj];rfl};refine aY ?_;refine ae bG ?_;rw[aW];have Ms:=xR _ (qbf (by rw[<-hM];exact qaf P));rw[bj]at Ms;have Zb:m (v+1)=m v++[kX N v M[v]]:=by{rw[s];exact KK P};rw[bj]at Zb;have aj:=Un (n:=Z) P;rw[bj]at aj;obtain⟨b1,b2,b3,b4,b5,b6,b7,b8⟩:0<=Q/\Q<256/\0<=G/\G<256/\0<=R/\R<256/\0<=S/\S<256:=Ms;have ay:N=(calls:Int):=hN;have zc:∀x y,K x y=x+y:=fun _ _=>by{rw[<-aw];rfl};have fu:∀x y,cP x y=x-y:=fun _ _=>by{rw[<-cY];rfl};have H:∀x y,tV x y=x*y:=fun _ _=>by{rw[<-Ci];rfl};have aS:∀x y,0<=x->yy x y=x/y:=fun _ _ h=>by{rw[<-J5];exact qbj h};have Vp:∀x y,0<=x->oZ x y=x%y:=fun _ _ h=>by{rw[<-sg];exact qa8 h};have j:∀x,-9223372036854775808<=x->x<9223372036854775808->g .i64 x=x:=fun _ I T=>by{rw[<-O];exact dy I T};have YG:∀x,0<=x->x<256->g .u8 x=x:=fun _ I T=>by{rw[<-O];exact Zx I T};obtain⟨N1,ak⟩:∃x,x=N-1:=⟨_,rfl⟩;obtain⟨o,CL⟩:∃x,x=R%N1:=⟨_,rfl⟩;obtain⟨dn,Dp⟩:∃x,x=N1-o:=⟨_,rfl⟩;obtain⟨ds,JC⟩:∃x,x=S%dn:=⟨_,rfl⟩;obtain⟨di,vn⟩:∃x,x=o+1+ds:=⟨_,rfl⟩;obtain⟨i5,U⟩:∃x:Int,x=5*((v:Int)+1):=⟨_,rfl⟩;obtain⟨ki,Y7⟩:∃x,x=1000+100*G:=⟨_,rfl⟩;obtain⟨hm,ao⟩:∃x,x=Q%Z:=⟨_,rfl⟩;have aX:0<=o:=by{rw[CL];exact qbb _ o_};have aZ:o<N1:=by{rw[CL];exact qaY _ o_};have a1:0<=ds:=by{rw[JC];exact qbb _ o_};have a6:ds<dn:=by{rw[JC];exact qaY _ o_};have w1:g .i64 (cP N 1)=N1:=by{rw[fu,j _ o_ o_,ak]};obtain⟨v1,Ma⟩:∃x:Int,x=(v:Int)+1:=⟨_,rfl⟩;have w2:g .i64 (K (Int.ofNat v) 1)=v1:=by{rw[zc,Ma];exact j ((v:Int)+1) o_ o_};have w3:g .i64 (tV 5 v1)=i5:=by{rw[H,j _ o_ o_,U,Ma]};have w4:g .i64 (K 1000 (g .i64 (tV 100 (g .i64 G))))=ki:=by{rw[j G o_ o_,H,j (100*G) o_ o_,zc,j _ o_ o_,Y7]};have w5:oZ (g .i64 R) N1=o:=by{rw[j R o_ o_,Vp _ _ o_,CL]};have w6:g .i64 (cP N1 o)=dn:=by{rw[fu,j _ o_ o_,Dp]};have w7:oZ (g .i64 S) dn=ds:=by{rw[j S o_ o_,Vp _ _ o_,JC]};have w8:g .i64 (K (g .i64 (K o 1)) ds)=di:=by{rw[show g .i64 (K o 1)=o+1 by rw[zc];exact j _ o_ o_,zc,j _ o_ o_,vn]};have w9:oZ (g .i64 Q) (l8 c)=hm:=by{rw[j Q o_ o_,Vp _ _ o_,ao,Mv,<-ag,X5,Su]};have aA:kX N v ⟨Q,G,R,S,zU,Ut⟩=⟨i5,[],if zU then 20 else 40,if zU then false else Ut,ki,o,di,0,false⟩:=by{unfold kX;dsimp only;rw[<-ak,<-CL,<-Dp,<-JC,<-vn,<-U,<-Y7]};rw[aA]at Zb;have YO:(m v).length=v:=by{rw[s];exact o9 o_};refine gK ?_;rw[w1,w2,w3,w4];refine ae (by rw[<-Ab];simp;omega) ?_;rw[w5];refine gK ?_;rw[w1,w6];refine ae (by rw[<-Ab];simp;omega) ?_;rw[w7];refine gK ?_;cases zU;all_goals refine aY ?_;rw[w8];refine ae (by rw[<-Ab,<-ag];simp[Su];omega) ?_;rw[w9];refine gK ?_;refine ae (by rw[<-Kc,<-z,w];exact MW) ?_;refine gK ?_;refine ae (by rw[<-dF,<-jb];exact⟨w_,w_,s_,Kh (enc:=bw.enc) (fun _=>rfl) _⟩) ?_;refine gK ?_;refine aB ⟨o_,trivial,?_⟩;rw[wS O aw (v:=v) o_];rw[show zu 1 hr [.i i5] [.i hm]=HT (v+1) by rw[<-Vu,<-z,w,U,ao];exact aj];rw[Zb,qaX,jb,<-bX];exact Fg.ca [2,4,8,9,10,11,26,27,28] (nn [4,4,4,9,0,10,9,20]) rfl c_};have P:v=n:=by{rw[<-aC,<-ag]at hd;simp[MA]at hd;omega};rw[P]at jb z;have YO:(m n).length=n:=by{rw[s];exact o9 o_};obtain⟨B0,J⟩:∃B0,B0=m n:=⟨_,rfl⟩;obtain⟨a,B⟩:∃a,a=fun q=>lJ cl vl home calls B0 q:=⟨_,rfl⟩;have ar:a 0=B0:=by{rw[B];rfl};have aD:br.length=n:=by{rw[<-jb,qap,YO]};refine aY ?_;refine wW rfl ?_;refine gK ?_;rw[show g .i64 (K (l8 br) 1)=Int.ofNat (n+1) by rw[<-O,<-aw,<-ag];simp only[n9,kT,X5,aD];exact dy (n:=(n:Int)+1) o_ o_];refine jJ (fun q σ_=>((σ_.tidy [2,4,8,9,10,11,85,86] (nn [4,4,4,9,0,10,9,20])).put (some 86) (.pv (.i (Int.ofNat q)))).aq 10 (.rows 9 ((a q).map bw.enc) 0)) (n+1) (fun k=>(xF cl vl (a k) home calls).2≠0) (by rw[ar,J,jb];exact Fg.ca [2,4,8,9,10,11,85,86] (nn [4,4,4,9,0,10,9,20]) rfl c_) ?_;intro q hq Zf;(try dsimp only);generalize LJ:(a q).map bw.enc=xr;have a7:(a q).length+q<=n:=by{have:=Eo (cl:=cl) (vl:=vl) (home:=home) (calls:=calls) (boxes:=B0) (q:=q) (by rw[B]at Zf;exact Zf);rw[B];rw[J,YO]at this;rw[J];exact this};refine ej ?_;refine MP ?_;refine aY ?_;obtain⟨sr,Pl⟩:∃sr,sr=(xF cl vl (a q) home calls).1.map Tu:=⟨_,rfl⟩;obtain⟨d,Ey⟩:∃x,x=(xF cl vl (a q) home calls).2:=⟨_,rfl⟩;have V:∀b∈a q,∃i,∃h:i<M.length,i<n/\b=kX N i M[i]:=fun b l=>by{rw[B]at l;have l:=En.subset l;rw[J,s]at l;exact Ch l};have au:∀b∈a q,b.id≠0:=fun b l=>by{obtain⟨i,I,T,rfl⟩:=V b l;simp only[kX];omega};have av:∀b∈a q,og b:=fun b l=>by{obtain⟨i,I,T,rfl⟩:=V b l;have ay:N=(calls:Int):=hN;exact Eh (xR _ (qbf (by rw[<-hM];exact qaf I))) o_ o_};have YP:∀b∈a q,aF.CZ [1] 1 hr [.i b.id]/\aF.xJ 1 hr [.i b.id] [.i 0]=.i (home b.id)/\0<=home b.id/\home b.id<2^32:=fun b l=>by{obtain⟨i,I,T,rfl⟩:=V b l;have e:(kX N i M[i]).id=5*((i:Int)+1):=rfl;rw[e,<-z,w,DT];refine⟨MW,Um o_ T,?_⟩;rw[JQ I];have p9:0<Z:=o_;refine⟨qbb _ o_,?_⟩;have:=qaY M[i].rk p9;omega};refine Yf (Hf.mono _ _ _ _ _ _ _ (fun v' a8 hK=>?_) (Uk (mx:=mx) (x85:=Int.ofNat (n+1)) (x86:=Int.ofNat q) hN jI pN wU Hn CS AE MB Iw LJ.symm au o_ av o_ YP oa Pl Ey));obtain⟨x,rfl,rfl,hx⟩:=hK;unfold DS;rcases hx with⟨h0,rfl⟩|⟨h0,rfl⟩;{refine gK ?_;refine MP ?_;refine aY ?_;refine ff rfl ?_;have aE:=JZ (cl:=cl) (vl:=vl) (home:=home) (calls:=calls) (q:=q) (n:=n+1) (boxes:=fU M N n) (by rw[B,J,s]at Zf;exact Zf) (by rw[B,J,s]at Ey;rw[<-Ey];exact h0) o_;rw[aE]at hB hS;rw[show srows=sr by rw[hS,Pl,B,J,s],show brows=xr by rw[hB,<-LJ,B,J,s]];exact fg (vs:=[.c8 10 0,.agg [.pv (.sl sr []),.full []]]) (t:=[]) [some 10] c_ rfl c_ rfl rfl rfl};refine gK ?_;refine Pk ?_;refine aY ?_;obtain⟨p,C⟩:∃p:Nat->List bw,p=fun u=>((a q).take u).filter fun b=>decide (b.id≠d):=⟨_,rfl⟩;have ax:p 0=[]:=by{rw[C];rfl};refine jJ (fun u σ_=>((σ_.tidy [2,4,8,9,10,11,16,17,85,86,100,101,102] (nn [4,4,4,9,0,10,6,17,2,20])).put (some 102) (.pv (.i (Int.ofNat u)))).aq 17 (.rows 9 ((p u).map bw.enc) 0)) (a q).length (fun _=>True) (by rw[ax];exact Fg.ca [2,4,8,9,10,11,16,17,85,86,100,101,102] (nn [4,4,4,9,0,10,6,17,2,20]) rfl c_) ?_;intro u hu Ze;(try dsimp only);generalize UN:(p u).map bw.enc=yr;have bd:(p u).length<=n:=by{have:=qbB (fun b:bw=>decide (b.id≠d)) ((a q).take u);rw[C];dsimp only;simp only[qaT]at this;omega};have aG:xr.length=(a q).length:=by{rw[<-LJ];simp};refine ej ?_;refine bp.af (fun he=>?_) (fun he=>?_);{obtain⟨XQ,D⟩:∃x,x=a q:=⟨_,rfl⟩;rw[<-D]at LJ aG;have W:u<XQ.length:=by{rw[<-aC,<-ag]at he;simp at he;omega};obtain⟨Ac,fv⟩:∃x,XQ[u]=x:=⟨_,rfl⟩;have gw:aJ (Int.ofNat u) xr 9:=by{rw[<-aP,LJ.symm];exact aO (enc:=bw.enc) W rfl};obtain⟨⟨Ov,JW,DV,DW,Ad,DX,JX,JY,wv⟩,jF⟩:∃y,Ac=y:=⟨_,rfl⟩;subst jF;have dV:aI xr (Int.ofNat u)=[.i Ov,.str JW,.u DV,.bool DW,.i Ad,.i DX,.i JX,.u JY,.bool wv]:=by{rw[<-aQ,LJ.symm,aN (enc:=bw.enc) W,fv];rfl};(have E:p (u+1)=if Ov≠d then p u++[⟨Ov,JW,DV,DW,Ad,DX,JX,JY,wv⟩]else p u:=by rw[C,<-D];dsimp only;rw[qan W,qb4,fv];by_cases h:Ov=d<;>simp[h]);refine aY ?_;refine ae gw ?_;refine gK ?_;rw[dV];refine aY ?_;refine bp.af (fun X=>?_) (fun X=>?_);{rw[<-aV,<-bA]at X;simp at X;rw[qao X]at E;refine aY ?_;refine ae (by rw[<-dF,<-UN];exact⟨w_,w_,s_,Kh (enc:=bw.enc) (fun _=>rfl) _⟩) ?_;refine gK ?_;refine aB ⟨by rw[<-D];exact W,trivial,?_⟩;rw[wS O aw (v:=u) o_];rw[E,qaX,UN,<-bX];exact Fg.ca [2,4,8,9,10,11,16,17,85,86,100,101,102] (nn [4,4,4,9,0,10,6,17,2,20]) rfl c_};rw[<-aV,<-bA]at X;simp at X;rw[qai (by simp[X])]at E;refine aY ?_;refine aB ⟨by rw[<-D];exact W,trivial,?_⟩;rw[wS O aw (v:=u) o_];rw[E,UN];exact Fg.ca [2,4,8,9,10,11,16,17,85,86,100,101,102] (nn [4,4,4,9,0,10,6,17,2,20]) rfl c_};have W:u=(a q).length:=by{rw[<-aC,<-ag]at he;simp at he;omega};have aH:a (q+1)=p u:=by{rw[C,W];dsimp only;rw[qbh,Ey,B];rfl};refine aY ?_;refine wW rfl ?_;refine gK ?_;refine aB ⟨o_,by rw[<-Ey];exact h0,?_⟩;rw[wS O aw (v:=q) o_];rw[aH,UN];exact Fg.ca [2,4,8,9,10,11,85,86] (nn [4,4,4,9,0,17,9,20]) rfl c_
end Go.bt
