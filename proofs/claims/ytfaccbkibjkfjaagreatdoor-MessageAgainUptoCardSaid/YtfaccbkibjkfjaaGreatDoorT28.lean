import Derived.Test.YtfaccbkibjkfjaaGreatDoorT27
import Derived.Test.YtfaccbkibjkfjaaGreatDoorT24
set_option linter.all false
set_option maxRecDepth 100000
set_option maxHeartbeats 1000000
namespace Go.bt
open Go Go.Am Go.Proofs
open Classical
variable {calls:Nat} {cl:List aL} {vl:List bz} {mx:Int}
structure afS(cl:List aL)(vl:List bz)(calls:Nat)(B2:List bw)(sl:List Stat):Prop where
 Hh:acL B2
 few:B2.length<=12
 ty:∀b∈B2,og b
 len:sl.length=calls
 sp:∀x∈sl,x.sp=[]
 sty:∀x∈sl,x.l.length<2^32/\∀y∈x.l,kL y
 oz:∀b∈B2,b.discharge<(calls:Int)
 st:∀j,j<sl.length->gC cl vl B2 (CE sl j).l/\(CE sl j).l.map (·.box)=uc B2 (Int.ofNat j) B2.length
theorem ahA{W psp X isp mrows msp rows Y Z:R_}{g:List Place}{L:List Item}{more:List Int}{covers m N:Int}(hp:W=g.map Place.enc)(Up:∀x∈g,xw x)(xT:g.length<2^32)(Tp:0<=covers/\covers<2^32)(hi:X=L.map Item.enc)(z:∀x∈L,BM x)(hl:L.length<2^32)(hm:mrows=m8s more)(A:∀x∈more,0<=x/\x<256)(C:more.length<2^32)(ZE:0<=m/\m<256)(D:cl=ie g)(E:vl=cJ covers 5)(wI:N=2+m%5)(hN:N=Int.ofNat calls)(iv:rows=cl.map aL.enc)(rI:Y=vl.map bz.enc)(wO:Z=(gB calls).map cT.enc): ∃o sl a d,afS cl vl calls o sl/\a=o.map bw.enc/\d=sl.map Stat.enc/\ oQ Tryz.prog (GG mx) 35 [.sl W psp,.int .u32 covers,.sl X isp,.u m,.sl mrows msp] [(3,Z)] (one? [MX rows Y,.c8 0 0,.pv (.sl a []),Vf d]):=by have F:2<=N/\N<=6:=by{have G:=qbb m (by decide:(5:Int)≠0);have h2:=qaY m (by decide:(0:Int)<5);omega};have p:N=(calls:Int):=hN;obtain⟨n,hn⟩:∃x,x=min L.length 12:=⟨_,rfl⟩;obtain⟨M,u⟩:∃x,x=L.take n:=⟨_,rfl⟩;obtain⟨Ew,Mv⟩:∃x,x=(cl.length:Int):=⟨_,rfl⟩;obtain⟨home,DT⟩:∃x,x=BZ M Ew:=⟨_,rfl⟩;obtain⟨⟨B,SS⟩,H⟩:∃x,x=rounds cl vl home calls (n+1) (fU M N n):=⟨_,rfl⟩;obtain⟨a,I⟩:∃x,x=(lP more B B.length).map bw.enc:=⟨_,rfl⟩;obtain⟨d,hS⟩:∃x,x=SS.map Tu:=⟨_,rfl⟩;have hv:=Mx (mx:=mx) (psp:=psp) (isp:=isp) (msp:=msp) hp Up xT Tp hi z hl hm A C ZE D E wI hN hn u Mv DT H iv rI wO I hS;obtain⟨J,pH⟩:=GQ g;obtain⟨YC,Zc⟩:=Kg g;obtain⟨Ma,gh,K⟩:=B3 (covers:=covers) (v:=5);rw[<-D]at J pH YC Zc;rw[<-E]at Ma gh K;have ae:M.length=n:=by{rw[u];simp;omega};have q:∀b∈fU M N n,∃i,∃h:i<M.length,i<n/\b=kX N i M[i]:=fun b f=>Ch f;have Uq:∀b∈fU M N n,b.id≠0/\b.id≠1:=fun b f=>by{obtain⟨i,G,h2,rfl⟩:=q b f;simp only[kX];omega};have O:fj cl vl B home calls=.inl SS:=by{have:=He (cl:=cl) (vl:=vl) (home:=home) (calls:=calls) (n:=n+1) (boxes:=fU M N n) (by rw[o9 o_];omega) (fun b f=>(Uq b f).1);rw[<-H]at this;exact this};have w:B.Sublist (fU M N n):=by{have:=Hc (cl:=cl) (vl:=vl) (home:=home) (calls:=calls) (n:=n+1) (boxes:=fU M N n);rw[<-H]at this;exact this};have af:B.length<=12:=by{have:=w.length_le;rw[o9 o_]at this;omega};have r:∀b∈B,og b:=fun b f=>by{obtain⟨i,G,h2,rfl⟩:=q b (w.subset f);exact Eh (z _ (qbf (by rw[<-u];exact qaf G))) F o_};obtain⟨P,Q⟩:=s5 O;have R:=Hb O;obtain⟨o,s⟩:∃x,x=lP more B B.length:=⟨_,rfl⟩;have ad:o.length=B.length:=by{rw[s];exact abY (qak _)};have My:∀b∈o,og b:=fun b f=>by{rw[s]at f;obtain⟨c,S,Fb⟩:=O6 f;exact Ve Fb (r c S)};obtain⟨sl,t⟩:∃x,x=SS.map fun l=>(⟨l,[]⟩:Stat):=⟨_,rfl⟩;have T:sl.length=calls:=by{rw[t,qap,P]};have Ur:∀x∈sl,x.l.length<2^32/\∀y∈x.l,kL y:=fun x k=>by{rw[t]at k;obtain⟨l,LI,rfl⟩:=qaw.1 k;refine⟨?_,xx (Q l LI) r o_ (fun c S=>by have:=(J c S).2.2.1;omega)⟩;have:=R l LI;show l.length<2^32;omega};rw[<-s]at I;have U:∀x∈M,BM x:=fun x k=>z x (qbf (by rw[<-u];exact k));obtain⟨hg,hd⟩:=ag0 (more:=more) p o_ o_ U w;rw[<-s]at hg hd;have kN:fo cl vl:=by{rw[D,E];exact ad5 g covers};refine⟨o,sl,a,d,⟨hg,o_,My,T,fun x k=>?_,Ur,fun b f=>by rw[<-p];exact hd b f,fun j hj=>?_⟩,I,by rw[hS,t,qcA];rfl,hv⟩;{rw[t]at k;obtain⟨l,-,rfl⟩:=qaw.1 k;rfl};have V:j<SS.length:=o_;have e:(CE sl j).l=SS[j]:=by{rw[mC hj];simp[t]};rw[e,s];exact af1 kN J O (ad7.sublist w) j V
theorem afS.check{b:List bw}{sl:List Stat}(h:afS cl vl calls b sl)(hs:fo cl vl)(i:1<=calls/\calls<=20){k e:Int}(c:dq cl vl b (Int.ofNat calls) sl k e):e=0:=by refine(c.Hh hs (h.Hh.pb (by have:=h.few;omega) ⟨by show(1:Int)<=(calls:Int);omega,by show(calls:Int)<=20;omega⟩ h.oz) (by rw[h.len]) fun j d=>?_).2;obtain⟨f,g⟩:=h.st j d;rintro(a|a);{exact a f};exact a g
theorem afS.boxes{a:List bw}{sl:List Stat}(h:afS cl vl calls a sl){i e:Int}(b:ib a i e):e=0:=by have d:=(h.Hh.right (by have:=h.few;omega)).2;rcases b with⟨c,-⟩|⟨-,v,f,-,-,-,g⟩|⟨-,-,-,c⟩;{have:=h.few;omega};all_goals grind
end Go.bt
