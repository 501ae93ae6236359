import Derived.Test.YtfaccbkibjkfjaaGreatDoorT27
import Derived.Test.YtfaccbkibjkfjaaGreatDoorT24
set_option linter.all false
set_option maxRecDepth 100000
set_option maxHeartbeats 1000000
namespace Go.bt
open Go Go.Am Go.Proofs
open Classical
variable {calls:Nat} {cl:List aL} {vl:List bz} {mx:Int}
structure afS(cl:List aL)(vl:List bz)(calls:Nat)(B2:List bw)(sl:List Stat):Prop where
 Hh:acL B2
 few:B2.length<=12
 ty:∀b∈B2,og b
 len:sl.length=calls
 sp:∀x∈sl,x.sp=[]
 sty:∀x∈sl,x.l.length<2^32/\∀y∈x.l,kL y
 oz:∀b∈B2,b.discharge<(calls:Int)
 st:∀j,j<sl.length->gC cl vl B2 (CE sl j).l/\(CE sl j).l.map (·.box)=uc B2 (Int.ofNat j) B2.length
theorem ahA{Y psp Z isp q msp rows pz gy:R_}{k:List Place}{L:List Item}{more:List Int}{a o N:Int}(hp:Y=k.map Place.enc)(Up:∀x∈k,xw x)(xT:k.length<2^32)(Tp:0<=a/\a<2^32)(hi:Z=L.map Item.enc)(C:∀x∈L,BM x)(hl:L.length<2^32)(hm:q=m8s more)(D:∀x∈more,0<=x/\x<256)(E:more.length<2^32)(ZE:0<=o/\o<256)(F:cl=ie k)(G:vl=cJ a 5)(wI:N=2+o%5)(hN:N=Int.ofNat calls)(iv:rows=cl.map aL.enc)(rI:pz=vl.map bz.enc)(wO:gy=(gB calls).map cT.enc): ∃p sl d f,afS cl vl calls p sl/\d=p.map bw.enc/\f=sl.map Stat.enc/\ oQ Tryz.prog (GG mx) 35 [.sl Y psp,.int .u32 a,.sl Z isp,.u o,.sl q msp] [(3,gy)] (one? [MX rows pz,.c8 0 0,.pv (.sl d []),Vf f]):=by have H:2<=N/\N<=6:=by{have I:=qbb o (by decide:(5:Int)≠0);have h2:=qaY o (by decide:(0:Int)<5);omega};have r:N=(calls:Int):=hN;obtain⟨n,hn⟩:∃x,x=min L.length 12:=⟨_,rfl⟩;obtain⟨M,z⟩:∃x,x=L.take n:=⟨_,rfl⟩;obtain⟨Ew,Mv⟩:∃x,x=(cl.length:Int):=⟨_,rfl⟩;obtain⟨home,DT⟩:∃x,x=BZ M Ew:=⟨_,rfl⟩;obtain⟨⟨B,SS⟩,J⟩:∃x,x=rounds cl vl home calls (n+1) (fU M N n):=⟨_,rfl⟩;obtain⟨d,K⟩:∃x,x=(lP more B B.length).map bw.enc:=⟨_,rfl⟩;obtain⟨f,hS⟩:∃x,x=SS.map Tu:=⟨_,rfl⟩;have hv:=Mx (mx:=mx) (psp:=psp) (isp:=isp) (msp:=msp) hp Up xT Tp hi C hl hm D E ZE F G wI hN hn z Mv DT J iv rI wO K hS;obtain⟨O,pH⟩:=GQ k;obtain⟨YC,Zc⟩:=Kg k;obtain⟨Ma,gh,P⟩:=B3 (covers:=a) (v:=5);rw[<-F]at O pH YC Zc;rw[<-G]at Ma gh P;have ae:M.length=n:=by{rw[z];simp;omega};have s:∀b∈fU M N n,∃i,∃h:i<M.length,i<n/\b=kX N i M[i]:=fun b g=>Ch g;have Uq:∀b∈fU M N n,b.id≠0/\b.id≠1:=fun b g=>by{obtain⟨i,I,h2,rfl⟩:=s b g;simp only[kX];omega};have Q:fj cl vl B home calls=.inl SS:=by{have:=He (cl:=cl) (vl:=vl) (home:=home) (calls:=calls) (n:=n+1) (boxes:=fU M N n) (by rw[o9 o_];omega) (fun b g=>(Uq b g).1);rw[<-J]at this;exact this};have A:B.Sublist (fU M N n):=by{have:=Hc (cl:=cl) (vl:=vl) (home:=home) (calls:=calls) (n:=n+1) (boxes:=fU M N n);rw[<-J]at this;exact this};have af:B.length<=12:=by{have:=A.length_le;rw[o9 o_]at this;omega};have t:∀b∈B,og b:=fun b g=>by{obtain⟨i,I,h2,rfl⟩:=s b (A.subset g);exact Eh (C _ (qbf (by rw[<-z];exact qaf I))) H o_};obtain⟨R,S⟩:=aaD Q;have T:=Hb Q;obtain⟨p,u⟩:∃x,x=lP more B B.length:=⟨_,rfl⟩;have ad:p.length=B.length:=by{rw[u];exact abY (qak _)};have My:∀b∈p,og b:=fun b g=>by{rw[u]at g;obtain⟨c,U,Fb⟩:=O6 g;exact Ve Fb (t c U)};obtain⟨sl,w⟩:∃x,x=SS.map fun l=>(⟨l,[]⟩:Stat):=⟨_,rfl⟩;have V:sl.length=calls:=by{rw[w,qap,R]};have Ur:∀x∈sl,x.l.length<2^32/\∀y∈x.l,kL y:=fun x m=>by{rw[w]at m;obtain⟨l,LI,rfl⟩:=qaw.1 m;refine⟨?_,xx (S l LI) t o_ (fun c U=>by have:=(O c U).2.2.1;omega)⟩;have:=T l LI;show l.length<2^32;omega};rw[<-u]at K;have W:∀x∈M,BM x:=fun x m=>C x (qbf (by rw[<-z];exact m));obtain⟨hg,hd⟩:=ag0 (more:=more) r o_ o_ W A;rw[<-u]at hg hd;have kN:fo cl vl:=by{rw[F,G];exact ad5 k a};refine⟨p,sl,d,f,⟨hg,o_,My,V,fun x m=>?_,Ur,fun b g=>by rw[<-r];exact hd b g,fun j hj=>?_⟩,K,by rw[hS,w,qcA];rfl,hv⟩;{rw[w]at m;obtain⟨l,-,rfl⟩:=qaw.1 m;rfl};have X:j<SS.length:=o_;have e:(CE sl j).l=SS[j]:=by{rw[mC hj];simp[w]};rw[e,u];exact af1 kN O Q (ad7.sublist A) j X
theorem afS.check{b:List bw}{sl:List Stat}(h:afS cl vl calls b sl)(hs:fo cl vl)(i:1<=calls/\calls<=20){k e:Int}(c:dq cl vl b (Int.ofNat calls) sl k e):e=0:=by refine(c.Hh hs (h.Hh.pb (by have:=h.few;omega) ⟨by show(1:Int)<=(calls:Int);omega,by show(calls:Int)<=20;omega⟩ h.oz) (by rw[h.len]) fun j d=>?_).2;obtain⟨f,g⟩:=h.st j d;rintro(a|a);{exact a f};exact a g
theorem afS.boxes{a:List bw}{sl:List Stat}(h:afS cl vl calls a sl){i e:Int}(b:ib a i e):e=0:=by have d:=(h.Hh.right (by have:=h.few;omega)).2;rcases b with⟨c,-⟩|⟨-,v,f,-,-,-,g⟩|⟨-,-,-,c⟩;{have:=h.few;omega};all_goals grind
end Go.bt
