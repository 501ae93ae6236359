import Derived.Test.YtfaccbkibjkfjaaGreatDoorT26
import Derived.Test.YtfaccbkibjkfjaaGreatDoorT23
import Derived.Test.YtfaccbkibjkfjaaGreatDoorT10
set_option linter.all false
set_option maxRecDepth 100000
set_option maxHeartbeats 1000000
section
open Go Go.Am Go.Proofs
attribute [local irreducible] Am.bp.holds bH fw bP ek
namespace Go.bt
variable {mx:Int}
open Classical
def Vf (srows:List (List PV)):AV:=.agg [.pv (.sl srows []),.full []]
def MX (rows pz:List (List PV)):AV:=.agg [.pv (.sl rows []),.pv (.sl pz []),.pv (.int .i64 0),.pv (.int .i64 0),.pv (.int .i64 0),.pv (.int .i64 0),.pv (.sl [] []),.pv (.sl [] []),.pv (.sl [] []),.pv (.int .i64 0),.pv (.int .i64 0),.pv (.int .i64 0),.pv (.int .i64 0)]
theorem Mx {ph psp td isp ado msp rows pz gy brows srows:List (List PV)} {PL:List Place} {L M:List Item} {more:List Int} {covers n0:Int} {calls n:Nat} {N Ew:Int} {home:Int→Int} {cl:List aL} {vl:List bz} {B:List bw} {SS:List (List aH)}
  (hp:ph=PL.map Place.enc) (Up:∀x∈PL,xw x) (xT:PL.length<2^32) (Tp:0≤covers∧covers<2^32) (hi:td=L.map Item.enc) (xR:∀x∈L,BM x) (hl:L.length<2^32) (hm:ado=m8s more) (hmt:∀x∈more,0≤x∧x<256) (hml:more.length<2^32) (hn0:0≤n0∧n0<256)
  (uy:cl=ie PL) (rB:vl=cJ covers 5) (wI:N=2+n0%5) (hN:N=Int.ofNat calls) (hn:n=min L.length 12) (hM:M=L.take n) (Mv:Ew=(cl.length:Int)) (DT:home=BZ M Ew)
  (YS:(B,SS)=rounds cl vl home calls (n+1) (fU M N n)) (iv:rows=cl.map aL.enc) (rI:pz=vl.map bz.enc) (wO:gy=(gB calls).map cT.enc) (jb:brows=(lP more B B.length).map bw.enc) (hS:srows=SS.map Tu):
  oQ Tryz.prog (GG mx) 35 [.sl ph psp,.int .u32 covers,.sl td isp,.int .u8 n0,.sl ado msp] [(3,gy)] (one? [MX rows pz,.c8 0 0,.pv (.sl brows []),Vf srows]):=by
 refine BO (rs:=[MX rows pz,.c8 0 0,.pv (.sl brows []),Vf srows]) mixed Yk (leT rfl) (az (F:=fun A=>bH (CC Tryz.prog (GG mx)) A (Hf Tryz.prog (GG mx)) [.code Zv] (ri [.cell 10 (some 13),.tmp 11,.tmp 12,.cell 13 (some 2)] [(3,gy)] [MX rows pz,.c8 0 0,.pv (.sl brows []),Vf srows]) .normal (Am.start 121 [.sl ph psp,.int .u32 covers,.sl td isp,.int .u8 n0,.sl ado msp])) ?_);intro IW _ QP _ _ Ys
 iterate 9 intro _
 intro QU
 iterate 30 intro _
 intro yI _ DR _ _ Vq
 iterate 26 intro _
 intro Ga vU Gb _ _ _ nJ EB
 iterate 15 intro _
 intro Ab _ tV Ci _ yy J5 _ _ _ _ oZ sg _ _ dF _ bX cP cY df aw bu mz aI aQ aJ aP zI aU aV bC bA ag aC
 have Vg:2≤calls∧calls≤6:=by
  have h1:=qbb n0 (by decide:(5:Int)≠0);have h2:=qaY n0 (by decide:(0:Int)<5);have:N=(calls:Int):=hN;omega
 obtain⟨GD,pH⟩:=GQ PL;obtain⟨YC,Zc⟩:=Kg PL;obtain⟨Ma,gh,hv3⟩:=B3 (covers:=covers) (v:=5);rw[←uy]at GD pH YC Zc;rw[←rB]at Ma gh hv3;have hb:pC mx 82 [.sl ph psp,.int .u32 covers] (.agg [.sl rows [],.sl pz [],.int .i64 0,.int .i64 0,.int .i64 0,.int .i64 0,.sl [] [],.sl [] [],.sl [] [],.int .i64 0,.int .i64 0,.int .i64 0,.int .i64 0]):=Uj hp Up xT Tp (by rw[iv,uy]) (by rw[rI,rB])
 have MB:cl≠[]:=by intro h;rw[h]at YC;simp at YC
 have Iw:∀x∈cl,x.dv<2^32:=fun x hx=>by have:=(GD x hx).2.2.1;omega
 obtain⟨B9,hB9⟩:∃b,b=B.map bw.enc:=⟨_,rfl⟩;have hv:=HA (qs:=[_]) (sp:=isp) Cg (Mu (mx:=mx) (csp:=[]) (vsp:=[]) (r:=[]) (rsp:=[]) (f:=[]) (fsp:=[]) (t:=[]) (tsp:=[]) (l1:=0) (l2:=0) (l3:=0) (l4:=0) (m1:=0) (m2:=0) (m3:=0) (m4:=0) (home:=home) (brows:=B9) (srows:=srows) hN Vg iv rI (by omega) (by omega) (fun x hx=>by rw[(GD x hx).2.2.2.1];decide) (fun x hx=>by rcases(Ma x hx).2.2 with h|h<;>rw[h]<;>decide) MB Iw (Ox (fun x hx=>(GD x hx).2.2.1) Zc) hi xR hl hn hM Mv DT (by rw[←YS];exact hB9) (by rw[←YS];exact hS))
 simp only[qaN,qbi]at hv
 have zc:∀x y,df x y=x+y:=fun _ _=>by rw[←aw];rfl
 have fu:∀x y,cP x y=x-y:=fun _ _=>by rw[←cY];rfl
 have hmul:∀x y,tV x y=x*y:=fun _ _=>by rw[←Ci];rfl
 have aaZ:∀x y,0≤x→yy x y=x/y:=fun _ _ h=>by rw[←J5];exact qbj h
 have Vp:∀x y,0≤x→oZ x y=x%y:=fun _ _ h=>by rw[←sg];exact qa8 h
 have hW:∀x,-9223372036854775808≤x→x<9223372036854775808→bu .i64 x=x:=fun _ h1 h2=>by rw[←mz];exact dy h1 h2
 have YG:∀x,0≤x→x<256→bu .u8 x=x:=fun _ h1 h2=>by rw[←mz];exact Zx h1 h2
 refine gK ?_;refine ao (by cbv) hb (fun h=>by first|rfl|cases h) ?_;refine gK ?_
 have hN5:bu .i64 (df 2 (oZ (bu .i64 n0) 5))=N:=by rw[hW n0 (by omega) (by omega),Vp _ _ (by omega),zc,hW _ (by omega) (by omega),wI]
 refine ae (by rw[←Ab];simp) ?_;refine gK ?_;rw[hN5];refine CA (by cbv) hv ?_;refine gK ?_;refine jJ (fun v σ_=>((σ_.tidy [4,10,11,12,13,14,15,16,17,18,19] (nn [10,10,2,13,0,14,1,121,0,17,0,18])).put (some 19) (.pv (.int .i64 (Int.ofNat v)))).aq 18 (.rows 3 ((gB v).map cT.enc) 0)) calls (fun _=>True) (Fg.ca [4,10,11,12,13,14,15,16,17,18,19] (nn [10,10,2,13,0,14,1,121,0,17,0,18]) rfl (by cbv)) ?_;intro v aT hvk
 try dsimp only
 generalize Vh:(gB v).map cT.enc=kr;refine ej ?_;refine bp.af (fun hd=>?_) (fun hd=>?_)
 ·have HI:v<calls:=by rw[←aC,hN]at hd;simp at hd;omega
  obtain⟨o,ho⟩:∃o,o=v:=⟨_,rfl⟩
  have Dd:vU (Int.ofNat v) 1=o:=by rw[←Gb,ho];simp[aF]
  have hKs:=KM (v:=v);have YT:(zL v).enc=[.str (Ez.getD v []),.int .i64 (1000*((v:Int)+1)),.int .i64 0]:=rfl;have hKl:(gB v).length=v:=fT;obtain⟨v1,Ma⟩:∃x:Int,x=(v:Int)+1:=⟨_,rfl⟩;obtain⟨v2,gh⟩:∃x:Int,x=1000*v1:=⟨_,rfl⟩
  have w1:bu .i64 (df (Int.ofNat v) 1)=v1:=by rw[zc,Ma];exact hW ((v:Int)+1) (by omega) (by omega)
  have w2:bu .i64 (tV 1000 v1)=v2:=by rw[hmul,hW _ (by omega) (by omega),gh]
  rw[←Ma,←gh]at YT
  have h1s:v1=Int.ofNat (v+1):=by rw[Ma];rfl
  refine aY ?_;refine ae (by rw[←Ga];simp[aF];omega) ?_;rw[Dd];obtain⟨pt,Up⟩:∃pt,pt=Ez.getD o []:=⟨_,rfl⟩;rw[show Ez.getD v []=pt by rw[Up,ho]]at YT
  have h6:o=0∨o=1∨o=2∨o=3∨o=4∨o=5:=by omega
  rcases h6 with h6|h6|h6|h6|h6|h6
  all_goals
   rw[h6]at Up;simp only[Ez,qab,qay,qcF,qbg]at Up;subst Up;rw[h6];refine gK ?_;rw[w1,w2];refine ae (by rw[←dF,←Vh];exact⟨by simp;omega,by simp;omega,by simp,Kh (enc:=cT.enc) (fun _=>rfl) _⟩) ?_;refine gK ?_;rw[w1,h1s];refine ta ⟨HI,trivial,?_⟩;rw[hKs,qaX,List.map_singleton,YT,Vh,←bX];exact Fg.ca [4,10,11,12,13,14,15,16,17,18,19] (nn [10,10,2,13,0,14,1,16,0,17,0,18]) rfl (by cbv)
 ·have HI:v=calls:=by rw[←aC,hN]at hd;simp at hd;omega
  rw[HI,←wO]at Vh;rw[←Vh];obtain⟨nb,hnb⟩:∃n,n=B.length:=⟨_,rfl⟩
  have hB12:B.length≤12:=by have:=EA (cl:=cl) (vl:=vl) (home:=home) (calls:=calls) (n:=n+1) (boxes:=fU M N n);rw[←YS,o9 (by rw[hM];simp;omega)]at this;dsimp only at this;omega
  have hBl:B9.length=nb:=by rw[hB9,hnb];simp
  refine aY ?_;refine wW rfl ?_;refine gK ?_
  obtain⟨F,hF⟩:∃F:Nat→List bw,F=fun v=>lP more B v:=⟨_,rfl⟩
  have hF0:F 0=[]:=by rw[hF];rfl
  refine jJ (fun v σ_=>((σ_.tidy [4,10,11,12,13,14,16,17,18,52,53] (nn [10,10,2,13,0,14,1,16,0,17,0,18])).put (some 53) (.pv (.int .i64 (Int.ofNat v)))).aq 16 (.rows 9 ((F v++B.drop v).map bw.enc) 0)) nb (fun _=>True) (by rw[hF0,qc9,qbi,←hB9];exact Fg.ca [4,10,11,12,13,14,16,17,18,52,53] (nn [10,10,2,13,0,14,1,16,0,17,0,18]) rfl (by cbv)) ?_;intro u hu Ze
  try dsimp only
  generalize Ie:(F u++B.drop u).map bw.enc=cr;refine ej ?_;refine bp.af (fun hc=>?_) (fun hc=>?_)
  ·have qd:u<B.length:=by rw[←aC,←ag]at hc;simp at hc;omega
   have Ph:(F u).length=u:=by rw[hF];exact abY (by omega)
   have PQ:F (u+1)=F u++[fG (F u) (n7 more u B[u]) u]:=by rw[hF];exact zK qd
   obtain⟨D,hD⟩:∃D,D=B.drop (u+1):=⟨_,rfl⟩;rw[qbW qd,←hD]at Ie;obtain⟨b0,YF⟩:∃b,b=B[u]:=⟨_,rfl⟩;rw[←YF]at Ie PQ
   have lO:(F u++b0::D).length=B.length:=by rw[hD];simp[Ph];omega
   have yb:∀(x y:bw) (off:Nat) (ys:List PV),jL off ys x.enc=y.enc→nJ ((F u++x::D).map bw.enc) (Int.ofNat u) off ys=(F u++y::D).map bw.enc:=fun x y off ys h=>by rw[←EB];exact Uo Ph h
   refine aY ?_;refine bp.af (fun Ow=>?_) (fun Ow=>?_)
   ·have YU:u<more.length:=by rw[←aC,←ag]at Ow;simp[hm,m8s]at Ow;omega
    obtain⟨m0,hm0⟩:∃m,m=more.getD u 0:=⟨_,rfl⟩
    have MA:aI ado (Int.ofNat u)=[.int .u8 m0]:=by rw[←aQ,hm,hm0];simp[aF,m8s,qab,YU]
    have hmi:aJ (Int.ofNat u) ado 1:=by rw[←aP,hm];exact aO (enc:=fun n=>[PV.int .u8 n]) YU rfl
    refine aY ?_;refine ae hmi ?_;rw[MA];refine gK ?_;refine ae (by rw[←Ab];simp) ?_;refine gK ?_;refine ae hmi ?_;rw[MA];refine gK ?_
    have V9:∀b1:bw,aJ (Int.ofNat u) ((F u++b1::D).map bw.enc) 9:=fun b1=>by
     rw[←aP];exact aO (enc:=bw.enc) (l:=F u++b1::D) (by simp[Ph]) rfl
    refine ae (by rw[←Vq];simp) ?_;refine gK ?_;obtain⟨r4,hr4⟩:∃b:Bool,b=Ys (IW .and .u8 (QP .u8 m0 4) 1) 1:=⟨_,rfl⟩;obtain⟨r5,hr5⟩:∃b:Bool,b=Ys (IW .and .u8 (QP .u8 m0 5) 1) 1:=⟨_,rfl⟩
    have hr4s:aF.eq (aF.bits .and .u8 (aF.shr .u8 m0 4) 1) 1=r4:=by rw[hr4,←bA,←yI,←DR]
    have hr5s:aF.eq (aF.bits .and .u8 (aF.shr .u8 m0 5) 1) 1=r5:=by rw[hr5,←bA,←yI,←DR]
    have hm256:0≤m0∧m0<256:=by rw[hm0,qab,qag YU];exact hmt _ (qaf YU)
    obtain⟨PR,abq⟩:∃x,x=m0%10:=⟨_,rfl⟩;obtain⟨nm,Y8⟩:∃x,x=B1.getD (u%5) []:=⟨_,rfl⟩
    have hnr:aI [[.str [67,83,81,85,51,48,53,52,51,56,51]],[.str [65,65,65,85,48,48,48,48,48,48,55]],[.str [65,65,65,85,48,48,48,48,48,49,50]],[.str [65,65,65,85,49,48,48,48,48,48,49]],[.str [65,65,65,85,48,48,48,48,49,48,48]]] (oZ (Int.ofNat u) 5)=[.str nm]∧aJ (oZ (Int.ofNat u) 5) [[.str [67,83,81,85,51,48,53,52,51,56,51]],[.str [65,65,65,85,48,48,48,48,48,48,55]],[.str [65,65,65,85,48,48,48,48,48,49,50]],[.str [65,65,65,85,49,48,48,48,48,48,49]],[.str [65,65,65,85,48,48,48,48,49,48,48]]] 1:=by
     rw[←aQ,←sg,←aP,Y8];show aF.rat _ (Int.ofNat (u%5))=_∧aF.tu (Int.ofNat (u%5)) _ 1
     have:u%5=0∨u%5=1∨u%5=2∨u%5=3∨u%5=4:=by omega
     rcases this with h|h|h|h|h<;>rw[h]<;>exact⟨rfl,by simp[aF]⟩
    obtain⟨Pj,Lb,tY,ud,nU,ue,ad2,abr,Cr⟩:=b0
    have WE:n7 more u ⟨Pj,Lb,tY,ud,nU,ue,ad2,abr,Cr⟩=⟨Pj,if r5=true then nm else Lb,tY,ud,nU,ue,ad2,PR,r4⟩:=by
     unfold n7;rw[qao YU,←hm0,hr4s,hr5s,←abq,←Y8]
    rw[WE]at PQ
    have UF:oZ m0 10=PR:=by rw[Vp _ _ (by omega),abq]
    rw[←hr4,UF]
    cases r4
    all_goals
     refine aY ?_;refine ae (by rw[←Ie];exact V9 _) ?_;refine gK ?_;rw[←Ie,yb _ ⟨Pj,Lb,tY,ud,nU,ue,ad2,PR,Cr⟩ 7 _ rfl];generalize YV:(F u++⟨Pj,Lb,tY,ud,nU,ue,ad2,PR,Cr⟩::D).map bw.enc=cr7;refine ae (by rw[←YV];exact V9 _) ?_;refine gK ?_
    ·rw[←YV,yb _ ⟨Pj,Lb,tY,ud,nU,ue,ad2,PR,false⟩ 8 _ rfl];generalize wN:(F u++⟨Pj,Lb,tY,ud,nU,ue,ad2,PR,false⟩::D).map bw.enc=Vi;refine ae hmi ?_;rw[MA];refine gK ?_;refine ae (by rw[←Vq];simp) ?_;refine gK ?_;rw[←hr5]
     cases r5
     ·rw[qai (by simp)]at PQ;refine aY ?_;obtain⟨x1,Vj,Mb⟩:∃x1,F (u+1)=F u++[fG (F u) x1 u]∧(F u++x1::D).map bw.enc=Vi:=⟨_,PQ,wN⟩;refine jJ (fun k σ_=>((σ_.tidy [4,10,11,12,13,14,16,17,18,20,21,52,53] (nn [10,10,2,13,0,14,1,16,0,17,0,18])).put (some 21) (.pv (.int .i64 (Int.ofNat k)))).aq 16 (.rows 9 ((F u++fG (F u) x1 k::D).map bw.enc) 0)) u (fun _=>True) (by rw[pg,Mb];exact Fg.ca [4,10,11,12,13,14,16,17,18,20,21,52,53] (nn [10,10,2,13,0,14,1,16,0,17,0,18]) rfl (by cbv)) ?_
      intro k hk Bc
      try dsimp only
      obtain⟨Q,hQ⟩:∃Q,Q=F u++fG (F u) x1 k::D:=⟨_,rfl⟩;rw[←hQ];generalize wi:Q.map bw.enc=gr
      have hQl:Q.length=B.length:=by rw[hQ,hD];simp[Ph];omega
      refine ej ?_;refine bp.af (fun hq=>?_) (fun hq=>?_)
      ·have eR:k<u:=by rw[←aC]at hq;simp at hq;omega
       have MY:k<Q.length:=by omega
       have MZ:u<Q.length:=by omega
       have zY:=pd (prev:=F u) (b:=x1) (k:=k) (by omega);obtain⟨VG,z8⟩:∃x,Q[k]=x:=⟨_,rfl⟩
       have RZ:aJ (Int.ofNat k) gr 9:=by rw[←aP,wi.symm];exact aO (enc:=bw.enc) MY rfl
       obtain⟨⟨Mf,ij,wj,wq,qx,wD,Aa,Ag,ma⟩,Av⟩:∃y,VG=y:=⟨_,rfl⟩;subst Av
       have wK:aI gr (Int.ofNat k)=[.int .i64 Mf,.str ij,.int .u8 wj,.bool wq,.int .i64 qx,.int .i64 wD,.int .i64 Aa,.int .u8 Ag,.bool ma]:=by rw[←aQ,wi.symm,aN (enc:=bw.enc) MY,z8];rfl
       obtain⟨VP,qy⟩:∃x,Q[u]=x:=⟨_,rfl⟩
       have su:aJ (Int.ofNat u) gr 9:=by rw[←aP,wi.symm];exact aO (enc:=bw.enc) MZ rfl
       obtain⟨⟨wL,gY,jj,jC,gZ,kp,mf,mA,fI⟩,Aw⟩:∃y,VP=y:=⟨_,rfl⟩;subst Aw
       have nI:aI gr (Int.ofNat u)=[.int .i64 wL,.str gY,.int .u8 jj,.bool jC,.int .i64 gZ,.int .i64 kp,.int .i64 mf,.int .u8 mA,.bool fI]:=by rw[←aQ,wi.symm,aN (enc:=bw.enc) MZ,qy];rfl
       have VS:(F u)[k]'(by omega)=Q[k]:=by subst hQ;rw[qbC (by omega)]
       have Mg:fG (F u) x1 k=Q[u]:=by subst hQ;rw[qbz (by omega)];simp[Ph]
       rw[VS,Mg,z8,qy]at zY;refine aY ?_;refine ae RZ ?_;refine gK ?_;rw[wK];refine aY ?_;refine ae su ?_;refine gK ?_;rw[nI];refine aY ?_;rw[nI];obtain⟨qq,NY⟩:∃b:Bool,b=QU ij gY:=⟨_,rfl⟩
       have NZ:qq=true↔ij=gY:=by rw[NY,←aU];simp[aF]
       refine aY ?_;rw[←NY]
       cases qq
       ·have Mh:¬ij=gY:=fun h=>by have:=NZ.2 h;simp at this
        rw[qai Mh]at zY;refine aY ?_;refine ta ⟨eR,trivial,?_⟩;rw[wS mz aw (v:=k) (by omega)];rw[zY,←qy,←Mg,←hQ,wi];exact Fg.ca [4,10,11,12,13,14,16,17,18,20,21,52,53] (nn [10,10,2,13,0,14,1,16,0,17,0,18]) rfl (by cbv)
       ·have Mi:ij=gY:=NZ.1 rfl;rw[qao Mi]at zY;have VT:Q=F u++⟨wL,gY,jj,jC,gZ,kp,mf,mA,fI⟩::D:=hQ.trans (by rw[Mg,qy]);refine aY ?_;refine ae su ?_;refine gK ?_;refine ta ⟨eR,trivial,?_⟩;rw[wS mz aw (v:=k) (by omega)];rw[←wi,VT,yb _ ⟨wL,[],jj,jC,gZ,kp,mf,mA,fI⟩ 1 _ rfl,zY];exact Fg.ca [4,10,11,12,13,14,16,17,18,20,21,52,53] (nn [10,10,2,13,0,14,1,16,0,17,0,18]) rfl (by cbv)
      ·have eR:k=u:=by rw[←aC]at hq;simp at hq;omega
       refine aY ?_;refine wW rfl ?_;refine gK ?_;refine ta ⟨by omega,trivial,?_⟩;rw[wS mz aw (v:=u) (by omega)];rw[←wi,hQ,eR,Vj,←hD,qaR];exact Fg.ca [4,10,11,12,13,14,16,17,18,52,53] (nn [10,10,2,13,0,14,1,16,0,17,0,18]) rfl (by cbv)
     ·rw[qao rfl]at PQ;refine aY ?_;refine ae (by rw[←Ab];simp) ?_;refine gK ?_;refine ae hnr.2 ?_;rw[hnr.1];refine gK ?_;refine ae (by rw[←wN];exact V9 _) ?_;refine gK ?_;rw[←wN,yb _ ⟨Pj,nm,tY,ud,nU,ue,ad2,PR,false⟩ 1 _ rfl]
      clear wN
      generalize wN:(F u++⟨Pj,nm,tY,ud,nU,ue,ad2,PR,false⟩::D).map bw.enc=Vi;obtain⟨x1,Vj,Mb⟩:∃x1,F (u+1)=F u++[fG (F u) x1 u]∧(F u++x1::D).map bw.enc=Vi:=⟨_,PQ,wN⟩;refine jJ (fun k σ_=>((σ_.tidy [4,10,11,12,13,14,16,17,18,20,21,52,53] (nn [10,10,2,13,0,14,1,16,0,17,0,18])).put (some 21) (.pv (.int .i64 (Int.ofNat k)))).aq 16 (.rows 9 ((F u++fG (F u) x1 k::D).map bw.enc) 0)) u (fun _=>True) (by rw[pg,Mb];exact Fg.ca [4,10,11,12,13,14,16,17,18,20,21,52,53] (nn [10,10,2,13,0,14,1,16,0,17,0,18]) rfl (by cbv)) ?_
      intro k hk Bc
      try dsimp only
      obtain⟨Q,hQ⟩:∃Q,Q=F u++fG (F u) x1 k::D:=⟨_,rfl⟩;rw[←hQ];generalize wi:Q.map bw.enc=gr
      have hQl:Q.length=B.length:=by rw[hQ,hD];simp[Ph];omega
      refine ej ?_;refine bp.af (fun hq=>?_) (fun hq=>?_)
      ·have eR:k<u:=by rw[←aC]at hq;simp at hq;omega
       have MY:k<Q.length:=by omega
       have MZ:u<Q.length:=by omega
       have zY:=pd (prev:=F u) (b:=x1) (k:=k) (by omega);obtain⟨VG,z8⟩:∃x,Q[k]=x:=⟨_,rfl⟩
       have RZ:aJ (Int.ofNat k) gr 9:=by rw[←aP,wi.symm];exact aO (enc:=bw.enc) MY rfl
       obtain⟨⟨Mf,ij,wj,wq,qx,wD,Aa,Ag,ma⟩,Av⟩:∃y,VG=y:=⟨_,rfl⟩;subst Av
       have wK:aI gr (Int.ofNat k)=[.int .i64 Mf,.str ij,.int .u8 wj,.bool wq,.int .i64 qx,.int .i64 wD,.int .i64 Aa,.int .u8 Ag,.bool ma]:=by rw[←aQ,wi.symm,aN (enc:=bw.enc) MY,z8];rfl
       obtain⟨VP,qy⟩:∃x,Q[u]=x:=⟨_,rfl⟩
       have su:aJ (Int.ofNat u) gr 9:=by rw[←aP,wi.symm];exact aO (enc:=bw.enc) MZ rfl
       obtain⟨⟨wL,gY,jj,jC,gZ,kp,mf,mA,fI⟩,Aw⟩:∃y,VP=y:=⟨_,rfl⟩;subst Aw
       have nI:aI gr (Int.ofNat u)=[.int .i64 wL,.str gY,.int .u8 jj,.bool jC,.int .i64 gZ,.int .i64 kp,.int .i64 mf,.int .u8 mA,.bool fI]:=by rw[←aQ,wi.symm,aN (enc:=bw.enc) MZ,qy];rfl
       have VS:(F u)[k]'(by omega)=Q[k]:=by subst hQ;rw[qbC (by omega)]
       have Mg:fG (F u) x1 k=Q[u]:=by subst hQ;rw[qbz (by omega)];simp[Ph]
       rw[VS,Mg,z8,qy]at zY;refine aY ?_;refine ae RZ ?_;refine gK ?_;rw[wK];refine aY ?_;refine ae su ?_;refine gK ?_;rw[nI];refine aY ?_;rw[nI];obtain⟨qq,NY⟩:∃b:Bool,b=QU ij gY:=⟨_,rfl⟩
       have NZ:qq=true↔ij=gY:=by rw[NY,←aU];simp[aF]
       refine aY ?_;rw[←NY]
       cases qq
       ·have Mh:¬ij=gY:=fun h=>by have:=NZ.2 h;simp at this
        rw[qai Mh]at zY;refine aY ?_;refine ta ⟨eR,trivial,?_⟩;rw[wS mz aw (v:=k) (by omega)];rw[zY,←qy,←Mg,←hQ,wi];exact Fg.ca [4,10,11,12,13,14,16,17,18,20,21,52,53] (nn [10,10,2,13,0,14,1,16,0,17,0,18]) rfl (by cbv)
       ·have Mi:ij=gY:=NZ.1 rfl;rw[qao Mi]at zY;have VT:Q=F u++⟨wL,gY,jj,jC,gZ,kp,mf,mA,fI⟩::D:=hQ.trans (by rw[Mg,qy]);refine aY ?_;refine ae su ?_;refine gK ?_;refine ta ⟨eR,trivial,?_⟩;rw[wS mz aw (v:=k) (by omega)];rw[←wi,VT,yb _ ⟨wL,[],jj,jC,gZ,kp,mf,mA,fI⟩ 1 _ rfl,zY];exact Fg.ca [4,10,11,12,13,14,16,17,18,20,21,52,53] (nn [10,10,2,13,0,14,1,16,0,17,0,18]) rfl (by cbv)
      ·have eR:k=u:=by rw[←aC]at hq;simp at hq;omega
       refine aY ?_;refine wW rfl ?_;refine gK ?_;refine ta ⟨by omega,trivial,?_⟩;rw[wS mz aw (v:=u) (by omega)];rw[←wi,hQ,eR,Vj,←hD,qaR];exact Fg.ca [4,10,11,12,13,14,16,17,18,52,53] (nn [10,10,2,13,0,14,1,16,0,17,0,18]) rfl (by cbv)
    ·rw[←YV,yb _ ⟨Pj,Lb,tY,ud,nU,ue,ad2,PR,true⟩ 8 _ rfl];generalize wN:(F u++⟨Pj,Lb,tY,ud,nU,ue,ad2,PR,true⟩::D).map bw.enc=Vi;refine ae hmi ?_;rw[MA];refine gK ?_;refine ae (by rw[←Vq];simp) ?_;refine gK ?_;rw[←hr5]
     cases r5
     ·rw[qai (by simp)]at PQ;refine aY ?_;obtain⟨x1,Vj,Mb⟩:∃x1,F (u+1)=F u++[fG (F u) x1 u]∧(F u++x1::D).map bw.enc=Vi:=⟨_,PQ,wN⟩;refine jJ (fun k σ_=>((σ_.tidy [4,10,11,12,13,14,16,17,18,20,21,52,53] (nn [10,10,2,13,0,14,1,16,0,17,0,18])).put (some 21) (.pv (.int .i64 (Int.ofNat k)))).aq 16 (.rows 9 ((F u++fG (F u) x1 k::D).map bw.enc) 0)) u (fun _=>True) (by rw[pg,Mb];exact Fg.ca [4,10,11,12,13,14,16,17,18,20,21,52,53] (nn [10,10,2,13,0,14,1,16,0,17,0,18]) rfl (by cbv)) ?_
      intro k hk Bc
      try dsimp only
      obtain⟨Q,hQ⟩:∃Q,Q=F u++fG (F u) x1 k::D:=⟨_,rfl⟩;rw[←hQ];generalize wi:Q.map bw.enc=gr
      have hQl:Q.length=B.length:=by rw[hQ,hD];simp[Ph];omega
      refine ej ?_;refine bp.af (fun hq=>?_) (fun hq=>?_)
      ·have eR:k<u:=by rw[←aC]at hq;simp at hq;omega
       have MY:k<Q.length:=by omega
       have MZ:u<Q.length:=by omega
       have zY:=pd (prev:=F u) (b:=x1) (k:=k) (by omega);obtain⟨VG,z8⟩:∃x,Q[k]=x:=⟨_,rfl⟩
       have RZ:aJ (Int.ofNat k) gr 9:=by rw[←aP,wi.symm];exact aO (enc:=bw.enc) MY rfl
       obtain⟨⟨Mf,ij,wj,wq,qx,wD,Aa,Ag,ma⟩,Av⟩:∃y,VG=y:=⟨_,rfl⟩;subst Av
       have wK:aI gr (Int.ofNat k)=[.int .i64 Mf,.str ij,.int .u8 wj,.bool wq,.int .i64 qx,.int .i64 wD,.int .i64 Aa,.int .u8 Ag,.bool ma]:=by rw[←aQ,wi.symm,aN (enc:=bw.enc) MY,z8];rfl
       obtain⟨VP,qy⟩:∃x,Q[u]=x:=⟨_,rfl⟩
       have su:aJ (Int.ofNat u) gr 9:=by rw[←aP,wi.symm];exact aO (enc:=bw.enc) MZ rfl
       obtain⟨⟨wL,gY,jj,jC,gZ,kp,mf,mA,fI⟩,Aw⟩:∃y,VP=y:=⟨_,rfl⟩;subst Aw
       have nI:aI gr (Int.ofNat u)=[.int .i64 wL,.str gY,.int .u8 jj,.bool jC,.int .i64 gZ,.int .i64 kp,.int .i64 mf,.int .u8 mA,.bool fI]:=by rw[←aQ,wi.symm,aN (enc:=bw.enc) MZ,qy];rfl
       have VS:(F u)[k]'(by omega)=Q[k]:=by subst hQ;rw[qbC (by omega)]
       have Mg:fG (F u) x1 k=Q[u]:=by subst hQ;rw[qbz (by omega)];simp[Ph]
       rw[VS,Mg,z8,qy]at zY;refine aY ?_;refine ae RZ ?_;refine gK ?_;rw[wK];refine aY ?_;refine ae su ?_;refine gK ?_;rw[nI];refine aY ?_;rw[nI];obtain⟨qq,NY⟩:∃b:Bool,b=QU ij gY:=⟨_,rfl⟩
       have NZ:qq=true↔ij=gY:=by rw[NY,←aU];simp[aF]
       refine aY ?_;rw[←NY]
       cases qq
       ·have Mh:¬ij=gY:=fun h=>by have:=NZ.2 h;simp at this
        rw[qai Mh]at zY;refine aY ?_;refine ta ⟨eR,trivial,?_⟩;rw[wS mz aw (v:=k) (by omega)];rw[zY,←qy,←Mg,←hQ,wi];exact Fg.ca [4,10,11,12,13,14,16,17,18,20,21,52,53] (nn [10,10,2,13,0,14,1,16,0,17,0,18]) rfl (by cbv)
       ·have Mi:ij=gY:=NZ.1 rfl;rw[qao Mi]at zY;have VT:Q=F u++⟨wL,gY,jj,jC,gZ,kp,mf,mA,fI⟩::D:=hQ.trans (by rw[Mg,qy]);refine aY ?_;refine ae su ?_;refine gK ?_;refine ta ⟨eR,trivial,?_⟩;rw[wS mz aw (v:=k) (by omega)];rw[←wi,VT,yb _ ⟨wL,[],jj,jC,gZ,kp,mf,mA,fI⟩ 1 _ rfl,zY];exact Fg.ca [4,10,11,12,13,14,16,17,18,20,21,52,53] (nn [10,10,2,13,0,14,1,16,0,17,0,18]) rfl (by cbv)
      ·have eR:k=u:=by rw[←aC]at hq;simp at hq;omega
       refine aY ?_;refine wW rfl ?_;refine gK ?_;refine ta ⟨by omega,trivial,?_⟩;rw[wS mz aw (v:=u) (by omega)];rw[←wi,hQ,eR,Vj,←hD,qaR];exact Fg.ca [4,10,11,12,13,14,16,17,18,52,53] (nn [10,10,2,13,0,14,1,16,0,17,0,18]) rfl (by cbv)
     ·rw[qao rfl]at PQ;refine aY ?_;refine ae (by rw[←Ab];simp) ?_;refine gK ?_;refine ae hnr.2 ?_;rw[hnr.1];refine gK ?_;refine ae (by rw[←wN];exact V9 _) ?_;refine gK ?_;rw[←wN,yb _ ⟨Pj,nm,tY,ud,nU,ue,ad2,PR,true⟩ 1 _ rfl]
      clear wN
      generalize wN:(F u++⟨Pj,nm,tY,ud,nU,ue,ad2,PR,true⟩::D).map bw.enc=Vi;obtain⟨x1,Vj,Mb⟩:∃x1,F (u+1)=F u++[fG (F u) x1 u]∧(F u++x1::D).map bw.enc=Vi:=⟨_,PQ,wN⟩;refine jJ (fun k σ_=>((σ_.tidy [4,10,11,12,13,14,16,17,18,20,21,52,53] (nn [10,10,2,13,0,14,1,16,0,17,0,18])).put (some 21) (.pv (.int .i64 (Int.ofNat k)))).aq 16 (.rows 9 ((F u++fG (F u) x1 k::D).map bw.enc) 0)) u (fun _=>True) (by rw[pg,Mb];exact Fg.ca [4,10,11,12,13,14,16,17,18,20,21,52,53] (nn [10,10,2,13,0,14,1,16,0,17,0,18]) rfl (by cbv)) ?_
      intro k hk Bc
      try dsimp only
      obtain⟨Q,hQ⟩:∃Q,Q=F u++fG (F u) x1 k::D:=⟨_,rfl⟩;rw[←hQ];generalize wi:Q.map bw.enc=gr
      have hQl:Q.length=B.length:=by rw[hQ,hD];simp[Ph];omega
      refine ej ?_;refine bp.af (fun hq=>?_) (fun hq=>?_)
      ·have eR:k<u:=by rw[←aC]at hq;simp at hq;omega
       have MY:k<Q.length:=by omega
       have MZ:u<Q.length:=by omega
       have zY:=pd (prev:=F u) (b:=x1) (k:=k) (by omega);obtain⟨VG,z8⟩:∃x,Q[k]=x:=⟨_,rfl⟩
       have RZ:aJ (Int.ofNat k) gr 9:=by rw[←aP,wi.symm];exact aO (enc:=bw.enc) MY rfl
       obtain⟨⟨Mf,ij,wj,wq,qx,wD,Aa,Ag,ma⟩,Av⟩:∃y,VG=y:=⟨_,rfl⟩;subst Av
       have wK:aI gr (Int.ofNat k)=[.int .i64 Mf,.str ij,.int .u8 wj,.bool wq,.int .i64 qx,.int .i64 wD,.int .i64 Aa,.int .u8 Ag,.bool ma]:=by rw[←aQ,wi.symm,aN (enc:=bw.enc) MY,z8];rfl
       obtain⟨VP,qy⟩:∃x,Q[u]=x:=⟨_,rfl⟩
       have su:aJ (Int.ofNat u) gr 9:=by rw[←aP,wi.symm];exact aO (enc:=bw.enc) MZ rfl
       obtain⟨⟨wL,gY,jj,jC,gZ,kp,mf,mA,fI⟩,Aw⟩:∃y,VP=y:=⟨_,rfl⟩;subst Aw
       have nI:aI gr (Int.ofNat u)=[.int .i64 wL,.str gY,.int .u8 jj,.bool jC,.int .i64 gZ,.int .i64 kp,.int .i64 mf,.int .u8 mA,.bool fI]:=by rw[←aQ,wi.symm,aN (enc:=bw.enc) MZ,qy];rfl
       have VS:(F u)[k]'(by omega)=Q[k]:=by subst hQ;rw[qbC (by omega)]
       have Mg:fG (F u) x1 k=Q[u]:=by subst hQ;rw[qbz (by omega)];simp[Ph]
       rw[VS,Mg,z8,qy]at zY;refine aY ?_;refine ae RZ ?_;refine gK ?_;rw[wK];refine aY ?_;refine ae su ?_;refine gK ?_;rw[nI];refine aY ?_;rw[nI];obtain⟨qq,NY⟩:∃b:Bool,b=QU ij gY:=⟨_,rfl⟩
       have NZ:qq=true↔ij=gY:=by rw[NY,←aU];simp[aF]
       refine aY ?_;rw[←NY]
       cases qq
       ·have Mh:¬ij=gY:=fun h=>by have:=NZ.2 h;simp at this
        rw[qai Mh]at zY;refine aY ?_;refine ta ⟨eR,trivial,?_⟩;rw[wS mz aw (v:=k) (by omega)];rw[zY,←qy,←Mg,←hQ,wi];exact Fg.ca [4,10,11,12,13,14,16,17,18,20,21,52,53] (nn [10,10,2,13,0,14,1,16,0,17,0,18]) rfl (by cbv)
       ·have Mi:ij=gY:=NZ.1 rfl;rw[qao Mi]at zY;have VT:Q=F u++⟨wL,gY,jj,jC,gZ,kp,mf,mA,fI⟩::D:=hQ.trans (by rw[Mg,qy]);refine aY ?_;refine ae su ?_;refine gK ?_;refine ta ⟨eR,trivial,?_⟩;rw[wS mz aw (v:=k) (by omega)];rw[←wi,VT,yb _ ⟨wL,[],jj,jC,gZ,kp,mf,mA,fI⟩ 1 _ rfl,zY];exact Fg.ca [4,10,11,12,13,14,16,17,18,20,21,52,53] (nn [10,10,2,13,0,14,1,16,0,17,0,18]) rfl (by cbv)
      ·have eR:k=u:=by rw[←aC]at hq;simp at hq;omega
       refine aY ?_;refine wW rfl ?_;refine gK ?_;refine ta ⟨by omega,trivial,?_⟩;rw[wS mz aw (v:=u) (by omega)];rw[←wi,hQ,eR,Vj,←hD,qaR];exact Fg.ca [4,10,11,12,13,14,16,17,18,52,53] (nn [10,10,2,13,0,14,1,16,0,17,0,18]) rfl (by cbv)
   ·have YU:¬u<more.length:=by rw[←aC,←ag]at Ow;simp[hm,m8s]at Ow;omega
    have WE:n7 more u b0=b0:=by unfold n7;rw[qai YU]
    rw[WE]at PQ;obtain⟨Pj,Lb,tY,ud,nU,ue,ad2,abr,Cr⟩:=b0;obtain⟨Vi,wN⟩:∃x,x=cr:=⟨_,rfl⟩;rw[←wN]at Ie ⊢
    clear wN
    have wN:=Ie;refine aY ?_;obtain⟨x1,Vj,Mb⟩:∃x1,F (u+1)=F u++[fG (F u) x1 u]∧(F u++x1::D).map bw.enc=Vi:=⟨_,PQ,wN⟩;refine jJ (fun k σ_=>((σ_.tidy [4,10,11,12,13,14,16,17,18,20,21,52,53] (nn [10,10,2,13,0,14,1,16,0,17,0,18])).put (some 21) (.pv (.int .i64 (Int.ofNat k)))).aq 16 (.rows 9 ((F u++fG (F u) x1 k::D).map bw.enc) 0)) u (fun _=>True) (by rw[pg,Mb];exact Fg.ca [4,10,11,12,13,14,16,17,18,20,21,52,53] (nn [10,10,2,13,0,14,1,16,0,17,0,18]) rfl (by cbv)) ?_
    intro k hk Bc
    try dsimp only
    obtain⟨Q,hQ⟩:∃Q,Q=F u++fG (F u) x1 k::D:=⟨_,rfl⟩;rw[←hQ];generalize wi:Q.map bw.enc=gr
    have hQl:Q.length=B.length:=by rw[hQ,hD];simp[Ph];omega
    refine ej ?_;refine bp.af (fun hq=>?_) (fun hq=>?_)
    ·have eR:k<u:=by rw[←aC]at hq;simp at hq;omega
     have MY:k<Q.length:=by omega
     have MZ:u<Q.length:=by omega
     have zY:=pd (prev:=F u) (b:=x1) (k:=k) (by omega);obtain⟨VG,z8⟩:∃x,Q[k]=x:=⟨_,rfl⟩
     have RZ:aJ (Int.ofNat k) gr 9:=by rw[←aP,wi.symm];exact aO (enc:=bw.enc) MY rfl
     obtain⟨⟨Mf,ij,wj,wq,qx,wD,Aa,Ag,ma⟩,Av⟩:∃y,VG=y:=⟨_,rfl⟩;subst Av
     have wK:aI gr (Int.ofNat k)=[.int .i64 Mf,.str ij,.int .u8 wj,.bool wq,.int .i64 qx,.int .i64 wD,.int .i64 Aa,.int .u8 Ag,.bool ma]:=by rw[←aQ,wi.symm,aN (enc:=bw.enc) MY,z8];rfl
     obtain⟨VP,qy⟩:∃x,Q[u]=x:=⟨_,rfl⟩
     have su:aJ (Int.ofNat u) gr 9:=by rw[←aP,wi.symm];exact aO (enc:=bw.enc) MZ rfl
     obtain⟨⟨wL,gY,jj,jC,gZ,kp,mf,mA,fI⟩,Aw⟩:∃y,VP=y:=⟨_,rfl⟩;subst Aw
     have nI:aI gr (Int.ofNat u)=[.int .i64 wL,.str gY,.int .u8 jj,.bool jC,.int .i64 gZ,.int .i64 kp,.int .i64 mf,.int .u8 mA,.bool fI]:=by rw[←aQ,wi.symm,aN (enc:=bw.enc) MZ,qy];rfl
     have VS:(F u)[k]'(by omega)=Q[k]:=by subst hQ;rw[qbC (by omega)]
     have Mg:fG (F u) x1 k=Q[u]:=by subst hQ;rw[qbz (by omega)];simp[Ph]
     rw[VS,Mg,z8,qy]at zY;refine aY ?_;refine ae RZ ?_;refine gK ?_;rw[wK];refine aY ?_;refine ae su ?_;refine gK ?_;rw[nI];refine aY ?_;rw[nI];obtain⟨qq,NY⟩:∃b:Bool,b=QU ij gY:=⟨_,rfl⟩
     have NZ:qq=true↔ij=gY:=by rw[NY,←aU];simp[aF]
     refine aY ?_;rw[←NY]
     cases qq
     ·have Mh:¬ij=gY:=fun h=>by have:=NZ.2 h;simp at this
      rw[qai Mh]at zY;refine aY ?_;refine ta ⟨eR,trivial,?_⟩;rw[wS mz aw (v:=k) (by omega)];rw[zY,←qy,←Mg,←hQ,wi];exact Fg.ca [4,10,11,12,13,14,16,17,18,20,21,52,53] (nn [10,10,2,13,0,14,1,16,0,17,0,18]) rfl (by cbv)
     ·have Mi:ij=gY:=NZ.1 rfl;rw[qao Mi]at zY;have VT:Q=F u++⟨wL,gY,jj,jC,gZ,kp,mf,mA,fI⟩::D:=hQ.trans (by rw[Mg,qy]);refine aY ?_;refine ae su ?_;refine gK ?_;refine ta ⟨eR,trivial,?_⟩;rw[wS mz aw (v:=k) (by omega)];rw[←wi,VT,yb _ ⟨wL,[],jj,jC,gZ,kp,mf,mA,fI⟩ 1 _ rfl,zY];exact Fg.ca [4,10,11,12,13,14,16,17,18,20,21,52,53] (nn [10,10,2,13,0,14,1,16,0,17,0,18]) rfl (by cbv)
    ·have eR:k=u:=by rw[←aC]at hq;simp at hq;omega
     refine aY ?_;refine wW rfl ?_;refine gK ?_;refine ta ⟨by omega,trivial,?_⟩;rw[wS mz aw (v:=u) (by omega)];rw[←wi,hQ,eR,Vj,←hD,qaR];exact Fg.ca [4,10,11,12,13,14,16,17,18,52,53] (nn [10,10,2,13,0,14,1,16,0,17,0,18]) rfl (by cbv)
  ·have qd:u=nb:=by rw[←aC,←ag]at hc;simp at hc;omega
   have MN:cr=brows:=by rw[←Ie,jb,qd,hnb,List.drop_length,qbw,hF]
   rw[MN];refine aY ?_;refine wW rfl ?_;refine gK ?_;refine o6 ?_;exact⟨[MX rows pz,.c8 18 0,.c8 16 0,Vf srows],_,by cbv,Fg.trans (Fg.sC (id:=16) rfl rfl) (Fg.ca [] [some 18] rfl rfl),by cbv,rfl,[],by cbv⟩
end Go.bt
end
