import Derived.Test.YtfaccbkibjkfjaaGreatDoorT19
import Derived.Test.YtfaccbkibjkfjaaGreatDoorT11
import Derived.Test.YtfaccbkibjkfjaaGreatDoorT10
set_option linter.all false
set_option maxRecDepth 100000
set_option maxHeartbeats 1000000
section
open Go Go.Am Go.Proofs
attribute [local irreducible] Am.bp.holds bH fw bP ek
namespace Go.bt
variable {mx:Int}
open Classical
theorem Cg {S:Nat→Prop} {w:World} {rows sp:List (List PV)} {v:Value} (h:aD S w (.sl rows sp) v):aD S w (.sl rows []) v:=by
 simp only[aD]at h ⊢;obtain⟨a,cap,h1,h2,h3⟩:=h;refine⟨a,cap,h1,by simp;omega,?_⟩
 rcases h3 with h3|⟨b,off,c,sz,h4,h5,h6,h7,h8,h9,UF⟩
 ·exact .inl ⟨h3.1,trivial⟩
 ·exact .inr ⟨b,off,c,sz,h4,h5,h6,h7,(fun r hr=>nomatch hr:aK sz []),h9,trivial⟩
theorem KJ {P:Program} {G:Nat→Option (List PV)} {f:FuncId} {ps qs:List PV} {rows sp:List (List PV)} {res:PV} (h:bE P G f (qs++.sl rows []::ps) res):bE P G f (qs++.sl rows sp::ps) res:=by
 intro S w vs hS hG eQ;refine h S w vs hS hG ?_
 clear h
 induction qs generalizing vs with
 |nil=>
  simp only[qbi,aM]at eQ ⊢;obtain⟨v,r,rfl,h1,h2⟩:=eQ;exact⟨v,r,rfl,Cg h1,h2⟩
 |cons q qs ih=>
  simp only[qaN,aM]at eQ ⊢;obtain⟨v,r,rfl,h1,h2⟩:=eQ;exact⟨v,r,rfl,h1,ih r h2⟩
theorem Mr {l:List aL} {bay row:Int} {deck:Bool}:zN l bay row deck≠[]↔∃c∈l,Ob c bay row deck:=by
 unfold zN ig;constructor
 ·intro h;obtain⟨x,hx⟩:=qbK _ h;obtain⟨k,hk,-⟩:=qaw.1 hx;obtain⟨h1,h2⟩:=qba.1 hk;have h3:=qbU.1 h1;rw[qcu h3]at h2;exact⟨l[k],qaf h3,qaZ h2⟩
 ·rintro⟨c,hc,h⟩ h0;obtain⟨k,hk,rfl⟩:=qaI hc
  have:((k:Nat):Int)∈([]:List Int):=by
   rw[←h0];exact qaw.2 ⟨k,qba.2 ⟨qbU.2 hk,by rw[qcu hk];exact qbT h⟩,rfl⟩
  cases this
theorem DQ {L:List Place}:∀{v:Nat},v≤L.length→(acH L v).length≤v
 |0,_=>by simp[acH]
 |v+1,h=>by
  rw[ad3 (by omega)];have:=DQ (L:=L) (v:=v) (by omega);unfold nQ;split
  ·omega
  ·simp;omega
theorem wh {covers:Int}:∀{u:Nat},(cJ covers u).length≤2*u
 |0=>by simp[cJ]
 |u+1=>by
  have:=wh (covers:=covers) (u:=u);simp only[cJ,se,qal];split<;>split<;>simp<;>omega
theorem Ot {ph rows pz:List (List PV)} {L:List Place} {covers:Int} (hp:ph=L.map Place.enc) (xR:∀x∈L,xw x) (hl:L.length<2^32) (Tp:0≤covers∧covers<2^32) (iv:rows=(ie L).map aL.enc) (rI:pz=(cJ covers 5).map bz.enc):
  pC mx 82 [.sl ph [],.int .u32 covers] (.agg [.sl rows [],.sl pz [],.int .i64 0,.int .i64 0,.int .i64 0,.int .i64 0,.sl [] [],.sl [] [],.sl [] [],.int .i64 0,.int .i64 0,.int .i64 0,.int .i64 0]):=by
 have hlen:ph.length=L.length:=by simp[hp]
 obtain⟨n,hn⟩:∃n,n=min L.length 12:=⟨_,rfl⟩
 have Zk:n≤L.length:=by omega
 have hn2:n≤12:=by omega
 obtain⟨M,hM⟩:∃M,M=L.take n:=⟨_,rfl⟩
 have hMl:M.length=n:=by rw[hM];simp;omega
 obtain⟨mr,MA⟩:∃mr,mr=M.map Place.enc:=⟨_,rfl⟩
 obtain⟨CT,hCT⟩:∃CT:Nat→List aL,CT=fun v=>acH M v:=⟨_,rfl⟩
 have hCT0:CT 0=[]:=by rw[hCT];rfl
 refine pZ Yg ?_;intro IW _ QP _ _ Ys _ QR _ Yt IX
 iterate 35 intro _
 intro yI _ DR Uh _ Vq
 iterate 42 intro _
 intro kK _ _ _ _ _ _ Ab _ tV Ci _ yy J5 eo _ _ _ oZ sg uP l8 dF bJ bX cP cY df aw bu mz aI aQ aJ aP zI aU aV bC bA ag aC;refine gK ?_
 have Cu:QR (l8 ph) 12=Int.ofNat n:=by rw[←Uh,←ag,hn];simp[aF,hlen];omega
 rw[Cu];refine ae (by rw[←kK];simp[aF];omega) ?_;rw[show eo ph 0 (Int.ofNat n)=mr by rw[←uP,MA,hM,hp];simp[aF,qdj]];refine gK ?_;refine jJ (fun v σ_=>((((σ_.tidy [0,1,4,5,16,17,18] (nn [4,4,0,5,63,69,25,95])).put (some 18) (.pv (.int .i64 (Int.ofNat v)))).aq 5 (.cells [.c8 69 0,.c8 95 0,.pv (.int .i64 0),.pv (.int .i64 0),.pv (.int .i64 0),.pv (.int .i64 0),.full [],.full [],.full [],.pv (.int .i64 0),.pv (.int .i64 0),.pv (.int .i64 0),.pv (.int .i64 0)])).aq 69 (.rows 12 ((CT v).map aL.enc) 0)).aq 95 (.rows 2 [] 0)) n (fun _=>True) (by rw[hCT0];exact Fg.trans (Fg.Wd 113 rfl) (Fg.trans (Fg.Th (id:=5) (j:=0) (k:=69) (sz:=12) rfl rfl rfl rfl rfl) (Fg.trans (Fg.Th (id:=5) (j:=1) (k:=95) (sz:=2) rfl rfl rfl rfl rfl) (Fg.ca [0,1,4,5,16,17,18] (nn [4,4,0,5,63,69,25,95]) rfl (by cbv))))) ?_
 intro v hv hk
 try dsimp only
 generalize dA:(CT v).map aL.enc=cur;refine ej ?_;refine bp.af (fun hd=>?_) (fun hd=>?_)
 ·have aT:v<M.length:=by rw[←aC,←ag]at hd;simp[MA]at hd;omega
  obtain⟨gI,bj⟩:∃x,M[v]=x:=⟨_,rfl⟩
  have bG:aJ (Int.ofNat v) mr 4:=by rw[←aP,MA];exact aO (enc:=Place.enc) aT rfl
  obtain⟨⟨dU,jE,eI,gJ⟩,bW⟩:∃y,gI=y:=⟨_,rfl⟩;subst bW
  have aW:aI mr (Int.ofNat v)=[.int .u8 dU,.int .u8 jE,.int .u8 eI,.bool gJ]:=by rw[←aQ,MA,aN (enc:=Place.enc) aT,bj];rfl
  refine aY ?_;refine ae bG ?_;rw[aW];have Ms:=xR _ (qbf (by rw[←hM];exact qaf aT));rw[bj]at Ms;obtain⟨b1,b2,b3,b4,b5,b6⟩:0≤dU∧dU<256∧0≤jE∧jE<256∧0≤eI∧eI<256:=Ms
  have dJ:CT (v+1)=nQ (CT v) M[v]:=by rw[hCT];exact ad3 aT
  rw[bj]at dJ
  have hCl:(CT v).length≤12:=by have:=DQ (L:=M) (v:=v) (by omega);rw[hCT];dsimp only;omega
  have zc:∀x y,df x y=x+y:=fun _ _=>by rw[←aw];rfl
  have fu:∀x y,cP x y=x-y:=fun _ _=>by rw[←cY];rfl
  have hmul:∀x y,tV x y=x*y:=fun _ _=>by rw[←Ci];rfl
  have aaZ:∀x y,0≤x→yy x y=x/y:=fun _ _ h=>by rw[←J5];exact qbj h
  have Vp:∀x y,0≤x→oZ x y=x%y:=fun _ _ h=>by rw[←sg];exact qa8 h
  have hW:∀x,-9223372036854775808≤x→x<9223372036854775808→bu .i64 x=x:=fun _ h1 h2=>by rw[←mz];exact dy h1 h2
  have YG:∀x,0≤x→x<256→bu .u8 x=x:=fun _ h1 h2=>by rw[←mz];exact Zx h1 h2
  obtain⟨cb,Xv⟩:∃cb,cb=dU%5:=⟨_,rfl⟩;obtain⟨cr,Ie⟩:∃cr,cr=jE%5:=⟨_,rfl⟩;obtain⟨t4,ht4⟩:∃t4,t4=eI%4:=⟨_,rfl⟩;obtain⟨ct,hct⟩:∃ct,ct=2+t4:=⟨_,rfl⟩;obtain⟨cx,WQ⟩:∃cx,cx=13000*cb-26000:=⟨_,rfl⟩;obtain⟨cy,W7⟩:∃cy,cy=2500*cr-5000:=⟨_,rfl⟩
  have hB5:oZ (bu .i64 dU) 5=cb:=by rw[hW _ (by omega) (by omega),Vp _ _ (by omega),Xv]
  have hR5:oZ (bu .i64 jE) 5=cr:=by rw[hW _ (by omega) (by omega),Vp _ _ (by omega),Ie]
  have hT4:oZ (bu .i64 eI) 4=t4:=by rw[hW eI (by omega) (by omega),Vp _ _ (by omega),ht4]
  have hT2:bu .i64 (df 2 t4)=ct:=by rw[zc,hW _ (by omega) (by omega),hct]
  have hX:bu .i64 (cP (bu .i64 (tV 13000 cb)) 26000)=cx:=by rw[hmul,hW (13000*cb) (by omega) (by omega),fu,hW _ (by omega) (by omega),WQ]
  have hY:bu .i64 (cP (bu .i64 (tV 2500 cr)) 5000)=cy:=by rw[hmul,hW (2500*cr) (by omega) (by omega),fu,hW _ (by omega) (by omega),W7]
  have hz5:Yt 5:=by rw[←Ab];simp[aF]
  have hz4:Yt 4:=by rw[←Ab];simp[aF]
  refine gK ?_;refine ae hz5 ?_;rw[hB5];refine gK ?_;refine ae hz5 ?_;rw[hR5];refine gK ?_;refine ae hz4 ?_;rw[hT4];obtain⟨q,hq⟩:∃q:Bool,q=decide (zN (CT v) cb cr gJ≠[]):=⟨_,rfl⟩;have WL:=Ml (mx:=mx) (csp:=[]) (vv:=[]) (vsp:=[]) (r:=[]) (rsp:=[]) (f:=[]) (fsp:=[]) (t:=[]) (tsp:=[]) (l1:=0) (l2:=0) (l3:=0) (l4:=0) (m1:=0) (m2:=0) (m3:=0) (m4:=0) (cl:=CT v) (bay:=cb) (row:=cr) (deck:=gJ) dA.symm (by omega) rfl hq
  generalize (zN (CT v) cb cr gJ).headD 0=hh at WL
  cases gJ
  all_goals
   refine gK ?_;rw[hX,hY,hT2];refine ao (by cbv) WL (fun h=>by first|rfl|cases h) ?_
   cases q
   ·have ze:=fun h=>qbL hq.symm (Mr.2 h)
    refine gK ?_;refine ae (by rw[←dF,←dA];exact⟨by simp;omega,by simp;omega,by simp,Kh (enc:=aL.enc) (fun _=>rfl) _⟩) ?_;refine gK ?_;refine ta ⟨by omega,trivial,?_⟩;rw[wS mz aw (v:=v) (by omega)];rw[dJ,nQ,qai (by rw[←Xv,←Ie];exact ze)];rw[qaX,dA,←bX];simp only[r9,←Xv,←Ie,←ht4,←hct,←WQ,←W7];exact Fg.ca [0,1,4,5,16,17,18] (nn [4,4,0,5,63,69,25,95]) rfl (by cbv)
   ·have Cf:=Mr.1 (qaZ hq.symm);refine gK ?_;refine ta ⟨by omega,trivial,?_⟩;rw[wS mz aw (v:=v) (by omega)];rw[dJ,nQ,qao (by rw[←Xv,←Ie];exact Cf),dA];exact Fg.ca [0,1,4,5,16,17,18] (nn [4,4,0,5,63,69,25,95]) rfl (by cbv)
 ·have aT:v=n:=by rw[←aC,←ag]at hd;simp[MA]at hd;omega
  refine aY ?_;refine wW rfl ?_;refine gK ?_
  have hCn:acH L (min L.length 12)=CT v:=by rw[hCT,aT,←hn];dsimp only;unfold acH;rw[hM,List.take_take,Nat.min_self]
  refine bp.af (fun h0=>?_) (fun h0=>?_)
  ·have wU:CT v=[]:=by
    rw[←bA,←ag,←dA]at h0;simp at h0;exact h0
   have hB:rows=[BX.enc]:=by rw[iv,ie,hCn,qao wU];rfl
   simp only[BX,aL.enc,ints,qaF]at hB;refine aY ?_;refine jJ (fun v σ_=>(((σ_.tidy [0,1,4,5,11] (nn [4,4,0,5,63,69,25,95])).put (some 11) (.pv (.int .i64 (Int.ofNat v))))).aq 95 (.rows 2 ((cJ covers v).map bz.enc) 0)) 5 (fun _=>True) (Fg.ca [0,1,4,5,11] (nn [4,4,0,5,63,69,25,95]) rfl (by cbv)) ?_;intro u hu Ze
   try dsimp only
   generalize y0:(cJ covers u).map bz.enc=cv;refine ej ?_;refine bp.af (fun um=>?_) (fun um=>?_)
   ·rw[←aC]at um;simp at um;obtain⟨e1,UQ⟩:∃e1:Int,e1=2*(u:Int):=⟨_,rfl⟩;obtain⟨e2,Ix⟩:∃e2:Int,e2=2*(u:Int)+1:=⟨_,rfl⟩
    have Ow:bu .i64 (tV 2 (Int.ofNat u))=e1:=by rw[←mz,←Ci,UQ];exact dy (n:=2*(u:Int)) (by omega) (by omega)
    have hm2:bu .i64 (df e1 1)=e2:=by rw[←mz,←aw,Ix,UQ];exact dy (n:=2*(u:Int)+1) (by omega) (by omega)
    have XB:sD covers e1=Ys (IW .and .u32 (QP .u32 covers e1) 1) 1:=by rw[←bA,←yI,←DR];rfl
    have Y4:sD covers e2=Ys (IW .and .u32 (QP .u32 covers e2) 1) 1:=by rw[←bA,←yI,←DR];rfl
    have YJ:IX e1:=by rw[←Vq];show 0≤e1;omega
    have Ui:IX e2:=by rw[←Vq];show 0≤e2;omega
    have ahl:(cJ covers u).length≤2*u:=wh
    have hP:cJ covers (u+1)=cJ covers u++((if sD covers e1 then [⟨(u:Int),[0,1],[]⟩]else [])++(if sD covers e2 then [⟨(u:Int),[2,3,4],[]⟩]else [])):=by rw[cJ,se,UQ,Ix]
    rw[XB,Y4]at hP;refine aY ?_;rw[Ow];refine ae YJ ?_;refine gK ?_;refine bp.af (fun WE=>?_) (fun WE=>?_)
    ·rw[WE,qao rfl]at hP;refine aY ?_;refine ae (by rw[←dF,←y0];exact⟨by simp;omega,by simp;omega,by simp,Kh (enc:=bz.enc) (fun _=>rfl) _⟩) ?_;obtain⟨cw,U3⟩:∃cw,cw=(cJ covers u++[(⟨(u:Int),[0,1],[]⟩:bz)]).map bz.enc:=⟨_,rfl⟩;rw[show bJ cv [[.int .i64 (Int.ofNat u),.sl [[.int .i64 0],[.int .i64 1]] []]]=cw by rw[←bX,←y0,U3];simp;rfl];refine gK ?_;rw[Ow,hm2];refine ae Ui ?_;refine gK ?_;refine bp.af (fun oA=>?_) (fun oA=>?_)
     ·rw[oA,qao rfl]at hP;refine aY ?_;refine ae (by rw[←dF,U3];exact⟨by simp;omega,by simp;omega,by simp,Kh (enc:=bz.enc) (fun _=>rfl) _⟩) ?_;refine gK ?_;refine ta ⟨by omega,trivial,?_⟩;rw[wS mz aw (v:=u) (by omega)];rw[show bJ cw [[.int .i64 (Int.ofNat u),.sl [[.int .i64 2],[.int .i64 3],[.int .i64 4]] []]]=(cJ covers (u+1)).map bz.enc by rw[←bX,U3,hP];simp;rfl];exact Fg.ca [0,1,4,5,11] (nn [4,4,0,5,63,69,25,95]) rfl (by cbv)
     ·rw[oA,qai (by simp)]at hP;refine aY ?_;refine ta ⟨by omega,trivial,?_⟩;rw[wS mz aw (v:=u) (by omega)];rw[show cw=(cJ covers (u+1)).map bz.enc by rw[U3,hP];simp];exact Fg.ca [0,1,4,5,11] (nn [4,4,0,5,63,69,25,95]) rfl (by cbv)
    ·rw[WE,qai (by simp)]at hP;refine aY ?_;rw[Ow,hm2];refine ae Ui ?_;refine gK ?_;refine bp.af (fun oA=>?_) (fun oA=>?_)
     ·rw[oA,qao rfl]at hP;refine aY ?_;refine ae (by rw[←dF,←y0];exact⟨by simp;omega,by simp;omega,by simp,Kh (enc:=bz.enc) (fun _=>rfl) _⟩) ?_;refine gK ?_;refine ta ⟨by omega,trivial,?_⟩;rw[wS mz aw (v:=u) (by omega)];rw[show bJ cv [[.int .i64 (Int.ofNat u),.sl [[.int .i64 2],[.int .i64 3],[.int .i64 4]] []]]=(cJ covers (u+1)).map bz.enc by rw[←bX,←y0,hP];simp;rfl];exact Fg.ca [0,1,4,5,11] (nn [4,4,0,5,63,69,25,95]) rfl (by cbv)
     ·rw[oA,qai (by simp)]at hP;refine aY ?_;refine ta ⟨by omega,trivial,?_⟩;rw[wS mz aw (v:=u) (by omega)];rw[show cv=(cJ covers (u+1)).map bz.enc by rw[←y0,hP];simp];exact Fg.ca [0,1,4,5,11] (nn [4,4,0,5,63,69,25,95]) rfl (by cbv)
   ·rw[←aC]at um;simp at um
    have hu5:u=5:=by omega
    rw[hu5]at y0;refine aY ?_;refine wW rfl ?_;refine gK ?_;refine aX ?_;rw[hB,rI,y0]
  ·have wU:CT v≠[]:=by
    rw[←bA,←ag,←dA]at h0;simp at h0;exact h0
   have hB:rows=cur:=by rw[iv,ie,hCn,qai wU,dA]
   refine aY ?_;refine jJ (fun v σ_=>(((σ_.tidy [0,1,4,5,11] (nn [4,4,0,5,63,69,25,95])).put (some 11) (.pv (.int .i64 (Int.ofNat v))))).aq 95 (.rows 2 ((cJ covers v).map bz.enc) 0)) 5 (fun _=>True) (Fg.ca [0,1,4,5,11] (nn [4,4,0,5,63,69,25,95]) rfl (by cbv)) ?_;intro u hu Ze
   try dsimp only
   generalize y0:(cJ covers u).map bz.enc=cv;refine ej ?_;refine bp.af (fun um=>?_) (fun um=>?_)
   ·rw[←aC]at um;simp at um;obtain⟨e1,UQ⟩:∃e1:Int,e1=2*(u:Int):=⟨_,rfl⟩;obtain⟨e2,Ix⟩:∃e2:Int,e2=2*(u:Int)+1:=⟨_,rfl⟩
    have Ow:bu .i64 (tV 2 (Int.ofNat u))=e1:=by rw[←mz,←Ci,UQ];exact dy (n:=2*(u:Int)) (by omega) (by omega)
    have hm2:bu .i64 (df e1 1)=e2:=by rw[←mz,←aw,Ix,UQ];exact dy (n:=2*(u:Int)+1) (by omega) (by omega)
    have XB:sD covers e1=Ys (IW .and .u32 (QP .u32 covers e1) 1) 1:=by rw[←bA,←yI,←DR];rfl
    have Y4:sD covers e2=Ys (IW .and .u32 (QP .u32 covers e2) 1) 1:=by rw[←bA,←yI,←DR];rfl
    have YJ:IX e1:=by rw[←Vq];show 0≤e1;omega
    have Ui:IX e2:=by rw[←Vq];show 0≤e2;omega
    have ahl:(cJ covers u).length≤2*u:=wh
    have hP:cJ covers (u+1)=cJ covers u++((if sD covers e1 then [⟨(u:Int),[0,1],[]⟩]else [])++(if sD covers e2 then [⟨(u:Int),[2,3,4],[]⟩]else [])):=by rw[cJ,se,UQ,Ix]
    rw[XB,Y4]at hP;refine aY ?_;rw[Ow];refine ae YJ ?_;refine gK ?_;refine bp.af (fun WE=>?_) (fun WE=>?_)
    ·rw[WE,qao rfl]at hP;refine aY ?_;refine ae (by rw[←dF,←y0];exact⟨by simp;omega,by simp;omega,by simp,Kh (enc:=bz.enc) (fun _=>rfl) _⟩) ?_;obtain⟨cw,U3⟩:∃cw,cw=(cJ covers u++[(⟨(u:Int),[0,1],[]⟩:bz)]).map bz.enc:=⟨_,rfl⟩;rw[show bJ cv [[.int .i64 (Int.ofNat u),.sl [[.int .i64 0],[.int .i64 1]] []]]=cw by rw[←bX,←y0,U3];simp;rfl];refine gK ?_;rw[Ow,hm2];refine ae Ui ?_;refine gK ?_;refine bp.af (fun oA=>?_) (fun oA=>?_)
     ·rw[oA,qao rfl]at hP;refine aY ?_;refine ae (by rw[←dF,U3];exact⟨by simp;omega,by simp;omega,by simp,Kh (enc:=bz.enc) (fun _=>rfl) _⟩) ?_;refine gK ?_;refine ta ⟨by omega,trivial,?_⟩;rw[wS mz aw (v:=u) (by omega)];rw[show bJ cw [[.int .i64 (Int.ofNat u),.sl [[.int .i64 2],[.int .i64 3],[.int .i64 4]] []]]=(cJ covers (u+1)).map bz.enc by rw[←bX,U3,hP];simp;rfl];exact Fg.ca [0,1,4,5,11] (nn [4,4,0,5,63,69,25,95]) rfl (by cbv)
     ·rw[oA,qai (by simp)]at hP;refine aY ?_;refine ta ⟨by omega,trivial,?_⟩;rw[wS mz aw (v:=u) (by omega)];rw[show cw=(cJ covers (u+1)).map bz.enc by rw[U3,hP];simp];exact Fg.ca [0,1,4,5,11] (nn [4,4,0,5,63,69,25,95]) rfl (by cbv)
    ·rw[WE,qai (by simp)]at hP;refine aY ?_;rw[Ow,hm2];refine ae Ui ?_;refine gK ?_;refine bp.af (fun oA=>?_) (fun oA=>?_)
     ·rw[oA,qao rfl]at hP;refine aY ?_;refine ae (by rw[←dF,←y0];exact⟨by simp;omega,by simp;omega,by simp,Kh (enc:=bz.enc) (fun _=>rfl) _⟩) ?_;refine gK ?_;refine ta ⟨by omega,trivial,?_⟩;rw[wS mz aw (v:=u) (by omega)];rw[show bJ cv [[.int .i64 (Int.ofNat u),.sl [[.int .i64 2],[.int .i64 3],[.int .i64 4]] []]]=(cJ covers (u+1)).map bz.enc by rw[←bX,←y0,hP];simp;rfl];exact Fg.ca [0,1,4,5,11] (nn [4,4,0,5,63,69,25,95]) rfl (by cbv)
     ·rw[oA,qai (by simp)]at hP;refine aY ?_;refine ta ⟨by omega,trivial,?_⟩;rw[wS mz aw (v:=u) (by omega)];rw[show cv=(cJ covers (u+1)).map bz.enc by rw[←y0,hP];simp];exact Fg.ca [0,1,4,5,11] (nn [4,4,0,5,63,69,25,95]) rfl (by cbv)
   ·rw[←aC]at um;simp at um
    have hu5:u=5:=by omega
    rw[hu5]at y0;refine aY ?_;refine wW rfl ?_;refine gK ?_;refine aX ?_;rw[hB,rI,y0]
theorem Uj {ph sp rows pz:List (List PV)} {L:List Place} {covers:Int} (hp:ph=L.map Place.enc) (xR:∀x∈L,xw x) (hl:L.length<2^32) (Tp:0≤covers∧covers<2^32) (iv:rows=(ie L).map aL.enc) (rI:pz=(cJ covers 5).map bz.enc):
  pC mx 82 [.sl ph sp,.int .u32 covers] (.agg [.sl rows [],.sl pz [],.int .i64 0,.int .i64 0,.int .i64 0,.int .i64 0,.sl [] [],.sl [] [],.sl [] [],.int .i64 0,.int .i64 0,.int .i64 0,.int .i64 0]):=
 KJ (qs:=[]) (Ot hp xR hl Tp iv rI)
end Go.bt
end
