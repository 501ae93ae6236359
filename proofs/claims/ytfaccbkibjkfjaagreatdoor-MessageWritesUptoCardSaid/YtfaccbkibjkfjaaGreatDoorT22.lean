import Derived.Test.YtfaccbkibjkfjaaGreatDoorT20
import Derived.Test.YtfaccbkibjkfjaaGreatDoorT47
import Derived.Test.YtfaccbkibjkfjaaGreatDoorT41
import Derived.Test.YtfaccbkibjkfjaaGreatDoorT13
import Derived.Test.YtfaccbkibjkfjaaGreatDoorT19
set_option linter.all false
set_option maxRecDepth 100000
set_option maxHeartbeats 1000000
section
open Go Go.Am Go.Proofs
attribute [local irreducible] Am.bl.holds bA fw bC dv
namespace Go.bW
variable {mx:Int}
open Classical
def Lt:Prop:=∀{n:Nat} {t:List UInt8},n<2^40→t=digits n→pC mx 32 [.int .i64 (Int.ofNat n)] (.str t)
theorem Fz (hI:Lt (mx:=mx)) {c csp vv vsp r rsp f fsp t tsp:List (List PV)} {l1 l2 l3 l4 m1 m2 m3 m4:Int} {rows sp bF bsp W:List (List PV)} {cl:List aM} {vl:List bq} {l:List aT} {boxes:List cE} {call:Int} {port ref:List UInt8} (ff:c=cl.map aM.enc) (lU:vv=vl.map bq.enc) (mj:cl.length<2^32) (rP:vl.length<2^32) (oc:∀x∈cl,x.b9.length<2^32) (rv:∀x∈vl,x.rows.length<2^16)
  (cq:rows=l.map aT.enc) (gN:bF=boxes.map cE.enc) (hl:l.length<2^20) (ph:boxes.length<2^20) (bL:∀x∈l,kF x) (oC:∀b∈boxes,mw b) (hS:fO cl vl call port boxes l) (hW:W=(du cl vl call port boxes l boxes.length).map bT):
  pC mx 86 [.agg [.sl c csp,.sl vv vsp,.int .i64 l1,.int .i64 l2,.int .i64 l3,.int .i64 l4,.sl r rsp,.sl f fsp,.sl t tsp,.int .i64 m1,.int .i64 m2,.int .i64 m3,.int .i64 m4],.str ref,.agg [.int .i64 call,.str port,.sl bF bsp,.sl rows sp]] (.agg [.str lE,.str ref,.sl W []]):=by
 have zX:rows.length=l.length:=by simp[cq]
 have GP:bF.length=boxes.length:=by simp[gN]
 obtain⟨k,hk⟩:∃k:Nat,call=Int.ofNat k:=⟨call.toNat,by have:=hS.1;simp;omega⟩;obtain⟨lI,zZ,zU,sK,tE,O4⟩:=hS;obtain⟨kd,Io⟩:∃x,x=digits k:=⟨_,rfl⟩;subst hk;refine pZ E9 ?_
 iterate 105 intro _
 intro gO
 iterate 10 intro _
 intro bO bs bE _ _ bg aO aw ak aI aU aL aP aB aV aW bp bu ah aD;refine gK ?_;refine ao (by cbv) (hI (n:=k) (by have:=lI.2;simp at this;omega) Io) (fun h=>by first|rfl|cases h) ?_;refine gK ?_;refine ao (by cbv) (iT (l:=[kd,port]) rfl rfl (by simp)) (fun h=>by first|rfl|cases h) ?_;refine gK ?_;refine gL ?_;refine dC ?_;refine bl.af (fun h1=>?_) (fun h1=>?_)
 ·have h0:0<boxes.length:=by rw[←aD,←ah]at h1;simp at h1;omega
  obtain⟨kD,bh⟩:∃x,boxes[0]=x:=⟨_,rfl⟩
  have bx:aL (Int.ofNat 0) bF 9:=by rw[←aP,gN];exact aR (enc:=cE.enc) h0 rfl
  obtain⟨⟨mP,eH,gi,gj,dY,gk,jJ,jK,dJ⟩,cK⟩:∃y,kD=y:=⟨_,rfl⟩;subst cK
  have a6:aI bF (Int.ofNat 0)=[.int .i64 mP,.str eH,.int .u8 gi,.bool gj,.int .i64 dY,.int .i64 gk,.int .i64 jJ,.int .u8 jK,.bool dJ]:=by rw[←aU,gN,aQ (enc:=cE.enc) h0,bh];rfl
  have j7:0<l.length:=by omega
  obtain⟨C8,dq⟩:∃x,l[0]=x:=⟨_,rfl⟩
  have dT:aL (Int.ofNat 0) rows 4:=by rw[←aP,cq];exact aR (enc:=aT.enc) j7 rfl
  obtain⟨⟨tC,⟨nf,jY,jZ⟩⟩,lk⟩:∃y,C8=y:=⟨_,rfl⟩;subst lk
  have cL:aI rows (Int.ofNat 0)=[.int .i64 tC,.int .i64 nf,.int .i64 jY,.int .u8 jZ]:=by rw[←aU,cq,aQ (enc:=aT.enc) j7,dq];rfl
  have qv:=(sK.2 0 h0 h0).1;have qw:=bL _ (List.getElem_mem j7);rw[bh]at qv;rw[dq]at qw;obtain⟨⟨xP,qx⟩,-,-,⟨xQ,mz⟩,⟨xR,qy,B9⟩,qz⟩:=qv;dsimp only at xP qx xQ mz xR qy B9 qz;have qA:=oC _ (List.getElem_mem h0);rw[bh]at qA;have xS:=qA.2.1.1;dsimp only at xS
  have Jf:dY≤40000:=by unfold most at mz;(repeat' split at mz)<;>omega
  obtain⟨tF,xT⟩:∃n:Nat,mP=Int.ofNat n:=⟨mP.toNat,by simp;omega⟩;obtain⟨tG,xU⟩:∃n:Nat,dY=Int.ofNat n:=⟨dY.toNat,by simp;omega⟩;obtain⟨tH,xV⟩:∃n:Nat,gk=Int.ofNat n:=⟨gk.toNat,by simp;omega⟩;obtain⟨tI,xW⟩:∃n:Nat,jJ=Int.ofNat n:=⟨jJ.toNat,by simp;omega⟩;obtain⟨od,xX⟩:∃n:Nat,jK=Int.ofNat n:=⟨jK.toNat,by simp;omega⟩;subst xT xU xV xW xX;simp only[Int.ofNat_eq_natCast]at qx Jf qy B9 qz;obtain⟨tid,mA⟩:∃x,x=digits tF:=⟨_,rfl⟩
  obtain⟨xY,mB⟩:∃x,x=digits tG:=⟨_,rfl⟩;obtain⟨xZ,mC⟩:∃x,x=digits tH:=⟨_,rfl⟩;obtain⟨x6,mD⟩:∃x,x=digits tI:=⟨_,rfl⟩;obtain⟨Df,qB⟩:∃x,x=digits od:=⟨_,rfl⟩;obtain⟨⟨nm,e1⟩,sQ⟩:∃x,fG cl vl ⟨nf,jY,jZ⟩=x:=⟨_,rfl⟩;obtain⟨⟨cd,e2⟩,vz⟩:∃x,gH ⟨Int.ofNat tF,eH,gi,gj,Int.ofNat tG,Int.ofNat tH,Int.ofNat tI,Int.ofNat od,dJ⟩=x:=⟨_,rfl⟩;refine dp ?_;refine ae bx ?_;rw[show aI bF 0=_ from a6];refine gK ?_;refine ae dT ?_
  rw[show aI rows 0=_ from cL];refine gK ?_;refine ao (by cbv) (BN (x:=⟨nf,jY,jZ⟩) ff lU mj rP oc rv qw.2.2.2 sQ) (fun h=>by first|rfl|cases h) ?_;refine gK ?_;refine an (by cbv) (BL (cs:=[.int .i64 (Int.ofNat tF),.str eH,.int .u8 gi,.bool gj,.int .i64 (Int.ofNat tG),.int .i64 (Int.ofNat tH),.int .i64 (Int.ofNat tI),.int .u8 (Int.ofNat od),.bool dJ]) rfl vz) (fun h=>by first|rfl|cases h) ?_;refine gK ?_
  refine ao (by cbv) (iT (l:=[nm]) rfl rfl (by simp)) (fun h=>by first|rfl|cases h) ?_;refine gK ?_;refine ao (by cbv) (hI (n:=tF) (by omega) mA) (fun h=>by first|rfl|cases h) ?_;refine gK ?_;refine ao (by cbv) (iT (l:=[tid,eH,cd]) rfl rfl (by simp)) (fun h=>by first|rfl|cases h) ?_;refine gK ?_;refine ao (by cbv) (hI (n:=tG) (by omega) mB) (fun h=>by first|rfl|cases h) ?_;refine gK ?_;refine ao (by cbv) (iT (l:=[xY]) rfl rfl (by simp)) (fun h=>by first|rfl|cases h) ?_
  refine gK ?_;refine ao (by cbv) (hI (n:=tH) (by omega) mC) (fun h=>by first|rfl|cases h) ?_;refine gK ?_;refine ao (by cbv) (hI (n:=tI) (by omega) mD) (fun h=>by first|rfl|cases h) ?_;refine gK ?_;refine ao (by cbv) (iT (l:=[xZ,x6]) rfl rfl (by simp)) (fun h=>by first|rfl|cases h) ?_;refine gK ?_;have eY:=jv (c:=cl) (v:=vl) (call:=Int.ofNat k) (port:=port) (boxes:=boxes) (l:=l) (n:=0) h0 j7;rw[bh,dq]at eY
  obtain⟨z,hz⟩:∃z,z=(du cl vl (Int.ofNat k) port boxes l (0+1)).map bT:=⟨_,rfl⟩;obtain⟨c4,Dg⟩:∃x,x=bs [[.str [86,79,89],.sl [[.sl [[.str kd]] []],[.sl [[.str port]] []]] []]] [[.str [76,79,67],.sl [[.sl [[.str nm]] []]] []],[.str [69,81,68],.sl [[.sl [[.str tid]] []],[.sl [[.str eH]] []],[.sl [[.str cd]] []]] []],[.str [77,69,65],.sl [[.sl [[.str xY]] []]] []],[.str [82,70,70],.sl [[.sl [[.str xZ]] []],[.sl [[.str x6]] []]] []]]:=⟨_,rfl⟩
  have j8:c4=(du cl vl (Int.ofNat k) port boxes l 0).map bT++[[.str [76,79,67],.sl [[.sl [[.str nm]] []]] []],[.str [69,81,68],.sl [[.sl [[.str tid]] []],[.sl [[.str eH]] []],[.sl [[.str cd]] []]] []],[.str [77,69,65],.sl [[.sl [[.str xY]] []]] []],[.str [82,70,70],.sl [[.sl [[.str xZ]] []],[.sl [[.str x6]] []]] []]]:=by rw[Dg,←bE,bK];congr 1;simp[du,bT,fo,eK,Io]
  refine ae ?_ ?_
  ·first|rw[←bO,←gO]|rw[←bO]
   refine⟨?_,by rw[lN];right;simp⟩;rw[cU];exact⟨by simp,by simp,by simp[cr,fr],fun r hr=>by simp at hr;subst hr;rfl⟩
  rw[←Dg];refine gK ?_;refine bl.af (fun gE=>?_) (fun gE=>?_)
  ·replace gE:=eT gE
   refine dp ?_;rw[show aw .i64 (Int.ofNat od)=Int.ofNat od by rw[←ak];simp only[ct];rw[dh]<;>simp<;>omega];refine ao (by cbv) (hI (n:=od) (by omega) qB) (fun h=>by first|rfl|cases h) ?_;refine gK ?_;refine ao (by cbv) (iT (l:=[Df]) rfl rfl (by simp)) (fun h=>by first|rfl|cases h) ?_;refine gK ?_;refine ae ?_ ?_
   ·rw[←bO]
    have Dh:c4.length=(du cl vl (Int.ofNat k) port boxes l 0).length+4:=by rw[j8];simp
    have h4n:=e7 (c:=cl) (v:=vl) (call:=Int.ofNat k) (port:=port) (boxes:=boxes) (l:=l) (n:=0);rw[cU]
    exact⟨by rw[Dh];simp only[List.length_cons,List.length_nil];omega,by rw[Dh];simp only[List.length_cons,List.length_nil];omega,by simp[cr,fr],fun r hr=>by
     rw[j8]at hr
     rcases List.mem_append.1 hr with h|h
     ·exact bj (enc:=bT) (n:=2) (fun _=>rfl) _ r h
     ·simp at h
      rcases h with rfl|rfl|rfl|rfl<;>rfl⟩
   rw[show bs c4 [[.str [68,71,83],.sl [[.sl [[.str Df]] []]] []]]=z by
    rw[←bE,bK,hz,j8,eY,List.map_append,List.append_assoc]
    congr 1
    simp only[iS,sQ,vz];rw[if_pos (by simpa using gE)]
    simp[bT,fo,eK,mA,mB,mC,mD,qB]]
   refine gK ?_;refine ai ?_;rw[show aw .i64 (bg 0 1)=Int.ofNat (0+1) by subst_vars;exact fZ (v:=0) (by omega),hz];refine bG [3,5,6,7,25,26,27] (nn [3,3,1,5,0,6,0,7,67,75]) (fun v σ_=>σ_.put (some 27) (.pv (.int .i64 (Int.ofNat (v+1))))|>.aC 7 (.cells [.pv (.str [66,65,89,80,76,78]),.pv (.str ref),.dB 75 0])|>.aC 75 (.rows 2 ((du cl vl (Int.ofNat k) port boxes l (v+1)).map bT) 0)) ((boxes.length-1)) (fun k=>True) ?_
   intro v hv hk
   try dsimp only
   generalize hw:v+1=w;generalize cw:(du cl vl (Int.ofNat k) port boxes l w).map bT=cur;refine dC ?_;refine bl.af (fun hd=>?_) (fun hd=>?_)
   ·have aY:w<boxes.length:=by rw[←aD,←ah]at hd;simp at hd;omega
    have E1:=e7 (c:=cl) (v:=vl) (call:=Int.ofNat k) (port:=port) (boxes:=boxes) (l:=l) (n:=w)
    have GQ:cur.length≤1+5*w:=by rw[←cw];simpa using E1
    have sL:aS 2 cur:=by rw[←cw];exact bj (enc:=bT) (fun _=>rfl) _
    obtain⟨O5,gP⟩:∃x,boxes[w]=x:=⟨_,rfl⟩
    have jL:aL (Int.ofNat w) bF 9:=by rw[←aP,gN];exact aR (enc:=cE.enc) aY rfl
    obtain⟨⟨qC,fI,iv,iw,eo,iy,ll,ln,eC⟩,tJ⟩:∃y,O5=y:=⟨_,rfl⟩;subst tJ
    have jx:aI bF (Int.ofNat w)=[.int .i64 qC,.str fI,.int .u8 iv,.bool iw,.int .i64 eo,.int .i64 iy,.int .i64 ll,.int .u8 ln,.bool eC]:=by rw[←aU,gN,aQ (enc:=cE.enc) aY,gP];rfl
    have j7:w<l.length:=by omega
    obtain⟨VJ,mE⟩:∃x,l[w]=x:=⟨_,rfl⟩
    have tK:aL (Int.ofNat w) rows 4:=by rw[←aP,cq];exact aR (enc:=aT.enc) j7 rfl
    obtain⟨⟨x7,⟨mF,jy,jz⟩⟩,x8⟩:∃y,VJ=y:=⟨_,rfl⟩;subst x8
    have oT:aI rows (Int.ofNat w)=[.int .i64 x7,.int .i64 mF,.int .i64 jy,.int .u8 jz]:=by rw[←aU,cq,aQ (enc:=aT.enc) j7,mE];rfl
    have qv:=(sK.2 w aY aY).1;have qw:=bL _ (List.getElem_mem j7);rw[gP]at qv;rw[mE]at qw;obtain⟨⟨xP,qx⟩,-,-,⟨xQ,mz⟩,⟨xR,qy,B9⟩,qz⟩:=qv;dsimp only at xP qx xQ mz xR qy B9 qz;have qA:=oC _ (List.getElem_mem aY);rw[gP]at qA;have xS:=qA.2.1.1;dsimp only at xS
    have Jf:eo≤40000:=by unfold most at mz;(repeat' split at mz)<;>omega
    obtain⟨tF,xT⟩:∃n:Nat,qC=Int.ofNat n:=⟨qC.toNat,by simp;omega⟩;obtain⟨tG,xU⟩:∃n:Nat,eo=Int.ofNat n:=⟨eo.toNat,by simp;omega⟩;obtain⟨tH,xV⟩:∃n:Nat,iy=Int.ofNat n:=⟨iy.toNat,by simp;omega⟩;obtain⟨tI,xW⟩:∃n:Nat,ll=Int.ofNat n:=⟨ll.toNat,by simp;omega⟩;obtain⟨od,xX⟩:∃n:Nat,ln=Int.ofNat n:=⟨ln.toNat,by simp;omega⟩;subst xT xU xV xW xX;simp only[Int.ofNat_eq_natCast]at qx Jf qy B9 qz;obtain⟨tid,mA⟩:∃x,x=digits tF:=⟨_,rfl⟩
    obtain⟨xY,mB⟩:∃x,x=digits tG:=⟨_,rfl⟩;obtain⟨xZ,mC⟩:∃x,x=digits tH:=⟨_,rfl⟩;obtain⟨x6,mD⟩:∃x,x=digits tI:=⟨_,rfl⟩;obtain⟨Df,qB⟩:∃x,x=digits od:=⟨_,rfl⟩;obtain⟨⟨nm,e1⟩,sQ⟩:∃x,fG cl vl ⟨mF,jy,jz⟩=x:=⟨_,rfl⟩;obtain⟨⟨cd,e2⟩,vz⟩:∃x,gH ⟨Int.ofNat tF,fI,iv,iw,Int.ofNat tG,Int.ofNat tH,Int.ofNat tI,Int.ofNat od,eC⟩=x:=⟨_,rfl⟩;refine dp ?_;refine ae jL ?_;rw[jx];refine gK ?_;refine ae tK ?_;rw[oT];refine gK ?_
    refine ao (by cbv) (BN (x:=⟨mF,jy,jz⟩) ff lU mj rP oc rv qw.2.2.2 sQ) (fun h=>by first|rfl|cases h) ?_;refine gK ?_;refine an (by cbv) (BL (cs:=[.int .i64 (Int.ofNat tF),.str fI,.int .u8 iv,.bool iw,.int .i64 (Int.ofNat tG),.int .i64 (Int.ofNat tH),.int .i64 (Int.ofNat tI),.int .u8 (Int.ofNat od),.bool eC]) rfl vz) (fun h=>by first|rfl|cases h) ?_;refine gK ?_;refine ao (by cbv) (iT (l:=[nm]) rfl rfl (by simp)) (fun h=>by first|rfl|cases h) ?_
    refine gK ?_;refine ao (by cbv) (hI (n:=tF) (by omega) mA) (fun h=>by first|rfl|cases h) ?_;refine gK ?_;refine ao (by cbv) (iT (l:=[tid,fI,cd]) rfl rfl (by simp)) (fun h=>by first|rfl|cases h) ?_;refine gK ?_;refine ao (by cbv) (hI (n:=tG) (by omega) mB) (fun h=>by first|rfl|cases h) ?_;refine gK ?_;refine ao (by cbv) (iT (l:=[xY]) rfl rfl (by simp)) (fun h=>by first|rfl|cases h) ?_;refine gK ?_
    refine ao (by cbv) (hI (n:=tH) (by omega) mC) (fun h=>by first|rfl|cases h) ?_;refine gK ?_;refine ao (by cbv) (hI (n:=tI) (by omega) mD) (fun h=>by first|rfl|cases h) ?_;refine gK ?_;refine ao (by cbv) (iT (l:=[xZ,x6]) rfl rfl (by simp)) (fun h=>by first|rfl|cases h) ?_;refine gK ?_;have eY:=jv (c:=cl) (v:=vl) (call:=Int.ofNat k) (port:=port) (boxes:=boxes) (l:=l) (n:=w) aY j7;rw[gP,mE]at eY;obtain⟨z,hz⟩:∃z,z=(du cl vl (Int.ofNat k) port boxes l (w+1)).map bT:=⟨_,rfl⟩
    obtain⟨c4,Dg⟩:∃x,x=bs cur [[.str [76,79,67],.sl [[.sl [[.str nm]] []]] []],[.str [69,81,68],.sl [[.sl [[.str tid]] []],[.sl [[.str fI]] []],[.sl [[.str cd]] []]] []],[.str [77,69,65],.sl [[.sl [[.str xY]] []]] []],[.str [82,70,70],.sl [[.sl [[.str xZ]] []],[.sl [[.str x6]] []]] []]]:=⟨_,rfl⟩
    have j8:c4=(du cl vl (Int.ofNat k) port boxes l w).map bT++[[.str [76,79,67],.sl [[.sl [[.str nm]] []]] []],[.str [69,81,68],.sl [[.sl [[.str tid]] []],[.sl [[.str fI]] []],[.sl [[.str cd]] []]] []],[.str [77,69,65],.sl [[.sl [[.str xY]] []]] []],[.str [82,70,70],.sl [[.sl [[.str xZ]] []],[.sl [[.str x6]] []]] []]]:=by rw[Dg,←bE,bK];rw[←cw]
    refine ae ?_ ?_
    ·first|rw[←bO,←gO]|rw[←bO]
     skip
     rw[cU];exact⟨by simp;omega,by simp;omega,by simp[cr,fr],sL⟩
    rw[←Dg];refine gK ?_;refine bl.af (fun gE=>?_) (fun gE=>?_)
    ·replace gE:=eT gE
     refine dp ?_;rw[show aw .i64 (Int.ofNat od)=Int.ofNat od by rw[←ak];simp only[ct];rw[dh]<;>simp<;>omega];refine ao (by cbv) (hI (n:=od) (by omega) qB) (fun h=>by first|rfl|cases h) ?_;refine gK ?_;refine ao (by cbv) (iT (l:=[Df]) rfl rfl (by simp)) (fun h=>by first|rfl|cases h) ?_;refine gK ?_;refine ae ?_ ?_
     ·rw[←bO]
      have Dh:c4.length=(du cl vl (Int.ofNat k) port boxes l w).length+4:=by rw[j8];simp
      have h4n:=e7 (c:=cl) (v:=vl) (call:=Int.ofNat k) (port:=port) (boxes:=boxes) (l:=l) (n:=w);rw[cU]
      exact⟨by rw[Dh];simp only[List.length_cons,List.length_nil];omega,by rw[Dh];simp only[List.length_cons,List.length_nil];omega,by simp[cr,fr],fun r hr=>by
       rw[j8]at hr
       rcases List.mem_append.1 hr with h|h
       ·exact bj (enc:=bT) (n:=2) (fun _=>rfl) _ r h
       ·simp at h
        rcases h with rfl|rfl|rfl|rfl<;>rfl⟩
     rw[show bs c4 [[.str [68,71,83],.sl [[.sl [[.str Df]] []]] []]]=z by
      rw[←bE,bK,hz,j8,eY,List.map_append,List.append_assoc]
      congr 1
      simp only[iS,sQ,vz];rw[if_pos (by simpa using gE)]
      simp[bT,fo,eK,mA,mB,mC,mD,qB]]
     refine gK ?_;refine ai ⟨by omega,trivial,?_⟩;rw[wS ak aO (v:=w) (by omega)];rw[←hz]
     cbv
    ·replace gE:=eT gE
     refine dp ?_
     rw[show c4=z by
      rw[hz,j8,eY,List.map_append]
      congr 1
      simp only[iS,sQ,vz];rw[if_neg (by simpa using gE)]
      simp[bT,fo,eK,mA,mB,mC,mD]]
     refine ai ⟨by omega,trivial,?_⟩;rw[wS ak aO (v:=w) (by omega)];rw[←hz]
     cbv
   ·have aY:boxes.length≤w:=by rw[←aD,←ah]at hd;simp at hd;omega
    have VK:w=boxes.length:=by omega
    refine dp ?_;refine au rfl ?_;refine gK ?_;rw[show cur=W by rw[←cw,hW,VK]];refine aN ?_;rfl
  ·replace gE:=eT gE
   refine dp ?_
   rw[show c4=z by
    rw[hz,j8,eY,List.map_append]
    congr 1
    simp only[iS,sQ,vz];rw[if_neg (by simpa using gE)]
    simp[bT,fo,eK,mA,mB,mC,mD]]
   refine ai ?_;rw[show aw .i64 (bg 0 1)=Int.ofNat (0+1) by subst_vars;exact fZ (v:=0) (by omega),hz];refine bG [3,5,6,7,25,26,27] (nn [3,3,1,5,0,6,0,7,67,75]) (fun v σ_=>σ_.put (some 27) (.pv (.int .i64 (Int.ofNat (v+1))))|>.aC 7 (.cells [.pv (.str [66,65,89,80,76,78]),.pv (.str ref),.dB 75 0])|>.aC 75 (.rows 2 ((du cl vl (Int.ofNat k) port boxes l (v+1)).map bT) 0)) ((boxes.length-1)) (fun k=>True) ?_
   intro v hv hk
   try dsimp only
   generalize hw:v+1=w;generalize cw:(du cl vl (Int.ofNat k) port boxes l w).map bT=cur;refine dC ?_;refine bl.af (fun hd=>?_) (fun hd=>?_)
   ·have aY:w<boxes.length:=by rw[←aD,←ah]at hd;simp at hd;omega
    have E1:=e7 (c:=cl) (v:=vl) (call:=Int.ofNat k) (port:=port) (boxes:=boxes) (l:=l) (n:=w)
    have GQ:cur.length≤1+5*w:=by rw[←cw];simpa using E1
    have sL:aS 2 cur:=by rw[←cw];exact bj (enc:=bT) (fun _=>rfl) _
    obtain⟨O5,gP⟩:∃x,boxes[w]=x:=⟨_,rfl⟩
    have jL:aL (Int.ofNat w) bF 9:=by rw[←aP,gN];exact aR (enc:=cE.enc) aY rfl
    obtain⟨⟨qC,fI,iv,iw,eo,iy,ll,ln,eC⟩,tJ⟩:∃y,O5=y:=⟨_,rfl⟩;subst tJ
    have jx:aI bF (Int.ofNat w)=[.int .i64 qC,.str fI,.int .u8 iv,.bool iw,.int .i64 eo,.int .i64 iy,.int .i64 ll,.int .u8 ln,.bool eC]:=by rw[←aU,gN,aQ (enc:=cE.enc) aY,gP];rfl
    have j7:w<l.length:=by omega
    obtain⟨VJ,mE⟩:∃x,l[w]=x:=⟨_,rfl⟩
    have tK:aL (Int.ofNat w) rows 4:=by rw[←aP,cq];exact aR (enc:=aT.enc) j7 rfl
    obtain⟨⟨x7,⟨mF,jy,jz⟩⟩,x8⟩:∃y,VJ=y:=⟨_,rfl⟩;subst x8
    have oT:aI rows (Int.ofNat w)=[.int .i64 x7,.int .i64 mF,.int .i64 jy,.int .u8 jz]:=by rw[←aU,cq,aQ (enc:=aT.enc) j7,mE];rfl
    have qv:=(sK.2 w aY aY).1;have qw:=bL _ (List.getElem_mem j7);rw[gP]at qv;rw[mE]at qw;obtain⟨⟨xP,qx⟩,-,-,⟨xQ,mz⟩,⟨xR,qy,B9⟩,qz⟩:=qv;dsimp only at xP qx xQ mz xR qy B9 qz;have qA:=oC _ (List.getElem_mem aY);rw[gP]at qA;have xS:=qA.2.1.1;dsimp only at xS
    have Jf:eo≤40000:=by unfold most at mz;(repeat' split at mz)<;>omega
    obtain⟨tF,xT⟩:∃n:Nat,qC=Int.ofNat n:=⟨qC.toNat,by simp;omega⟩;obtain⟨tG,xU⟩:∃n:Nat,eo=Int.ofNat n:=⟨eo.toNat,by simp;omega⟩;obtain⟨tH,xV⟩:∃n:Nat,iy=Int.ofNat n:=⟨iy.toNat,by simp;omega⟩;obtain⟨tI,xW⟩:∃n:Nat,ll=Int.ofNat n:=⟨ll.toNat,by simp;omega⟩;obtain⟨od,xX⟩:∃n:Nat,ln=Int.ofNat n:=⟨ln.toNat,by simp;omega⟩;subst xT xU xV xW xX;simp only[Int.ofNat_eq_natCast]at qx Jf qy B9 qz;obtain⟨tid,mA⟩:∃x,x=digits tF:=⟨_,rfl⟩
    obtain⟨xY,mB⟩:∃x,x=digits tG:=⟨_,rfl⟩;obtain⟨xZ,mC⟩:∃x,x=digits tH:=⟨_,rfl⟩;obtain⟨x6,mD⟩:∃x,x=digits tI:=⟨_,rfl⟩;obtain⟨Df,qB⟩:∃x,x=digits od:=⟨_,rfl⟩;obtain⟨⟨nm,e1⟩,sQ⟩:∃x,fG cl vl ⟨mF,jy,jz⟩=x:=⟨_,rfl⟩;obtain⟨⟨cd,e2⟩,vz⟩:∃x,gH ⟨Int.ofNat tF,fI,iv,iw,Int.ofNat tG,Int.ofNat tH,Int.ofNat tI,Int.ofNat od,eC⟩=x:=⟨_,rfl⟩;refine dp ?_;refine ae jL ?_;rw[jx];refine gK ?_;refine ae tK ?_;rw[oT];refine gK ?_
    refine ao (by cbv) (BN (x:=⟨mF,jy,jz⟩) ff lU mj rP oc rv qw.2.2.2 sQ) (fun h=>by first|rfl|cases h) ?_;refine gK ?_;refine an (by cbv) (BL (cs:=[.int .i64 (Int.ofNat tF),.str fI,.int .u8 iv,.bool iw,.int .i64 (Int.ofNat tG),.int .i64 (Int.ofNat tH),.int .i64 (Int.ofNat tI),.int .u8 (Int.ofNat od),.bool eC]) rfl vz) (fun h=>by first|rfl|cases h) ?_;refine gK ?_;refine ao (by cbv) (iT (l:=[nm]) rfl rfl (by simp)) (fun h=>by first|rfl|cases h) ?_
    refine gK ?_;refine ao (by cbv) (hI (n:=tF) (by omega) mA) (fun h=>by first|rfl|cases h) ?_;refine gK ?_;refine ao (by cbv) (iT (l:=[tid,fI,cd]) rfl rfl (by simp)) (fun h=>by first|rfl|cases h) ?_;refine gK ?_;refine ao (by cbv) (hI (n:=tG) (by omega) mB) (fun h=>by first|rfl|cases h) ?_;refine gK ?_;refine ao (by cbv) (iT (l:=[xY]) rfl rfl (by simp)) (fun h=>by first|rfl|cases h) ?_;refine gK ?_
    refine ao (by cbv) (hI (n:=tH) (by omega) mC) (fun h=>by first|rfl|cases h) ?_;refine gK ?_;refine ao (by cbv) (hI (n:=tI) (by omega) mD) (fun h=>by first|rfl|cases h) ?_;refine gK ?_;refine ao (by cbv) (iT (l:=[xZ,x6]) rfl rfl (by simp)) (fun h=>by first|rfl|cases h) ?_;refine gK ?_;have eY:=jv (c:=cl) (v:=vl) (call:=Int.ofNat k) (port:=port) (boxes:=boxes) (l:=l) (n:=w) aY j7;rw[gP,mE]at eY;obtain⟨z,hz⟩:∃z,z=(du cl vl (Int.ofNat k) port boxes l (w+1)).map bT:=⟨_,rfl⟩
    obtain⟨c4,Dg⟩:∃x,x=bs cur [[.str [76,79,67],.sl [[.sl [[.str nm]] []]] []],[.str [69,81,68],.sl [[.sl [[.str tid]] []],[.sl [[.str fI]] []],[.sl [[.str cd]] []]] []],[.str [77,69,65],.sl [[.sl [[.str xY]] []]] []],[.str [82,70,70],.sl [[.sl [[.str xZ]] []],[.sl [[.str x6]] []]] []]]:=⟨_,rfl⟩
    have j8:c4=(du cl vl (Int.ofNat k) port boxes l w).map bT++[[.str [76,79,67],.sl [[.sl [[.str nm]] []]] []],[.str [69,81,68],.sl [[.sl [[.str tid]] []],[.sl [[.str fI]] []],[.sl [[.str cd]] []]] []],[.str [77,69,65],.sl [[.sl [[.str xY]] []]] []],[.str [82,70,70],.sl [[.sl [[.str xZ]] []],[.sl [[.str x6]] []]] []]]:=by rw[Dg,←bE,bK];rw[←cw]
    refine ae ?_ ?_
    ·first|rw[←bO,←gO]|rw[←bO]
     skip
     rw[cU];exact⟨by simp;omega,by simp;omega,by simp[cr,fr],sL⟩
    rw[←Dg];refine gK ?_;refine bl.af (fun gE=>?_) (fun gE=>?_)
    ·replace gE:=eT gE
     refine dp ?_;rw[show aw .i64 (Int.ofNat od)=Int.ofNat od by rw[←ak];simp only[ct];rw[dh]<;>simp<;>omega];refine ao (by cbv) (hI (n:=od) (by omega) qB) (fun h=>by first|rfl|cases h) ?_;refine gK ?_;refine ao (by cbv) (iT (l:=[Df]) rfl rfl (by simp)) (fun h=>by first|rfl|cases h) ?_;refine gK ?_;refine ae ?_ ?_
     ·rw[←bO]
      have Dh:c4.length=(du cl vl (Int.ofNat k) port boxes l w).length+4:=by rw[j8];simp
      have h4n:=e7 (c:=cl) (v:=vl) (call:=Int.ofNat k) (port:=port) (boxes:=boxes) (l:=l) (n:=w);rw[cU]
      exact⟨by rw[Dh];simp only[List.length_cons,List.length_nil];omega,by rw[Dh];simp only[List.length_cons,List.length_nil];omega,by simp[cr,fr],fun r hr=>by
       rw[j8]at hr
       rcases List.mem_append.1 hr with h|h
       ·exact bj (enc:=bT) (n:=2) (fun _=>rfl) _ r h
       ·simp at h
        rcases h with rfl|rfl|rfl|rfl<;>rfl⟩
     rw[show bs c4 [[.str [68,71,83],.sl [[.sl [[.str Df]] []]] []]]=z by
      rw[←bE,bK,hz,j8,eY,List.map_append,List.append_assoc]
      congr 1
      simp only[iS,sQ,vz];rw[if_pos (by simpa using gE)]
      simp[bT,fo,eK,mA,mB,mC,mD,qB]]
     refine gK ?_;refine ai ⟨by omega,trivial,?_⟩;rw[wS ak aO (v:=w) (by omega)];rw[←hz]
     cbv
    ·replace gE:=eT gE
     refine dp ?_
     rw[show c4=z by
      rw[hz,j8,eY,List.map_append]
      congr 1
      simp only[iS,sQ,vz];rw[if_neg (by simpa using gE)]
      simp[bT,fo,eK,mA,mB,mC,mD]]
     refine ai ⟨by omega,trivial,?_⟩;rw[wS ak aO (v:=w) (by omega)];rw[←hz]
     cbv
   ·have aY:boxes.length≤w:=by rw[←aD,←ah]at hd;simp at hd;omega
    have VK:w=boxes.length:=by omega
    refine dp ?_;refine au rfl ?_;refine gK ?_;rw[show cur=W by rw[←cw,hW,VK]];refine aN ?_;rfl
 ·have h0:boxes.length=0:=by rw[←aD,←ah]at h1;simp only[oK,il,decide_eq_false_iff_not]at h1;omega
  refine dp ?_;refine au rfl ?_;refine gK ?_;refine aN ?_;rw[hW,h0];simp[du,bT,fo,eK,Io,lE]
end Go.bW
end
section
open Go Go.Am Go.Proofs
attribute [local irreducible] Am.bl.holds bA fw bC dv
namespace Go.bW
variable {mx:Int}
open Classical
theorem IE {y:List UInt8}:pC mx 196 [.sl [[.str y]] []] (.sl [[.str y]] []):=by
 refine pZ GY ?_
 iterate 105 intro _
 intro gO
 iterate 10 intro _
 intro bO bs bE
 iterate 10 intro _
 intro aB aV aW bp bu ah aD;refine gK ?_;refine ae (by rw[←gO,lN];right;simp) ?_;refine gK ?_;refine ae (by rw[←bO,←gO];simp[aG,cr,fr]) ?_;rw[show bs [] [[.str y]]=[[.str y]] by rw[←bE];rfl];refine gK ?_;refine aN ?_;rfl
theorem IF {x y:List UInt8} {r:Bool} (hr:r=decide (x=y)):pC mx 185 [.sl [[.str x]] [],.sl [[.str y]] []] (.bool r):=by
 refine pZ Hc ?_
 iterate 115 intro _
 intro cv _ _ _ _ _ bg aO aw ak aI aU aL aP aB aV aW bp bu ah aD
 have KY:∀y:List UInt8,cv [[.str y]]=1:=fun y=>by rw[←ah];rfl
 have qF:∀y:List UInt8,aL 0 [[.str y]] 1:=fun y=>by rw[←aP];simp[aG]
 have lr:∀y:List UInt8,aI [[.str y]] 0=[.str y]:=fun y=>by rw[←aU];rfl
 refine gK ?_;rw[KY,KY];refine zhF ?_;refine dp ?_;rw[KY];refine gL ?_;refine dC ?_;refine zhT ?_;refine dp ?_;refine ae (qF x) ?_;rw[lr];refine gK ?_;refine ae (qF y) ?_;rw[lr];refine gK ?_;refine bl.af (fun h1=>?_) (fun h1=>?_)
 ·rw[←aW,←aV]at h1;simp at h1;refine dp ?_;refine dm ?_;exact fa hr h1
 ·rw[←aW,←aV]at h1;simp at h1;refine dp ?_;refine ai ?_;rw[show aw .i64 (bg 0 1)=1 by rw[←ak,←aO];rfl];refine gL ?_;refine dC ?_;refine zhF ?_;refine dp ?_;refine au rfl ?_;refine gK ?_;refine aN ?_;exact tr hr h1
theorem FA {D sp:List (List PV)} {l:List (List UInt8)} {x:List UInt8} (hD:D=(l++[x]).map mu) (hx:x≠[]) (hl:l.length<2^20):pC mx 97 [.sl D sp] (.sl D []):=by
 obtain⟨n,hn⟩:∃n,n=l.length:=⟨_,rfl⟩;rw[←hn]at hl
 have hlen:D.length=n+1:=by simp[hD,hn]
 have SF:aS 1 D:=by rw[hD];exact bj (enc:=mu) (fun _=>rfl) _
 have htk:∀v,aS 1 (D.take v):=fun v r hr=>SF r (List.mem_of_mem_take hr)
 have hdr:∀v,(h:v<D.length)→∃y,D[v]=[.sl [[.str y]] []]:=fun v h=>by
  have h':v<(l++[x]).length:=by simp;omega
  refine⟨(l++[x])[v],?_⟩
  have:D[v]? =some (mu (l++[x])[v]):=by rw[hD,List.getElem?_map,List.getElem?_eq_getElem h'];rfl
  rw[List.getElem?_eq_getElem h]at this;exact Option.some.inj this
 refine pZ K5 ?_
 iterate 94 intro _
 intro nw _ _ _ _ _ _ _ _ eW j6 _ fS j0 fj _ _ _ eO iu eA cv bO bs bE b5 cQ bg aO aw ak aI aU aL aP aB aV aW bp bu ah aD
 have iP:∀x y,bg x y=x+y:=fun _ _=>by rw[←aO];rfl
 have dD:∀x y,b5 x y=x-y:=fun _ _=>by rw[←cQ];rfl
 have hmul:∀x y,eW x y=x*y:=fun _ _=>by rw[←j6];rfl
 have qt:∀x y,0≤x→fS x y=x/y:=fun _ _ h=>by rw[←j0];exact Int.tdiv_eq_ediv_of_nonneg h
 have qu:∀x y,0≤x→eO x y=x%y:=fun _ _ h=>by rw[←iu];exact Int.tmod_eq_emod_of_nonneg h
 have hW:∀x,-9223372036854775808≤x→x<9223372036854775808→aw .i64 x=x:=fun _ h1 h2=>by rw[←ak];exact dh h1 h2
 have D1:∀x,0≤x→x<256→aw .u8 x=x:=fun _ h1 h2=>by rw[←ak];exact KD h1 h2
 have qF:∀y:List UInt8,aL 0 [[.str y]] 1:=fun y=>by rw[←aP];simp[aG]
 have lr:∀y:List UInt8,aI [[.str y]] 0=[.str y]:=fun y=>by rw[←aU];rfl
 have KY:∀y:List UInt8,cv [[.str y]]=1:=fun y=>by rw[←ah];rfl
 have s7:aw .i64 (b5 (cv D) 1)=Int.ofNat n:=by rw[dD,hW]<;>rw[←ah]<;>simp[hlen]<;>omega
 have Pa:aL (Int.ofNat n) D 1:=by rw[←aP,hD,hn];exact aR (enc:=mu) (by simp) rfl
 have GV:aI D (Int.ofNat n)=[.sl [[.str x]] []]:=by rw[←aU,hD,hn,aQ (enc:=mu) (by simp)];simp[mu,eK]
 refine gK ?_;refine zT [3,7,8,9] (nn [3,3]) (fun v σ_=>(σ_.Kb 3 3 1).put (some 9) (.pv (.int .i64 (Int.ofNat v)))|>.aC 3 (.rows 1 (D.take v) 0)) ((n+1)) (fun k=>True) (Fg.wc [3,7,8,9] (nn [3,3]) 3 3 1 rfl (by first|rfl|(cbv;done)) (by first|rfl|(cbv;done)) (by first|exact Nat.le_of_ble_eq_true rfl|(cbv;done)) (by first|(cbv;done)|(simp;cbv;done)|(simp;rfl))) ?_;intro v hv hk
 try dsimp only
 generalize cw:D.take v=cur;refine dC ?_;refine bl.af (fun hd=>?_) (fun hd=>?_)
 ·have aY:v<D.length:=by rw[←aD,←ah]at hd;simp at hd;omega
  obtain⟨y,hy⟩:=hdr v aY
  have eQ:aL (Int.ofNat v) D 1:=by rw[←aP];refine⟨by simp,by simp;omega,?_⟩;simp[aY,hy]
  have bM:aI D (Int.ofNat v)=[.sl [[.str y]] []]:=by rw[←aU];show D.getD _ []=_;simp[aY,hy]
  refine dp ?_;refine ae eQ ?_;rw[bM];refine gK ?_;rw[KY];refine gL ?_;refine dC ?_;refine zhF ?_;refine dp ?_;refine au rfl ?_;refine gK ?_;refine bl.af (fun hc=>by exfalso;rw[←bu]at hc;simp at hc) (fun _=>?_);refine dp ?_;refine ae (by rw[←nw];simp[aG]) ?_;rw[show fj [[.str y]] 0 1=[[.str y]] by rw[←eA];rfl];refine gK ?_;refine an (by cbv) (IE (y:=y)) (fun h=>by first|rfl|cases h) ?_;refine gK ?_
  refine ae ?_ ?_
  ·rw[←bO,←cw,cU];exact⟨by simp only[List.length_take,List.length_cons,List.length_nil];omega,by simp only[List.length_take,List.length_cons,List.length_nil];omega,by simp[cr,fr],htk v⟩
  refine gK ?_;refine ai ⟨by omega,trivial,?_⟩;rw[wS ak aO (v:=v) (by omega)]
  rw[show bs cur [[.sl [[.str y]] []]]=D.take (v+1) by
   rw[←bE,←cw,List.take_succ_eq_append_getElem aY,bK,hy]]
  cbv
 ·have aY:v=n+1:=by rw[←aD,←ah]at hd;simp at hd;omega
  have hcD:cur=D:=by rw[←cw,List.take_of_length_le (by omega)]
  refine dp ?_;refine au rfl ?_;refine gK ?_;rw[hcD];refine gL ?_;refine dC ?_;refine bl.af (fun _=>?_) (fun hc=>by exfalso;rw[←aD,←ah]at hc;simp only[oK,il,decide_eq_false_iff_not,hlen]at hc;omega);refine dp ?_;rw[s7];refine ae Pa ?_;refine gK ?_;rw[GV];refine dp ?_;refine bX (by cbv) (IF (x:=x) (y:=[]) (r:=decide (x=[])) rfl) (fun h=>?_) (fun h=>?_)<;>simp only[decide_eq_true_eq,decide_eq_false_iff_not]at h
  ·exact absurd h hx
  ·refine gK ?_;refine au rfl ?_;refine gK ?_;refine aN ?_;rfl
end Go.bW
end
section
open Go Go.Am Go.Proofs
attribute [local irreducible] Am.bl.holds bA fw bC dv
namespace Go.bW
variable {mx:Int}
open Classical
theorem DF {W KZ:List (List PV)} {ls:List Raw} {kind ref t:List UInt8} {e:Int} (hW:W=ls.map bT) (hl:ls.length<2^20) (Io:kind.length<2^32) (BB:ref.length<2^32)
  (hle:∀x∈ls,x.1.length<2^32∧x.2.length<2^20∧(∀d∈x.2,d.length<2^32)∧∃l d,x.2=l++[d]∧d≠[]) (ht:yb kind ref ls=(t,e)):
  pC mx 85 [.sl [[.str kind,.str ref,.sl W KZ]] []] (.ep [.str t,.int .i64 e]):=by
 have XM:W.length=ls.length:=by simp[hW]
 unfold yb at ht;refine pZ Fa ?_
 iterate 74 intro _
 intro uB Fp oM wk
 iterate 10 intro _
 intro tq Ae
 iterate 15 intro _
 intro gO
 iterate 9 intro _
 intro cv bO bs bE _ _ bg aO aw ak aI aU aL aP aB aV aW bp bu ah aD
 have h1l:cv [[.str kind,.str ref,.sl W KZ]]=1:=by rw[←ah];rfl
 have qF:aL 0 [[.str kind,.str ref,.sl W KZ]] 3:=by rw[←aP];simp[aG]
 have lr:aI [[.str kind,.str ref,.sl W KZ]] 0=[.str kind,.str ref,.sl W KZ]:=by rw[←aU];rfl
 have abT:bw [PV.str ref] [PV.str ref]=true:=by simp[bw]
 have abU:oM 1 [] [.str ref] [.int .i64 0]=.int .i64 0:=by rw[←wk];rfl
 have Ta:tq [2] 1 [] [.str ref]:=by rw[←Ae];exact⟨rfl,by simp[aX],fun r hr=>by cases hr⟩
 have AP:uB 1 [] [.str ref] [.int .i64 1]=[[.str ref,.int .i64 1]]:=by rw[←Fp];rfl
 have abV:tq [2] 1 [[.str ref,.int .i64 1]] [.str ref]:=by rw[←Ae];exact⟨rfl,by simp[aX],fun r hr=>by simp at hr;subst hr;simp[aX]⟩
 have abW:oM 1 [[.str ref,.int .i64 1]] [.str ref] [.int .i64 0]=.int .i64 1:=by rw[←wk];simp[aG,jn,abT]
 have Tc:aw .i64 (bg 0 1)=1:=by rw[←ak,←aO];rfl
 refine gK ?_;refine gL ?_;refine dC ?_;rw[h1l];refine zhT ?_;refine dp ?_;refine ae qF ?_;rw[lr];refine gK ?_;refine ae Ta ?_;rw[abU];refine gK ?_;rw[Tc];refine ae Ta ?_;rw[AP];refine gK ?_
 refine bX (by cbv) (vG (ls:=ls.map mH) (by rw[hW,List.map_map];exact List.map_congr_left (fun x _=>Aa x)) (by simpa using (by omega:ls.length<2^32)) Io BB (by
  intro x hx;obtain⟨y,hy,rfl⟩:=List.mem_map.1 hx;obtain⟨h1,h2,h3,l,d,h4,-⟩:=hle y hy;refine⟨by simp[mH,h4],h1,by simp[mH];omega,?_⟩;intro z hz;simp[mH]at hz;obtain⟨d,hd,rfl⟩:=hz
  simp) rfl) (fun h=>?_) (fun h=>?_)<;>simp only[decide_eq_true_eq,decide_eq_false_iff_not]at h
 ·rw[if_neg (by simpa using h)]at ht;refine gK ?_;refine ae abV ?_;rw[abW];refine gK ?_;refine zhF ?_;refine dp ?_;obtain⟨C,hC⟩:∃C:Nat→List (List PV),∀v,C v=(vR kind ref::(ls.take v).map vQ).map mQ:=⟨_,fun _=>rfl⟩
  have hCl:∀v,v≤ls.length→(C v).length=v+1:=fun v hv=>by rw[hC];simp;omega
  have hCa:∀v,aS 1 (C v):=fun v=>by rw[hC];exact bj (enc:=mQ) (fun _=>rfl) _
  have ok2:∀a b:List (List PV),cr 1 [[.sl a []],[.sl b []]]:=fun a b r hr=>by
   simp only[List.mem_cons,List.not_mem_nil,or_false]at hr
   rcases hr with rfl|rfl<;>exact⟨rfl,fun p hp=>by simp at hp;subst hp;rfl⟩
  have ok1:∀a:List (List PV),cr 1 [[.sl a []]]:=fun a r hr=>by
   simp only[List.mem_cons,List.not_mem_nil,or_false]at hr;subst hr;exact⟨rfl,fun p hp=>by simp at hp;subst hp;rfl⟩
  obtain⟨Qh,hQh⟩:∃Q:List (List PV),Q=[.sl [[.str [72,69,68]]] []]::[[.sl [[.str ref]] []],[.sl [[.str kind]] []]]:=⟨_,rfl⟩;refine an (by cbv) (BO (first:=[72,69,68]) (sp:=[]) hQh (by simp) (by simp) (ok2 _ _)) (fun h=>by first|rfl|cases h) ?_;refine gK ?_;refine ae ?_ ?_
  ·rw[←bO,←gO,cU,lN];exact⟨⟨by simp,by simp,ok1 _,fun r hr=>by cases hr⟩,Or.inl rfl⟩
  rw[show bs [] [[.sl Qh []]]=C 0 by rw[←bE,bK,hC,hQh];simp[vR,mQ,hU,strs,eK]];refine gK ?_;refine bG [5,7,11,12,13,44,45,46] (nn [7,7,34,42]) (fun v σ_=>σ_.put (some 46) (.pv (.int .i64 (Int.ofNat v)))|>.aC 42 (.rows 1 (C v) 0)) (ls.length) (fun k=>True) ?_;intro v hv hk
  try dsimp only
  generalize cw:C v=cur;refine dC ?_
  have gE:cur.length=v+1:=by rw[←cw];exact hCl v hv
  have YF:aS 1 cur:=by rw[←cw];exact hCa v
  refine bl.af (fun hd=>?_) (fun hd=>?_)
  ·have aY:v<ls.length:=by rw[←aD,←ah]at hd;simp at hd;omega
   obtain⟨h1,h2,h3,l,d,h4,h5⟩:=hle _ (List.getElem_mem aY);obtain⟨⟨tag,dat⟩,hx⟩:∃x,ls[v]=x:=⟨_,rfl⟩;rw[hx]at h1 h2 h3 h4;dsimp only at h1 h2 h3 h4;subst h4;obtain⟨D,hD⟩:∃D,D=(l++[d]).map mu:=⟨_,rfl⟩
   have Mj:D.length=l.length+1:=by simp[hD]
   have KX:cr 1 D:=by rw[hD];exact fh (enc:=mu) (fun _=>⟨rfl,by simp[mu]⟩) _
   have VR:aL (Int.ofNat v) W 2:=by rw[←aP,hW];exact aR (enc:=bT) aY rfl
   have K0:aI W (Int.ofNat v)=[.str tag,.sl D []]:=by rw[←aU,hW,aQ (enc:=bT) aY,hx,hD];rfl
   obtain⟨R,hR⟩:∃R:List (List PV),R=[.sl [[.str tag]] []]::D:=⟨_,rfl⟩
   have tg:C (v+1)=C v++[[.sl R []]]:=by
    rw[hC,hC,List.take_succ_eq_append_getElem aY,hx];simp[vQ,mQ,hU,strs,eK,hR,hD,mu,Function.comp_def]
   refine dp ?_;refine ae VR ?_;rw[K0];refine gK ?_;refine ao (by cbv) (FA (l:=l) (x:=d) hD h5 (by simp at h2;omega)) (fun h=>by first|rfl|cases h) ?_;refine gK ?_;refine ao (by cbv) (BO hR (fun h=>by rw[h]at Mj;simp at Mj) (by rw[Mj];simp at h2;omega) KX) (fun h=>by first|rfl|cases h) ?_;refine gK ?_;refine ae ?_ ?_
   ·rw[←bO,cU];exact⟨by simp only[List.length_cons,List.length_nil];omega,by simp only[List.length_cons,List.length_nil];omega,ok1 _,YF⟩
   rw[show bs cur [[.sl R []]]=C (v+1) by rw[←bE,bK,tg,cw]];refine gK ?_;refine ai ⟨aY,trivial,?_⟩;rw[wS ak aO (v:=v) (by omega)]
   cbv
  ·have aY:v=ls.length:=by rw[←aD,←ah]at hd;simp at hd;omega
   have Cq:aw .i64 (bg (cv W) 2)=Int.ofNat (ls.length+2):=by
    rw[←ak,←aO,←ah];simp only[ct,jk,il];rw[dh]<;>(try simp)<;>omega
   obtain⟨dg,hdg⟩:∃x,x=digits (ls.length+2):=⟨_,rfl⟩;obtain⟨Qe,hQe⟩:∃Q:List (List PV),Q=[.sl [[.str [69,78,68]]] []]::[[.sl [[.str dg]] []],[.sl [[.str ref]] []]]:=⟨_,rfl⟩;obtain⟨Z,hZ⟩:∃Z,Z=bs cur [[.sl Qe []]]:=⟨_,rfl⟩
   have hZ':Z=(vR kind ref::ls.map vQ++[y3 ls.length ref]).map mQ:=by
    rw[hZ,←bE,bK,←cw,hC,aY,List.take_length,hQe];simp[y3,mQ,hU,strs,eK,hdg]
   refine dp ?_;refine au rfl ?_;refine gK ?_;rw[Cq];refine ao (by cbv) (kR (by omega) hdg) (fun _=>rfl) ?_;refine gK ?_;refine ao (by cbv) (BO (first:=[69,78,68]) (sp:=[]) hQe (by simp) (by simp) (ok2 _ _)) (fun h=>by first|rfl|cases h) ?_;refine gK ?_;refine ae ?_ ?_
   ·rw[←bO,cU];exact⟨by simp only[List.length_cons,List.length_nil];omega,by simp only[List.length_cons,List.length_nil];omega,ok1 _,YF⟩
   rw[←hZ];refine gK ?_;refine ai ?_;rw[Tc];refine gL ?_;refine dC ?_;refine zhF ?_;refine dp ?_;refine au rfl ?_;refine gK ?_
   have dQ:∀k,(hk:k<ls.length)→at_ (ls[k]).1 0≠32:=fun k hk=>by
    have:=(h.2.2 k (by simpa using hk)).1;simp only[List.getElem_map]at this;have h3:(ls[k]).1.length=3:=this.1;have h0:65≤at_ (ls[k]).1 0∧at_ (ls[k]).1 0≤90:=this.2.1 0 (show 0<(ls[k]).1.length by rw[h3];decide);omega
   refine an (by cbv) (DD hZ' (by simp;omega) (by
    intro x hx
    have one:∀{c:List UInt8},c.length<2^32→([c]:List (List UInt8)).length<2^32∧∀b∈[c],b.length<2^32:=fun h=>⟨by simp,fun b hb=>by simp at hb;subst hb;exact h⟩
    rcases List.mem_append.1 hx with hx|hx
    ·rcases List.mem_cons.1 hx with rfl|hx
     ·refine⟨by simp[vR],fun y hy=>?_⟩;simp only[vR,List.mem_cons,List.not_mem_nil,or_false]at hy
      rcases hy with rfl|rfl|rfl
      ·exact one (by simp)
      ·exact one BB
      ·exact one Io
     ·obtain⟨y,hy,rfl⟩:=List.mem_map.1 hx;obtain⟨h1,h2,h3,-⟩:=hle y hy;refine⟨by simp[vQ];omega,fun z hz=>?_⟩;simp only[vQ,List.mem_cons]at hz
      rcases hz with rfl|hz
      ·exact one h1
      ·obtain⟨d,hd,rfl⟩:=List.mem_map.1 hz;exact one (h3 d hd)
    ·simp only[List.mem_cons,List.not_mem_nil,or_false]at hx;subst hx;refine⟨by simp[y3],fun y hy=>?_⟩;simp only[y3,List.mem_cons,List.not_mem_nil,or_false]at hy
     rcases hy with rfl|rfl|rfl
     ·exact one (by simp)
     ·exact one (by have:=kG (n:=ls.length+2) (by omega);omega)
     ·exact one BB) (by
    intro x hx e0 es sp0 he c cs hc
    rcases List.mem_append.1 hx with hx|hx
    ·rcases List.mem_cons.1 hx with rfl|hx
     ·simp only[vR,Prod.mk.injEq,List.cons.injEq]at he;rw[←he.1.1]at hc;simp only[List.cons.injEq]at hc;rw[←hc.1]
      decide
     ·obtain⟨y,hy,rfl⟩:=List.mem_map.1 hx;obtain⟨k,hk,rfl⟩:=List.getElem_of_mem hy;simp only[vQ,Prod.mk.injEq,List.cons.injEq]at he;rw[←he.1.1]at hc;simp only[List.cons.injEq]at hc;rw[←hc.1];exact dQ k hk
    ·simp only[List.mem_cons,List.not_mem_nil,or_false]at hx;subst hx;simp only[y3,Prod.mk.injEq,List.cons.injEq]at he;rw[←he.1.1]at hc;simp only[List.cons.injEq]at hc;rw[←hc.1]
     decide) (by simp) ht) (fun h=>by first|rfl|cases h) ?_
   refine gK ?_;refine aN ?_;rfl
 ·rw[if_pos h]at ht
  cases ht
  refine gK ?_;refine dm ?_;rfl
end Go.bW
end
section
open Go Go.Am Go.Proofs
attribute [local irreducible] Am.bl.holds bA fw bC dv
namespace Go.bW
variable {mx:Int}
open Classical
theorem Lz:Lt (mx:=mx):=fun hn ht=>kR hn ht
theorem LA {c csp vv vsp r rsp f fsp t tsp:List (List PV)} {l1 l2 l3 l4 m1 m2 m3 m4:Int} {rows sp bF bsp:List (List PV)} {cl:List aM} {vl:List bq} {l:List aT} {boxes:List cE} {call:Int} {port ref t0:List UInt8} {e:Int} (ff:c=cl.map aM.enc) (lU:vv=vl.map bq.enc) (mj:cl.length<2^32) (rP:vl.length<2^32) (oc:∀x∈cl,x.b9.length<2^32) (rv:∀x∈vl,x.rows.length<2^16)
  (cq:rows=l.map aT.enc) (gN:bF=boxes.map cE.enc) (hl:l.length<2^15) (ph:boxes.length<2^15) (oC:∀b∈boxes,mw b) (bL:∀x∈l,kF x) (BB:ref.length<2^32) (hr:oW cl vl ref call port boxes l=(t0,e)):
  pC mx 36 [.agg [.sl c csp,.sl vv vsp,.int .i64 l1,.int .i64 l2,.int .i64 l3,.int .i64 l4,.sl r rsp,.sl f fsp,.sl t tsp,.int .i64 m1,.int .i64 m2,.int .i64 m3,.int .i64 m4],.str ref,.agg [.int .i64 call,.str port,.sl bF bsp,.sl rows sp]] (.ep [.str t0,.int .i64 e]):=by
 unfold oW at hr;refine pZ Fb ?_
 iterate 129 intro _
 intro aB aV aW bp bu ah aD;refine gK ?_;refine bX (by cbv) (DB ff lU mj rP oc rv cq gN (by omega) (by omega) oC bL rfl) (fun h=>?_) (fun h=>?_)<;>simp only[decide_eq_true_eq,decide_eq_false_iff_not]at h
 ·rw[if_neg (by simpa using h)]at hr;refine gK ?_;refine bX (by cbv) (vG (rows:=[]) (ls:=[]) rfl (by simp) (by simp) BB (by simp) rfl) (fun h'=>?_) (fun h'=>?_)<;>simp only[decide_eq_true_eq,decide_eq_false_iff_not,List.map_nil]at h'
  ·rw[if_neg (by simpa[lE]using h')]at hr;obtain⟨W,hW⟩:∃W,W=(du cl vl call port boxes l boxes.length).map bT:=⟨_,rfl⟩;have px:=e7 (c:=cl) (v:=vl) (call:=call) (port:=port) (boxes:=boxes) (l:=l) (n:=boxes.length);refine gK ?_;refine an (by cbv) (Fz Lz (ref:=ref) ff lU mj rP oc rv cq gN (by omega) (by omega) bL oC h hW) (fun h=>by first|rfl|cases h) ?_;refine gK ?_;refine an (by cbv) (DF (kind:=[66,65,89,80,76,78]) hW (by omega) (by simp) BB (E8 h (Nat.le_refl _)) (show yb [66,65,89,80,76,78] ref _=(t0,e) from hr)) (fun h=>by first|rfl|cases h) ?_
   refine gK ?_;refine aN ?_;rfl
  ·rw[if_pos (by simpa[lE]using h')]at hr
   cases hr
   refine gK ?_;refine aN ?_;rfl
 ·rw[if_pos h]at hr
  cases hr
  refine gK ?_;refine aN ?_;rfl
theorem Wz:K2 (mx:=mx):=by
 intro c csp vv vsp r rsp f fsp t tsp l1 l2 l3 l4 m1 m2 m3 m4 rows sp bF bsp cl vl l boxes call port ref t0 e ff lU h1 h2 h3 h4 cq gN h5 h6 oC bL h7 h8 h9
 exact⟨fun hr=>LA ff lU (by omega) (by omega) (fun x hx=>by have:=h3 x hx;omega) (fun x hx=>by have:=h4 x hx;omega) cq gN (by omega) (by omega) oC bL (by omega) hr,
  DB ff lU (by omega) (by omega) (fun x hx=>by have:=h3 x hx;omega) (fun x hx=>by have:=h4 x hx;omega) cq gN (by omega) (by omega) oC bL rfl⟩
end Go.bW
end
