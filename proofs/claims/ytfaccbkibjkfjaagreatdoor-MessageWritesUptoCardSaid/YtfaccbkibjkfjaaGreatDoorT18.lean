import Derived.Test.YtfaccbkibjkfjaaGreatDoorT13
import Derived.Test.YtfaccbkibjkfjaaGreatDoorT29
import Derived.Test.YtfaccbkibjkfjaaGreatDoorT12
import Derived.Test.YtfaccbkibjkfjaaGreatDoorT43
import Derived.Test.YtfaccbkibjkfjaaGreatDoorT17
import Derived.Test.YtfaccbkibjkfjaaGreatDoorT41
import Derived.Test.YtfaccbkibjkfjaaGreatDoorT15
set_option linter.all false
set_option maxRecDepth 100000
set_option maxHeartbeats 1000000
section
open Go Go.Am Go.Proofs
attribute [local irreducible] Am.bl.holds bA fw bC dv
namespace Go.bW
variable {mx:Int}
open Classical
theorem Ab {f:FuncId} {cs:List PV} {rows sp:List (List PV)} {l:List cE} {p:Nat→Bool} {r:Int} (cq:rows=l.map cE.enc) (hl:l.length<2^32) (hf:∀k (h:k<l.length),pC mx f [.agg l[k].enc,.ptr cs] (.bool (p k))) (hr:fQ (fun k=>p k=true) l.length r):
  pC mx 194 [.sl rows sp,.gZ f [.ptr cs]] (.int .i64 r):=by
 have hlen:rows.length=l.length:=by simp[cq]
 refine pZ Gw ?_
 iterate 122 intro _
 intro aO _ ak aI aU aL aP aB aV aW bp bu ah aD;refine gK ?_;refine bG [0,1,6,7,8] [] (fun v σ_=>σ_.put (some 8) (.pv (.int .i64 (Int.ofNat v)))) (l.length) (fun k=>(p k=false)) ?_;intro v hv hk;refine dC ?_;refine bl.af (fun hd=>?_) (fun hd=>?_)
 ·have aY:v<l.length:=by rw[←aD,←ah]at hd;simp at hd;omega
  obtain⟨kD,bh⟩:∃x,l[v]=x:=⟨_,rfl⟩
  have bx:aL (Int.ofNat v) rows 9:=by rw[←aP,cq];exact aR (enc:=cE.enc) aY rfl
  obtain⟨⟨mP,eH,gi,gj,dY,gk,jJ,jK,dJ⟩,cK⟩:∃y,kD=y:=⟨_,rfl⟩;subst cK
  have a6:aI rows (Int.ofNat v)=[.int .i64 mP,.str eH,.int .u8 gi,.bool gj,.int .i64 dY,.int .i64 gk,.int .i64 jJ,.int .u8 jK,.bool dJ]:=by rw[←aU,cq,aQ (enc:=cE.enc) aY,bh];rfl
  have hc:=hf v aY;rw[bh]at hc;refine dp ?_;refine ae bx ?_;rw[a6];refine gK ?_;refine bX (by cbv) hc (fun h=>?_) (fun h=>?_)
  ·refine gK ?_;refine dm ?_;rw[hr.at aY h (fun k eZ h'=>by rw[hk k eZ]at h';cases h')]
  ·refine gK ?_;refine ai ⟨aY,h,?_⟩;rw[wS ak aO (v:=v) (by omega)]
   cbv
 ·have aY:v=l.length:=by rw[←aD,←ah]at hd;simp at hd;omega
  refine dp ?_;refine au rfl ?_;refine gK ?_;refine aN ?_;rw[hr.none (fun k eZ h'=>by rw[hk k (by omega)]at h';cases h')]
theorem tM {x:cE} {cs:List PV} (kh:cs=x.enc) {id:Int} {r:Bool} (hr:r=decide (x.id=id)):pC mx 269 [.agg cs,.ptr [.int .i64 id]] (.bool r):=by
 subst kh;obtain⟨V2,num,size,high,ca,load,nC,cls,bS⟩:=x;show pC mx 269 [.agg [.int .i64 V2,.str num,.int .u8 size,.bool high,.int .i64 ca,.int .i64 load,.int .i64 nC,.int .u8 cls,.bool bS],.ptr [.int .i64 id]] (.bool r);refine pZ Gx ?_
 iterate 129 intro _
 intro aB aV aW bp bu ah aD;refine gK ?_
 repeat' (first|refine rQ ?_|(refine vy (fun hc=>?_) (fun hc=>?_)<;>(try simp at hc)<;>(try(exfalso;omega))))
 all_goals(refine aN ?_)
 all_goals first|exact tr hr (by assumption)|exact fa hr (by assumption)
theorem wj {rows sp:List (List PV)} {l:List cE} {id:Int} {cs:List PV} {ok:Bool} (cq:rows=l.map cE.enc) (hl:l.length<2^32) (kh:cs=(dN l id).1.enc) (e6:ok=(dN l id).2):pC mx 189 [.sl rows sp,.int .i64 id] (.ep [.agg cs,.bool ok]):=by
 have hlen:rows.length=l.length:=by simp[cq]
 obtain⟨r,hr⟩:=fQ.ex (fun k=>(if h:k<l.length then decide (l[k].id=id)else false)=true) l.length;have lI:=Ab (mx:=mx) (sp:=sp) (f:=269) (cs:=[.int .i64 id]) (p:=fun k=>if h:k<l.length then decide (l[k].id=id)else false) cq hl (fun k h=>by simp only[h,dif_pos];exact tM rfl rfl) hr;refine pZ Gy ?_
 iterate 125 intro _
 intro aI aU aL aP aB aV aW bp bu ah aD;refine gK ?_
 rcases hr with⟨h1,rfl⟩|⟨v,aY,h2,h3,rfl⟩
 ·refine an (by cbv) lI (fun h=>by first|rfl|cases h) ?_;refine gK ?_;refine zhT ?_;refine dp ?_;refine aN ?_;have hf:=xM (l:=l) (id:=id) (fun k h h'=>by have:=h1 k h;simpa[h]using this);simp only[dN,hf]at kh e6;subst kh e6;rfl
 ·refine an (by cbv) lI (fun h=>by first|rfl|cases h) ?_
  have hid:l[v].id=id:=by simpa[aY]using h2
  have hf:=Db aY (fun k hk h=>by have:=h3 k hk;simpa[h]using this) hid;obtain⟨kD,bh⟩:∃x,l[v]=x:=⟨_,rfl⟩
  have bx:aL (Int.ofNat v) rows 9:=by rw[←aP,cq];exact aR (enc:=cE.enc) aY rfl
  obtain⟨⟨mP,eH,gi,gj,dY,gk,jJ,jK,dJ⟩,cK⟩:∃y,kD=y:=⟨_,rfl⟩;subst cK
  have a6:aI rows (Int.ofNat v)=[.int .i64 mP,.str eH,.int .u8 gi,.bool gj,.int .i64 dY,.int .i64 gk,.int .i64 jJ,.int .u8 jK,.bool dJ]:=by rw[←aU,cq,aQ (enc:=cE.enc) aY,bh];rfl
  refine gK ?_;refine zhF ?_;refine dp ?_;refine ae bx ?_;rw[a6];refine gK ?_;refine aN ?_;simp only[dN,hf,bh]at kh e6;subst kh e6;rfl
theorem Ph {x:cE} {cs:List PV} (kh:cs=x.enc) {r:Int} (hr:r=EL x):pC mx 308 [.agg cs] (.int .i64 r):=by
 subst kh;obtain⟨V2,num,size,high,ca,load,nC,cls,bS⟩:=x;show pC mx 308 [.agg [.int .i64 V2,.str num,.int .u8 size,.bool high,.int .i64 ca,.int .i64 load,.int .i64 nC,.int .u8 cls,.bool bS]] (.int .i64 r)
 cases high
 all_goals
  refine pZ GM ?_
  iterate 129 intro _
  intro aB aV aW bp bu ah aD;refine gK ?_;refine aN ?_;subst hr;rfl
theorem Ac {rows sp bF bsp:List (List PV)} {l:List aT} {boxes:List cE} {ub half n:Int} (cq:rows=l.map aT.enc) (gN:bF=boxes.map cE.enc) (hl:l.length<2^32) (ph:boxes.length<2^32) (hn:n=di boxes l ub half):
  pC mx 275 [.sl bF bsp,.sl rows sp,.int .i64 ub,.int .u8 half] (.int .i64 n):=by
 have hlen:rows.length=l.length:=by simp[cq]
 refine pZ GN ?_
 iterate 121 intro _
 intro bg aO aw ak aI aU aL aP aB aV aW bp bu ah aD;refine gK ?_;refine bG [0,2,3,9,14,15,16] [] (fun v σ_=>σ_.put (some 9) (.pv (.int .i64 (dd boxes l ub half v)))|>.put (some 16) (.pv (.int .i64 (Int.ofNat v)))) (l.length) (fun k=>True) ?_;intro v hv hk
 try dsimp only
 generalize hm:dd boxes l ub half v=m;refine dC ?_;have zG:=qp (boxes:=boxes) (l:=l) (c:=ub) (h:=half) (n:=v);rw[hm]at zG;refine bl.af (fun hd=>?_) (fun hd=>?_)
 ·have aY:v<l.length:=by rw[←aD,←ah]at hd;simp at hd;omega
  obtain⟨kD,bh⟩:∃x,l[v]=x:=⟨_,rfl⟩
  have bx:aL (Int.ofNat v) rows 4:=by rw[←aP,cq];exact aR (enc:=aT.enc) aY rfl
  obtain⟨⟨fH,⟨eB,dX,cG⟩⟩,cK⟩:∃y,kD=y:=⟨_,rfl⟩;subst cK
  have a6:aI rows (Int.ofNat v)=[.int .i64 fH,.int .i64 eB,.int .i64 dX,.int .u8 cG]:=by rw[←aU,cq,aQ (enc:=aT.enc) aY,bh];rfl
  have uE:(eB=ub∧(cG=half∨cG=0))→dd boxes l ub half (v+1)=m+(match kl boxes fH with|some b=>EL b|none=>0):=fun h=>by
   simp only[dd,List.getElem?_eq_getElem aY,bh,hm];rw[if_pos h]
   cases kl boxes fH<;>rfl
  have v7:¬(eB=ub∧(cG=half∨cG=0))→dd boxes l ub half (v+1)=m:=fun h=>by
   simp only[dd,List.getElem?_eq_getElem aY,bh,hm];rw[if_neg h];omega
  obtain⟨z,hz⟩:∃z,dd boxes l ub half (v+1)=z:=⟨_,rfl⟩;rw[hz]at uE v7;refine dp ?_;refine ae bx ?_;rw[a6];refine gK ?_
  repeat' (first|refine rQ ?_|(refine vy (fun hc=>?_) (fun hc=>?_)<;>(try simp at hc)<;>(try(exfalso;omega))))
  all_goals first
   |(refine ai ⟨aY,trivial,?_⟩
     rw[hz,v7 (by omega)];rw[wS ak aO (v:=v) (by omega)]
     cbv)
   |skip
  all_goals
   cases hf:kl boxes fH with
   |none=>
    refine an (by cbv) (wj (id:=fH) (ok:=false) (cs:=[.int .i64 0,.str [],.int .u8 0,.bool false,.int .i64 0,.int .i64 0,.int .i64 0,.int .u8 0,.bool false]) gN ph (by simp only[dN,hf];rfl) (by simp only[dN,hf])) (fun h=>by first|rfl|cases h) ?_;refine gK ?_;refine ai ⟨aY,trivial,?_⟩;rw[hz,show z=m by rw[uE (by omega),hf];simp];rw[wS ak aO (v:=v) (by omega)]
    cbv
   |some b=>
    obtain⟨OD,Bs,bsize,rR,oR,tB,Bt,Bu,lQ⟩:=b;obtain⟨t,ht⟩:∃t,t=EL ⟨OD,Bs,bsize,rR,oR,tB,Bt,Bu,lQ⟩:=⟨_,rfl⟩
    have ht':t=2591∨t=2896:=by rw[ht];unfold EL;split<;>simp
    refine an (by cbv) (wj (id:=fH) (ok:=true) (cs:=[.int .i64 OD,.str Bs,.int .u8 bsize,.bool rR,.int .i64 oR,.int .i64 tB,.int .i64 Bt,.int .u8 Bu,.bool lQ]) gN ph (by simp only[dN,hf];rfl) (by simp only[dN,hf])) (fun h=>by first|rfl|cases h) ?_;refine gK ?_;refine an (by cbv) (Ph (x:=⟨OD,Bs,bsize,rR,oR,tB,Bt,Bu,lQ⟩) rfl ht) (fun h=>by first|rfl|cases h) ?_;refine gK ?_;refine ai ⟨aY,trivial,?_⟩
    have Mk:z=m+t:=by rw[uE (by omega),hf,ht]
    rw[hz,show aw .i64 (bg m t)=z by rw[←ak,←aO,Mk];simp only[ct,jk];rw[dh]<;>omega];rw[wS ak aO (v:=v) (by omega)]
    cbv
 ·have aY:v=l.length:=by rw[←aD,←ah]at hd;simp at hd;omega
  refine dp ?_;refine au rfl ?_;refine gK ?_;refine aN ?_;rw[hn,←hm,aY];rfl
theorem Pj {c csp vv vsp r rsp f fsp t tsp:List (List PV)} {l1 l2 l3 l4 m1 m2 m3 m4:Int} {rows sp bF bsp:List (List PV)} {cl:List aM} {l:List aT} {boxes:List cE} {n:Nat} {res:Bool} (ff:c=cl.map aM.enc) (cq:rows=l.map aT.enc) (gN:bF=boxes.map cE.enc) (gE:cl.length<2^32) (hl:l.length<2^32) (ph:boxes.length<2^32) (hn:n<cl.length)
  (hr:res=decide (Fits cl[n] boxes l (Int.ofNat n))):pC mx 193 [.agg [.sl c csp,.sl vv vsp,.int .i64 l1,.int .i64 l2,.int .i64 l3,.int .i64 l4,.sl r rsp,.sl f fsp,.sl t tsp,.int .i64 m1,.int .i64 m2,.int .i64 m3,.int .i64 m4],.sl bF bsp,.sl rows sp,.int .i64 (Int.ofNat n)] (.bool res):=by
 have hlen:c.length=cl.length:=by simp[ff]
 refine pZ aa3 ?_
 iterate 125 intro _
 intro aI aU aL aP aB aV aW bp bu ah aD;obtain⟨kD,bh⟩:∃x,cl[n]=x:=⟨_,rfl⟩
 have bx:aL (Int.ofNat n) c 12:=by rw[←aP,ff];exact aR (enc:=aM.enc) hn rfl
 obtain⟨⟨cZ,gM,eh,dM,dz,jd,je,fP,cP,jf,ny,nA,nB⟩,cK⟩:∃y,kD=y:=⟨_,rfl⟩;subst cK
 have a6:aI c (Int.ofNat n)=[.int .i64 cZ,.int .i64 gM,.bool eh,.int .i64 dM,.int .i64 dz,.int .i64 jd,.int .i64 je,.int .i64 fP,.sl (ints cP) jf,.int .i64 ny,.int .i64 nA,.int .i64 nB]:=by rw[←aU,ff,aQ (enc:=aM.enc) hn,bh];rfl
 obtain⟨wh,gh⟩:∃p,p=ints cP:=⟨_,rfl⟩;rw[←gh]at a6;rw[bh]at hr;unfold Fits at hr;dsimp only at hr;refine gK ?_;refine ae bx ?_;rw[a6];refine gK ?_;refine bl.af (fun h1=>?_) (fun h1=>?_)
 ·replace h1:=eT h1
  refine dp ?_;refine aN ?_;exact tr hr (by omega)
 ·replace h1:=eT h1
  refine dp ?_;refine xv (by cbv) (Ac cq gN hl ph rfl) (fun _=>rfl) ?_;intro x hx;refine gK ?_;refine bl.af (fun h2=>?_) (fun h2=>?_)
  ·replace h2:=eT h2
   refine dp ?_;refine xv (by cbv) (Ac cq gN hl ph rfl) (fun _=>rfl) ?_;intro y hy;refine gK ?_
   repeat' (first|refine rQ ?_|(refine vy (fun hc=>?_) (fun hc=>?_)<;>(try simp at hc)<;>(try(exfalso;omega))))
   all_goals(refine aN ?_)
   ·exact tr hr (by omega)
   ·exact fa hr (by omega)
  ·replace h2:=eT h2
   refine dp ?_;refine aN ?_;exact fa hr (by omega)
def XO (l:List Int):List (List PV):=l.map fun n=>[.int .u8 n]
theorem Ix {size:Int} {H:List Int} {R:List (List PV)} (hH:H=if size=40 then [0]else if size=20 then [1,2]else []) (hR:R=XO H):pC mx 271 [.int .u8 size] (.sl R []):=by
 refine pZ Gz ?_
 iterate 129 intro _
 intro aB aV aW bp bu ah aD;refine gK ?_
 repeat' (first|refine rQ ?_|(refine vy (fun hc=>?_) (fun hc=>?_)<;>(try simp at hc)<;>(try(exfalso;omega))))
 all_goals(refine aN ?_)
 all_goals(subst hR hH;(repeat' split)<;>first|rfl|(exfalso;omega)|contradiction)
theorem Pk {rows sp:List (List PV)} {l:List Int} {n r:Int} (cq:rows=XO l) (hl:l.length<2^32) (hr:fQ (fun k=>l.getD k 0=n) l.length r):pC mx 306 [.sl rows sp,.int .u8 n] (.int .i64 r):=by
 have hlen:rows.length=l.length:=by simp[cq,XO]
 refine pZ GA ?_
 iterate 122 intro _
 intro aO _ ak aI aU aL aP aB aV aW bp bu ah aD;refine gK ?_;refine bG [0,1,6,7,8] [] (fun v σ_=>σ_.put (some 8) (.pv (.int .i64 (Int.ofNat v)))) (l.length) (fun k=>(l.getD k 0≠n)) ?_;intro v hv hk;refine dC ?_;refine bl.af (fun hd=>?_) (fun hd=>?_)
 ·have aY:v<l.length:=by rw[←aD,←ah]at hd;simp at hd;omega
  obtain⟨q,hq⟩:∃q,q=l.getD v 0:=⟨_,rfl⟩
  have eQ:aL (Int.ofNat v) rows 1:=by rw[←aP,cq];exact aR (enc:=fun n=>[PV.int .u8 n]) aY rfl
  have bM:aI rows (Int.ofNat v)=[.int .u8 q]:=by rw[←aU,cq,XO,aQ (enc:=fun n=>[PV.int .u8 n]) aY,hq];simp[List.getD_eq_getElem?_getD,aY]
  refine dp ?_;refine ae eQ ?_;rw[bM];refine gK ?_;refine bl.af (fun he=>?_) (fun he=>?_)
  ·replace he:=eT he
   refine dp ?_;refine dm ?_;rw[hr.at aY (by rw[←hq];exact he.symm) hk]
  ·replace he:=eT he
   refine dp ?_;refine ai ⟨aY,by rw[←hq];omega,?_⟩;rw[wS ak aO (v:=v) (by omega)]
   cbv
 ·have aY:v=l.length:=by rw[←aD,←ah]at hd;simp at hd;omega
  refine dp ?_;refine au rfl ?_;refine gK ?_;refine aN ?_;rw[hr.none (fun k eZ=>hk k (by omega))]
theorem Pl {rows sp:List (List PV)} {l:List Int} {n:Int} {r:Bool} (cq:rows=XO l) (hl:l.length<2^32) (hr:r=decide (n∈l)):pC mx 270 [.sl rows sp,.int .u8 n] (.bool r):=by
 obtain⟨x,hx⟩:=fQ.ex (fun k=>l.getD k 0=n) l.length
 have fV:0≤x↔n∈l:=by
  rw[hx.iff];constructor
  ·rintro⟨v,h1,h2⟩;rw[←h2,getD_eq h1];exact List.getElem_mem h1
  ·intro h;obtain⟨v,h1,h2⟩:=List.getElem_of_mem h;exact⟨v,h1,by rw[getD_eq h1,h2]⟩
 refine pZ GB ?_
 iterate 129 intro _
 intro aB aV aW bp bu ah aD;refine gK ?_;refine an (by cbv) (Pk cq hl hx) (fun h=>by first|rfl|cases h) ?_;refine gK ?_
 repeat' (first|refine rQ ?_|(refine vy (fun hc=>?_) (fun hc=>?_)<;>(try simp at hc)<;>(try(exfalso;omega))))
 all_goals(refine aN ?_)
 all_goals first|exact tr hr (fV.1 (by omega))|exact fa hr (fun h=>by have:=fV.2 h;omega)
theorem oX {c csp vv vsp r rsp f fsp t tsp:List (List PV)} {l1 l2 l3 l4 m1 m2 m3 m4:Int} {cl:List aM} {x:Slot} {size:Int} {res:Bool} (ff:c=cl.map aM.enc) (hl:cl.length<2^32) (hr:res=decide (bV cl x size)):pC mx 190 [.agg [.sl c csp,.sl vv vsp,.int .i64 l1,.int .i64 l2,.int .i64 l3,.int .i64 l4,.sl r rsp,.sl f fsp,.sl t tsp,.int .i64 m1,.int .i64 m2,.int .i64 m3,.int .i64 m4],.agg [.int .i64 x.column,.int .i64 x.gG,.int .u8 x.half],.int .u8 size] (.bool res):=by
 have hlen:c.length=cl.length:=by simp[ff]
 obtain⟨xc,xt,xh⟩:=x;dsimp only
 have bad:(0≤xc∧xc<cl.length∧0≤xt→False)→¬bV cl ⟨xc,xt,xh⟩ size:=fun h h'=>h ⟨h'.1.1,h'.1.2.1,h'.1.2.2.1⟩
 obtain⟨H,hH⟩:∃H,H=if size=40 then [0]else if size=20 then [(1:Int),2]else []:=⟨_,rfl⟩
 obtain⟨R,hR⟩:∃R,R=XO H:=⟨_,rfl⟩
 have hHl:H.length<2^32:=by subst hH;(repeat' split)<;>simp
 have rq:xh∈H↔((size=40∧xh=0)∨(size=20∧(xh=1∨xh=2))):=by
  subst hH
  (repeat' split)<;>simp<;>omega
 refine pZ GC ?_
 iterate 125 intro _
 intro aI aU aL aP aB aV aW bp bu ah aD;refine gK ?_
 repeat' (first|refine rQ ?_|(refine vy (fun hc=>?_) (fun hc=>?_)<;>(try simp at hc)<;>(try(exfalso;omega))))
 all_goals try(refine aN ?_;exact fa hr (bad (by omega)))
 ·obtain⟨n,hn⟩:∃n:Nat,xc=Int.ofNat n:=⟨xc.toNat,by simp;omega⟩
  have rG:n<cl.length:=by subst hn;simp at*;omega
  subst hn;obtain⟨kD,bh⟩:∃x,cl[n]=x:=⟨_,rfl⟩
  have bx:aL (Int.ofNat n) c 12:=by rw[←aP,ff];exact aR (enc:=aM.enc) rG rfl
  obtain⟨⟨cZ,gM,eh,dM,dz,jd,je,fP,cP,jf,ny,nA,nB⟩,cK⟩:∃y,kD=y:=⟨_,rfl⟩;subst cK
  have a6:aI c (Int.ofNat n)=[.int .i64 cZ,.int .i64 gM,.bool eh,.int .i64 dM,.int .i64 dz,.int .i64 jd,.int .i64 je,.int .i64 fP,.sl (ints cP) jf,.int .i64 ny,.int .i64 nA,.int .i64 nB]:=by rw[←aU,ff,aQ (enc:=aM.enc) rG,bh];rfl
  obtain⟨wh,gh⟩:∃p,p=ints cP:=⟨_,rfl⟩;rw[←gh]at a6
  have key:bV cl ⟨Int.ofNat n,xt,xh⟩ size↔xt<dM∧xh∈H:=by
   rw[rq];constructor
   ·rintro⟨⟨-,-,-,h⟩,h2⟩;have:=h rG;simp only[Int.toNat_natCast,Int.ofNat_eq_natCast]at this;rw[bh]at this;exact⟨this,h2⟩
   ·rintro⟨h1,h2⟩;exact⟨⟨by simp,by simpa using rG,by assumption,fun h=>by simp only[Int.toNat_natCast,Int.ofNat_eq_natCast];rw[bh];exact h1⟩,h2⟩
  rw[key]at hr;refine ae bx ?_;rw[a6];refine gK ?_;refine bl.af (fun h1=>?_) (fun h1=>?_)
  ·replace h1:=eT h1
   refine dp ?_;refine ao (by cbv) (Ix hH hR) (fun h=>by first|rfl|cases h) ?_;refine gK ?_;refine im (by cbv) (Pl hR hHl rfl) (fun h=>?_) (fun h=>?_)<;>simp only[decide_eq_true_eq,decide_eq_false_iff_not]at h
   ·refine gK ?_;refine aN ?_;exact tr hr ⟨h1,h⟩
   ·refine gK ?_;refine aN ?_;exact fa hr (fun h'=>h h'.2)
  ·replace h1:=eT h1
   refine dp ?_;refine aN ?_;exact fa hr (fun h'=>by omega)
end Go.bW
end
section
open Go Go.Am Go.Proofs
attribute [local irreducible] Am.bl.holds bA fw bC dv
namespace Go.bW
variable {mx:Int}
open Classical
theorem Fc {rows sp:List (List PV)} {l:List Slot} {x:Slot} {r:Int} (cq:rows=l.map Slot.enc) (hl:l.length<2^32) (hr:fQ (fun k=>∃h:k<l.length,l[k]=x) l.length r):pC mx 307 [.sl rows sp,.agg [.int .i64 x.column,.int .i64 x.gG,.int .u8 x.half]] (.int .i64 r):=by
 have hlen:rows.length=l.length:=by simp[cq]
 obtain⟨xc,xt,xh⟩:=x;dsimp only;refine pZ GD ?_
 iterate 86 intro _
 intro ye Du
 iterate 34 intro _
 intro aO _ ak aI aU aL aP aB aV aW bp bu ah aD;refine gK ?_;refine bG [0,3,6,7,8] (nn [3,3]) (fun v σ_=>σ_.put (some 8) (.pv (.int .i64 (Int.ofNat v)))) (l.length) (fun k=>(∀h:k<l.length,l[k]≠⟨xc,xt,xh⟩)) ?_;intro v hv hk;refine dC ?_;refine bl.af (fun hd=>?_) (fun hd=>?_)
 ·have aY:v<l.length:=by rw[←aD,←ah]at hd;simp at hd;omega
  obtain⟨kD,bh⟩:∃x,l[v]=x:=⟨_,rfl⟩
  have bx:aL (Int.ofNat v) rows 3:=by rw[←aP,cq];exact aR (enc:=Slot.enc) aY rfl
  obtain⟨⟨eB,dX,cG⟩,cK⟩:∃y,kD=y:=⟨_,rfl⟩;subst cK
  have a6:aI rows (Int.ofNat v)=[.int .i64 eB,.int .i64 dX,.int .u8 cG]:=by rw[←aU,cq,aQ (enc:=Slot.enc) aY,bh];rfl
  refine dp ?_;refine ae bx ?_;rw[a6];refine gK ?_;refine bl.af (fun he=>?_) (fun he=>?_)
  ·rw[←Du]at he;simp[bw]at he;refine dp ?_;refine ae (by rw[←ye];simp[aX]) ?_;refine gK ?_;refine dm ?_;rw[hr.at aY ⟨aY,by rw[bh,he.1,he.2.1,he.2.2]⟩ (fun k eZ h'=>hk k eZ h'.1 h'.2)]
  ·rw[←Du]at he;simp[bw]at he;refine dp ?_;refine ae (by rw[←ye];simp[aX]) ?_;refine gK ?_
   have dW:l[v]≠⟨xc,xt,xh⟩:=fun h=>by
    rw[bh]at h
    injection h with h1 h2 h3
    exact he h1.symm h2.symm h3.symm
   refine ai ⟨aY,fun _=>dW,?_⟩;rw[wS ak aO (v:=v) (by omega)]
   cbv
 ·have aY:v=l.length:=by rw[←aD,←ah]at hd;simp at hd;omega
  refine dp ?_;refine au rfl ?_;refine gK ?_;refine aN ?_;rw[hr.none (fun k eZ h'=>hk k (by omega) h'.1 h'.2)]
theorem Fe {rows sp:List (List PV)} {l:List Slot} {x:Slot} {r:Bool} (cq:rows=l.map Slot.enc) (hl:l.length<2^32) (hr:r=decide (x∈l)):pC mx 273 [.sl rows sp,.agg [.int .i64 x.column,.int .i64 x.gG,.int .u8 x.half]] (.bool r):=by
 obtain⟨n,hn⟩:=fQ.ex (fun k=>∃h:k<l.length,l[k]=x) l.length
 have fV:0≤n↔x∈l:=by
  rw[hn.iff];constructor
  ·rintro⟨v,h1,h2,h3⟩;rw[←h3];exact List.getElem_mem h2
  ·intro h;obtain⟨v,h1,h2⟩:=List.getElem_of_mem h;exact⟨v,h1,h1,h2⟩
 obtain⟨xc,xt,xh⟩:=x;dsimp only;refine pZ GF ?_
 iterate 129 intro _
 intro aB aV aW bp bu ah aD;refine gK ?_;refine an (by cbv) (Fc (x:=⟨xc,xt,xh⟩) cq hl hn) (fun h=>by first|rfl|cases h) ?_;refine gK ?_
 repeat' (first|refine rQ ?_|(refine vy (fun hc=>?_) (fun hc=>?_)<;>(try simp at hc)<;>(try(exfalso;omega))))
 all_goals(refine aN ?_)
 all_goals first|exact tr hr (fV.1 (by omega))|exact fa hr (fun h=>by have:=fV.2 h;omega)
theorem yf {rows sp:List (List PV)} {l:List Slot} {x:Slot} {half:Int} {r:Bool} (cq:rows=l.map Slot.enc) (hl:l.length<2^32) (ht:0<x.gG∧x.gG<2^63) (hr:r=decide (Has l x half)):pC mx 272 [.int .u8 half,.ptr [.sl rows sp],.ptr [.int .i64 x.column,.int .i64 x.gG,.int .u8 x.half]] (.bool r):=by
 obtain⟨xc,xt,xh⟩:=x;dsimp only at ht ⊢
 have fV:(⟨xc,xt-1,half⟩:Slot)∈l↔Has l ⟨xc,xt,xh⟩ half:=by
  unfold Has;constructor
  ·intro h;obtain⟨v,h1,h2⟩:=List.getElem_of_mem h;exact⟨v,h1,by rw[h2],by rw[h2],by rw[h2]⟩
  ·rintro⟨v,h1,h2,h3,h4⟩;dsimp only at h2 h3
   have:l[v]=⟨xc,xt-1,half⟩:=by
    rw[←h2,←h3,←h4]
   rw[←this];exact List.getElem_mem h1
 obtain⟨t,CG⟩:∃t,t=xt-1:=⟨_,rfl⟩;rw[←CG]at fV
 have ri:r=decide ((⟨xc,t,half⟩:Slot)∈l):=by rw[hr];exact decide_eq_decide.2 fV.symm
 refine pZ GH ?_
 iterate 119 intro _
 intro b5 cQ _ _ aw ak _ _ _ _ aB aV aW bp bu ah aD
 have dD:aw .i64 (b5 xt 1)=t:=by rw[←ak,←cQ];simp only[ct,kP];rw[dh]<;>omega
 refine gK ?_;rw[dD];refine an (by cbv) (Fe (x:=⟨xc,t,half⟩) cq hl ri) (fun h=>by first|rfl|cases h) ?_;refine gK ?_;refine aN ?_;rfl
theorem Hi {rows sp:List (List PV)} {l:List Slot} {x:Slot} {res:Bool} (cq:rows=l.map Slot.enc) (hl:l.length<2^32) (ht:x.gG<2^63) (hr:res=decide (Vu x l)):pC mx 191 [.agg [.int .i64 x.column,.int .i64 x.gG,.int .u8 x.half],.sl rows sp] (.bool res):=by
 obtain⟨xc,xt,xh⟩:=x;dsimp only at ht ⊢;refine pZ GI ?_
 iterate 129 intro _
 intro aB aV aW bp bu ah aD;refine gK ?_;refine bl.af (fun h1=>?_) (fun h1=>?_)
 ·replace h1:=eT h1
  refine dp ?_;refine aN ?_;exact tr hr (Or.inl h1)
 ·replace h1:=eT h1
  refine dp ?_;refine bX (by cbv) (yf (x:=⟨xc,xt,xh⟩) cq hl ⟨h1,ht⟩ rfl) (fun h=>?_) (fun h=>?_)<;>simp only[decide_eq_true_eq,decide_eq_false_iff_not]at h
  ·refine gK ?_;refine aN ?_;exact tr hr (Or.inr (Or.inl h))
  ·refine gK ?_;refine bl.af (fun h2=>?_) (fun h2=>?_)
   ·replace h2:=eT h2
    refine dp ?_;refine bX (by cbv) (yf (x:=⟨xc,xt,xh⟩) cq hl ⟨h1,ht⟩ rfl) (fun h'=>?_) (fun h'=>?_)<;>simp only[decide_eq_true_eq,decide_eq_false_iff_not]at h'
    ·refine gK ?_;refine bX (by cbv) (yf (x:=⟨xc,xt,xh⟩) cq hl ⟨h1,ht⟩ rfl) (fun OA=>?_) (fun OA=>?_)<;>simp only[decide_eq_true_eq,decide_eq_false_iff_not]at OA
     ·refine gK ?_;refine aN ?_;exact tr hr (Or.inr (Or.inr ⟨h2,h',OA⟩))
     ·refine gK ?_;refine aN ?_;refine fa hr ?_;rintro(h3|h3|h3)
      ·dsimp only at h3;omega
      ·exact h h3
      ·exact OA h3.2.2
    ·refine gK ?_;refine aN ?_;refine fa hr ?_;rintro(h3|h3|h3)
     ·dsimp only at h3;omega
     ·exact h h3
     ·exact h' h3.2.1
   ·replace h2:=eT h2
    refine dp ?_;refine aN ?_;refine fa hr ?_;rintro(h3|h3|h3)
    ·dsimp only at h3;omega
    ·exact h h3
    ·exact h2 h3.1
theorem Bo.symm {a b:Slot} (h:Bo a b):Bo b a:=by
 obtain⟨h1,h2,h3⟩:=h;exact⟨h1.symm,h2.symm,by unfold qo at*;omega⟩
theorem Pm {c csp vv vsp r rsp f fsp t tsp:List (List PV)} {l1 l2 l3 l4 m1 m2 m3 m4:Int} {rows sp bF bsp:List (List PV)} {cl:List aM} {vl:List bq} {l:List aT} {boxes:List cE} {res:Bool} (pj:∀{q:Bool},q=decide (fy cl vl)→pC mx 141 [.agg [.sl c csp,.sl vv vsp,.int .i64 l1,.int .i64 l2,.int .i64 l3,.int .i64 l4,.sl r rsp,.sl f fsp,.sl t tsp,.int .i64 m1,.int .i64 m2,.int .i64 m3,.int .i64 m4]] (.bool q)) (ff:c=cl.map aM.enc) (mj:cl.length<2^32)
  (cq:rows=l.map aT.enc) (gN:bF=boxes.map cE.enc) (hl:l.length<2^32) (ph:boxes.length<2^32) (oC:∀b∈boxes,mw b) (bL:∀x∈l,kF x) (hr:res=decide (lV cl vl boxes l)):
  pC mx 93 [.agg [.sl c csp,.sl vv vsp,.int .i64 l1,.int .i64 l2,.int .i64 l3,.int .i64 l4,.sl r rsp,.sl f fsp,.sl t tsp,.int .i64 m1,.int .i64 m2,.int .i64 m3,.int .i64 m4],.sl bF bsp,.sl rows sp] (.bool res):=by
 have hlen:c.length=cl.length:=by simp[ff]
 have zX:rows.length=l.length:=by simp[cq]
 obtain⟨S,hS⟩:∃S,S=(l.map (·.slot)).map Slot.enc:=⟨_,rfl⟩
 have R7:S.length=l.length:=by simp[hS]
 refine pZ KP ?_
 iterate 94 intro _
 intro nw
 iterate 13 intro _
 intro fj _ _ _ _ _ eA _ _ _ _ b5 cQ _ aO aw ak aI aU aL aP aB aV aW bp bu ah aD;refine gK ?_;refine bX (by cbv) (pj rfl) (fun h=>?_) (fun h=>?_)<;>simp only[decide_eq_true_eq,decide_eq_false_iff_not]at h
 ·have hsr:=h;refine gK ?_;refine an (by cbv) (K9 cq hS hl) (fun h=>by first|rfl|cases h) ?_;refine gK ?_;refine bG [1,2,3,7,20,21,22] (nn [3,3]) (fun v σ_=>σ_.put (some 22) (.pv (.int .i64 (Int.ofNat v)))) (l.length) (fun k=>sE cl boxes l k) ?_;intro v hv hk;refine dC ?_;refine bl.af (fun hd=>?_) (fun hd=>?_)
  ·have aY:v<l.length:=by rw[←aD,←ah]at hd;simp at hd;omega
   have bad:¬sE cl boxes l v→¬lV cl vl boxes l:=fun h h'=>h (h'.2.1 v aY)
   have Ma:=bL _ (List.getElem_mem aY);obtain⟨kD,bh⟩:∃x,l[v]=x:=⟨_,rfl⟩
   have bx:aL (Int.ofNat v) rows 4:=by rw[←aP,cq];exact aR (enc:=aT.enc) aY rfl
   obtain⟨⟨fH,⟨eB,dX,cG⟩⟩,cK⟩:∃y,kD=y:=⟨_,rfl⟩;subst cK
   have a6:aI rows (Int.ofNat v)=[.int .i64 fH,.int .i64 eB,.int .i64 dX,.int .u8 cG]:=by rw[←aU,cq,aQ (enc:=aT.enc) aY,bh];rfl
   rw[bh]at Ma;refine dp ?_;refine ae bx ?_;rw[a6];refine gK ?_
   cases hf:kl boxes fH with
   |none=>
    refine an (by cbv) (wj (id:=fH) (ok:=false) (cs:=[.int .i64 0,.str [],.int .u8 0,.bool false,.int .i64 0,.int .i64 0,.int .i64 0,.int .u8 0,.bool false]) gN ph (by simp only[dN,hf];rfl) (by simp only[dN,hf])) (fun h=>by first|rfl|cases h) ?_;refine gK ?_;refine dm ?_;refine fa hr (bad ?_);intro h;obtain⟨⟨b,hb,-⟩,-⟩:=h aY;rw[bh]at hb;dsimp only at hb;rw[hf]at hb
    cases hb
   |some b=>
    have hbm:mw b:=oC b (by unfold kl at hf;exact List.mem_of_find?_eq_some hf);obtain⟨OD,Bs,bsize,rR,oR,tB,Bt,Bu,lQ⟩:=b;refine an (by cbv) (wj (id:=fH) (ok:=true) (cs:=[.int .i64 OD,.str Bs,.int .u8 bsize,.bool rR,.int .i64 oR,.int .i64 tB,.int .i64 Bt,.int .u8 Bu,.bool lQ]) gN ph (by simp only[dN,hf];rfl) (by simp only[dN,hf])) (fun h=>by first|rfl|cases h) ?_;refine gK ?_;refine bl.af (fun h1=>?_) (fun h1=>?_)
    ·replace h1:=eT h1
     obtain⟨w,hw⟩:∃w,v=w+1:=⟨v-1,by omega⟩
     have hwl:w<l.length:=by omega
     obtain⟨C8,dq⟩:∃x,l[w]=x:=⟨_,rfl⟩
     have dT:aL (Int.ofNat w) rows 4:=by rw[←aP,cq];exact aR (enc:=aT.enc) hwl rfl
     obtain⟨⟨tC,⟨nf,jY,jZ⟩⟩,lk⟩:∃y,C8=y:=⟨_,rfl⟩;subst lk
     have cL:aI rows (Int.ofNat w)=[.int .i64 tC,.int .i64 nf,.int .i64 jY,.int .u8 jZ]:=by rw[←aU,cq,aQ (enc:=aT.enc) hwl,dq];rfl
     have dD:aw .i64 (b5 (Int.ofNat v) 1)=Int.ofNat w:=by rw[←ak,←cQ];simp only[ct,kP];rw[dh]<;>simp<;>omega
     refine dp ?_;rw[dD];refine ae dT ?_;rw[cL];refine gK ?_;refine bl.af (fun h2=>?_) (fun h2=>?_)
     ·replace h2:=eT h2
      refine dp ?_;refine dm ?_;refine fa hr (bad ?_);intro h';have:=((h' aY).2.2 w (by omega)).1;rw[bh,dq]at this;dsimp only at this;omega
     ·replace h2:=eT h2
      have V3:∀k,(eZ:k<v)→l[k].box<fH:=by
       intro k eZ
       by_cases e:k=w
       ·subst e;rw[dq];exact h2
       ·have:=((hk w (by omega) hwl).2.2 k (by omega)).1;rw[dq]at this;dsimp only at this;omega
      refine dp ?_;refine im (by cbv) (oX (x:=⟨eB,dX,cG⟩) ff mj rfl) (fun h=>?_) (fun h=>?_)<;>simp only[decide_eq_true_eq,decide_eq_false_iff_not]at h
      ·have Gg:=h;refine gK ?_;refine im (by cbv) (Hi (x:=⟨eB,dX,cG⟩) hS (by simpa using hl) (by have:=Ma.2.2.1.2;dsimp only at this ⊢;omega) rfl) (fun h=>?_) (fun h=>?_)<;>simp only[decide_eq_true_eq,decide_eq_false_iff_not]at h
       ·have hhe:=h;refine gK ?_;refine ae (by rw[←nw];exact⟨by simp,by simp,by simp;omega,Or.inl rfl⟩) ?_;generalize hT:fj S 0 (Int.ofNat v)=T
        have V4:T=(l.take v).map (fun x=>x.slot.enc):=by rw[←hT,←eA,hS];simp[List.map_take];rfl
        have hTl:T.length=v:=by rw[V4];simp;omega
        refine gK ?_;obtain⟨i,rfl⟩:∃i,i=v:=⟨v,rfl⟩;refine bG [1,2,3,7,9,20,21,22,69,70,71] (nn [3,3,0,4]) (fun v σ_=>σ_.put (some 71) (.pv (.int .i64 (Int.ofNat v)))) (i) (fun k=>(∀hk:k<i,¬Bo l[k].slot ⟨eB,dX,cG⟩)) ?_;intro v hv hk;refine dC ?_;refine bl.af (fun he=>?_) (fun he=>?_)
        ·have gu:v<i:=by rw[←aD,←ah]at he;simp at he;omega
         have sP:v<l.length:=by omega
         obtain⟨⟨abm,⟨Dv,yg,yh⟩⟩,gP⟩:∃x,l[v]=x:=⟨_,rfl⟩
         have jL:aL (Int.ofNat v) T 3:=by rw[←aP,V4];exact aR (enc:=fun x:aT=>x.slot.enc) (by simp;omega) rfl
         have jx:aI T (Int.ofNat v)=[.int .i64 Dv,.int .i64 yg,.int .u8 yh]:=by rw[←aU,V4,aQ (enc:=fun x:aT=>x.slot.enc) (by simp;omega),List.getElem_take,gP];rfl
         refine dp ?_;refine ae jL ?_;rw[jx];refine gK ?_;refine bX (by cbv) (Hh (a:=⟨eB,dX,cG⟩) (b:=⟨Dv,yg,yh⟩) rfl) (fun h=>?_) (fun h=>?_)<;>simp only[decide_eq_true_eq,decide_eq_false_iff_not]at h
         ·refine gK ?_;refine dS rfl (cO.ml rfl ?_);show eV _ _=_;refine zeT ?_;refine fa hr (bad ?_);intro h';have:=((h' aY).2.2 v gu).2;rw[bh,gP]at this;exact this h.symm
         ·refine gK ?_;refine ai ⟨gu,fun _=>by rw[gP];exact fun h'=>h h'.symm,?_⟩;rw[wS ak aO (v:=v) (by omega)]
          cbv
        ·have gu:v=i:=by rw[←aD,←ah]at he;simp at he;omega
         subst gu;refine dp ?_;refine au rfl ?_;refine gK ?_;refine ai ⟨aY,fun _=>⟨⟨_,by rw[bh];exact hf,by rw[bh];exact Gg⟩,by rw[bh];exact hhe,fun k eZ=>⟨by rw[bh];exact V3 k eZ,by rw[bh];exact hk k eZ eZ⟩⟩,?_⟩;rw[wS ak aO (v:=v) (by omega)]
         cbv
       ·refine gK ?_;refine dm ?_;refine fa hr (bad ?_);intro h';have:=(h' aY).2.1;rw[bh]at this;exact h this
      ·refine gK ?_;refine dm ?_;refine fa hr (bad ?_);intro h';obtain⟨⟨b,hb,sd⟩,-⟩:=h' aY;rw[bh]at hb sd;dsimp only at hb;rw[hf]at hb
       cases hb
       exact h sd
    ·replace h1:=eT h1
     have V3:∀k,(eZ:k<v)→l[k].box<fH:=fun k eZ=>by omega
     refine dp ?_;refine im (by cbv) (oX (x:=⟨eB,dX,cG⟩) ff mj rfl) (fun h=>?_) (fun h=>?_)<;>simp only[decide_eq_true_eq,decide_eq_false_iff_not]at h
     ·have Gg:=h;refine gK ?_;refine im (by cbv) (Hi (x:=⟨eB,dX,cG⟩) hS (by simpa using hl) (by have:=Ma.2.2.1.2;dsimp only at this ⊢;omega) rfl) (fun h=>?_) (fun h=>?_)<;>simp only[decide_eq_true_eq,decide_eq_false_iff_not]at h
      ·have hhe:=h;refine gK ?_;refine ae (by rw[←nw];exact⟨by simp,by simp,by simp;omega,Or.inl rfl⟩) ?_;generalize hT:fj S 0 (Int.ofNat v)=T
       have V4:T=(l.take v).map (fun x=>x.slot.enc):=by rw[←hT,←eA,hS];simp[List.map_take];rfl
       have hTl:T.length=v:=by rw[V4];simp;omega
       refine gK ?_;obtain⟨i,rfl⟩:∃i,i=v:=⟨v,rfl⟩;refine bG [1,2,3,7,9,20,21,22,69,70,71] (nn [3,3,0,4]) (fun v σ_=>σ_.put (some 71) (.pv (.int .i64 (Int.ofNat v)))) (i) (fun k=>(∀hk:k<i,¬Bo l[k].slot ⟨eB,dX,cG⟩)) ?_;intro v hv hk;refine dC ?_;refine bl.af (fun he=>?_) (fun he=>?_)
       ·have gu:v<i:=by rw[←aD,←ah]at he;simp at he;omega
        have sP:v<l.length:=by omega
        obtain⟨⟨abm,⟨Dv,yg,yh⟩⟩,gP⟩:∃x,l[v]=x:=⟨_,rfl⟩
        have jL:aL (Int.ofNat v) T 3:=by rw[←aP,V4];exact aR (enc:=fun x:aT=>x.slot.enc) (by simp;omega) rfl
        have jx:aI T (Int.ofNat v)=[.int .i64 Dv,.int .i64 yg,.int .u8 yh]:=by rw[←aU,V4,aQ (enc:=fun x:aT=>x.slot.enc) (by simp;omega),List.getElem_take,gP];rfl
        refine dp ?_;refine ae jL ?_;rw[jx];refine gK ?_;refine bX (by cbv) (Hh (a:=⟨eB,dX,cG⟩) (b:=⟨Dv,yg,yh⟩) rfl) (fun h=>?_) (fun h=>?_)<;>simp only[decide_eq_true_eq,decide_eq_false_iff_not]at h
        ·refine gK ?_;refine dS rfl (cO.ml rfl ?_);show eV _ _=_;refine zeT ?_;refine fa hr (bad ?_);intro h';have:=((h' aY).2.2 v gu).2;rw[bh,gP]at this;exact this h.symm
        ·refine gK ?_;refine ai ⟨gu,fun _=>by rw[gP];exact fun h'=>h h'.symm,?_⟩;rw[wS ak aO (v:=v) (by omega)]
         cbv
       ·have gu:v=i:=by rw[←aD,←ah]at he;simp at he;omega
        subst gu;refine dp ?_;refine au rfl ?_;refine gK ?_;refine ai ⟨aY,fun _=>⟨⟨_,by rw[bh];exact hf,by rw[bh];exact Gg⟩,by rw[bh];exact hhe,fun k eZ=>⟨by rw[bh];exact V3 k eZ,by rw[bh];exact hk k eZ eZ⟩⟩,?_⟩;rw[wS ak aO (v:=v) (by omega)]
        cbv
      ·refine gK ?_;refine dm ?_;refine fa hr (bad ?_);intro h';have:=(h' aY).2.1;rw[bh]at this;exact h this
     ·refine gK ?_;refine dm ?_;refine fa hr (bad ?_);intro h';obtain⟨⟨b,hb,sd⟩,-⟩:=h' aY;rw[bh]at hb sd;dsimp only at hb;rw[hf]at hb
      cases hb
      exact h sd
  ·have aY:v=l.length:=by rw[←aD,←ah]at hd;simp at hd;omega
   have Yj:∀i,i<l.length→sE cl boxes l i:=fun i h=>hk i (by omega)
   refine dp ?_;refine au rfl ?_;refine gK ?_;refine bG [1,2,3,83,84] (nn [3,3]) (fun v σ_=>σ_.put (some 84) (.pv (.int .i64 (Int.ofNat v)))) (cl.length) (fun k=>(∀h:k<cl.length,Fits cl[k] boxes l (Int.ofNat k))) ?_;intro v hv hk;refine dC ?_;refine bl.af (fun ru=>?_) (fun ru=>?_)
   ·have aY:v<cl.length:=by rw[←aD,←ah]at ru;simp at ru;omega
    refine dp ?_;refine bX (by cbv) (Pj ff cq gN mj hl ph aY rfl) (fun h=>?_) (fun h=>?_)<;>simp only[decide_eq_true_eq,decide_eq_false_iff_not]at h
    ·refine gK ?_;refine ai ⟨aY,fun _=>h,?_⟩;rw[wS ak aO (v:=v) (by omega)]
     cbv
    ·refine gK ?_;refine dm ?_;refine fa hr ?_;rintro⟨-,-,h'⟩;exact h (h' v aY)
   ·have aY:v=cl.length:=by rw[←aD,←ah]at ru;simp at ru;omega
    refine dp ?_;refine au rfl ?_;refine gK ?_;refine aN ?_;exact tr hr ⟨hsr,Yj,fun i h=>hk i (by omega) h⟩
 ·refine gK ?_;refine aN ?_;refine fa hr ?_;rintro⟨h',-⟩;exact h h'
end Go.bW
end
section
open Go Go.Am Go.Proofs
attribute [local irreducible] Am.bl.holds bA fw bC dv
namespace Go.bW
variable {mx:Int}
open Classical
abbrev Span:=Int×Int×Int
def Lm (x:Span):List PV:=[.int .i64 x.1,.int .i64 x.2.1,.int .i64 x.2.2]
theorem Ag {rows sp:List (List PV)} {l:List Span} {r:Bool} (cq:rows=l.map Lm) (hl:l.length<2^32) (hr:r=decide (∀x∈l,In x.1 x.2.1 x.2.2)):pC mx 294 [.sl rows sp] (.bool r):=by
 have hlen:rows.length=l.length:=by simp[cq]
 refine pZ Hl ?_
 iterate 122 intro _
 intro aO _ ak aI aU aL aP aB aV aW bp bu ah aD;refine gK ?_;refine bG [5,6,7] [] (fun v σ_=>σ_.put (some 7) (.pv (.int .i64 (Int.ofNat v)))) (l.length) (fun k=>(∀h:k<l.length,In l[k].1 l[k].2.1 l[k].2.2)) ?_;intro v hv hk;refine dC ?_;refine bl.af (fun hd=>?_) (fun hd=>?_)
 ·have aY:v<l.length:=by rw[←aD,←ah]at hd;simp at hd;omega
  have bad:¬In l[v].1 l[v].2.1 l[v].2.2→¬∀x∈l,In x.1 x.2.1 x.2.2:=fun h h'=>h (h' _ (List.getElem_mem aY))
  obtain⟨⟨n_a,lo_a,hi_a⟩,bh⟩:∃x,l[v]=x:=⟨_,rfl⟩;rw[bh]at bad;dsimp only at bad
  have bx:aL (Int.ofNat v) rows 3:=by rw[←aP,cq];exact aR (enc:=Lm) aY rfl
  have a6:aI rows (Int.ofNat v)=[.int .i64 n_a,.int .i64 lo_a,.int .i64 hi_a]:=by rw[←aU,cq,aQ (enc:=Lm) aY,bh];rfl
  refine dp ?_;refine ae bx ?_;rw[a6];refine gK ?_
  repeat' (first|refine rQ ?_|(refine vy (fun hc=>?_) (fun hc=>?_)<;>(try simp at hc)<;>(try(exfalso;omega))))
  all_goals first
   |(refine dm ?_;exact fa hr (bad (by unfold In;omega)))
   |(refine ai ⟨aY,fun _=>by rw[bh];unfold In;dsimp only;omega,?_⟩
     rw[wS ak aO (v:=v) (by omega)]
     cbv)
 ·have aY:v=l.length:=by rw[←aD,←ah]at hd;simp at hd;omega
  refine dp ?_;refine au rfl ?_;refine gK ?_;refine aN ?_
  refine tr hr fun x hx=>?_
  obtain⟨k,h1,rfl⟩:=List.getElem_of_mem hx;exact hk k (by omega) h1
theorem Ah {x:aM} {p sp:List (List PV)} {r:Bool} (hp:p=ints x.b9) (hr:r=decide (gd x)) (hl:x.b9.length<2^32):pC mx 238 [.agg [.int .i64 x.jH,.int .i64 x.row,.bool x.js,.int .i64 x.dk,.int .i64 x.di,.int .i64 x.vt,.int .i64 x.vu,.int .i64 x.lf,.sl p sp,.int .i64 x.x,.int .i64 x.y,.int .i64 x.z]] (.bool r):=by
 obtain⟨jH,row,js,dk,di,vt,vu,lf,b9,D0,cx,cy,cz⟩:=x;dsimp only at hp hl ⊢
 have hlen:p.length=b9.length:=by simp[hp,ints]
 obtain⟨T,hT⟩:∃T,T=IntKind.wrap .i64 (dk-1):=⟨_,rfl⟩
 have hTw:(1≤dk∧dk≤10)→T=dk-1:=fun h=>by rw[hT,dh]<;>omega
 refine pZ GX ?_
 iterate 119 intro _
 intro b5 cQ _ aO aw ak aI aU aL aP aB aV aW bp bu ah aD;refine gK ?_;refine bG [1,3,7,8,9] [none,some 1] (fun v σ_=>σ_.put (some 9) (.pv (.int .i64 (Int.ofNat v)))) (b9.length) (fun k=>((1≤dk∧dk≤10)→sD ⟨jH,row,js,dk,di,vt,vu,lf,b9,D0,cx,cy,cz⟩ k)) ?_;intro v hv hk;refine dC ?_;refine bl.af (fun hd=>?_) (fun hd=>?_)
 ·have aY:v<b9.length:=by rw[←aD,←ah]at hd;simp at hd;omega
  obtain⟨q,hq⟩:∃q,q=b9.getD v 0:=⟨_,rfl⟩
  have eQ:aL (Int.ofNat v) p 1:=by rw[←aP,hp];exact jW (by simp) (by simp;omega)
  have bM:aI p (Int.ofNat v)=[.int .i64 q]:=by rw[←aU,hp,jb (by simp) (by simp;omega),hq];rfl
  have abz:aw .i64 (b5 dk 1)=T:=by rw[←ak,←cQ,hT];rfl
  have bad:¬sD ⟨jH,row,js,dk,di,vt,vu,lf,b9,D0,cx,cy,cz⟩ v→¬gd ⟨jH,row,js,dk,di,vt,vu,lf,b9,D0,cx,cy,cz⟩:=fun h h'=>h (h'.1 v aY)
  have badT:¬(1≤dk∧dk≤10)→¬gd ⟨jH,row,js,dk,di,vt,vu,lf,b9,D0,cx,cy,cz⟩:=fun h h'=>h h'.2.2.2.1
  refine dp ?_;refine ae eQ ?_;rw[bM];refine gK ?_;rw[abz];refine bX (by cbv) (Ag (l:=[(q,0,T)]) rfl (by simp) rfl) (fun h=>?_) (fun h=>?_)<;>simp only[decide_eq_true_eq,decide_eq_false_iff_not,List.mem_singleton,forall_eq,In]at h
  ·refine gK ?_;refine bl.af (fun h1=>?_) (fun h1=>?_)
   ·replace h1:=eT h1
    obtain⟨w,hw⟩:∃w,v=w+1:=⟨v-1,by omega⟩
    have dD:aw .i64 (b5 (Int.ofNat v) 1)=Int.ofNat w:=by rw[←ak,←cQ];simp only[ct,kP];rw[dh]<;>simp<;>omega
    obtain⟨t,ht⟩:∃t,t=b9.getD w 0:=⟨_,rfl⟩
    have jX:aL (Int.ofNat w) p 1:=by rw[←aP,hp];exact jW (by simp) (by simp;omega)
    have fF:aI p (Int.ofNat w)=[.int .i64 t]:=by rw[←aU,hp,jb (by simp) (by simp;omega),ht];rfl
    refine dp ?_;rw[dD];refine ae jX ?_;rw[fF];refine gK ?_;refine bl.af (fun h2=>?_) (fun h2=>?_)
    ·replace h2:=eT h2
     refine dp ?_;refine dm ?_;refine fa hr (bad ?_);intro h';have:=h'.2.2;dsimp only at this;simp only[hw,Nat.add_sub_cancel]at this;simp only[hw]at hq;omega
    ·replace h2:=eT h2
     refine dp ?_;refine ai ⟨aY,fun dW=>?_,?_⟩
     ·have:=hTw dW;refine⟨by dsimp only;omega,by dsimp only;omega,Or.inr (by dsimp only;simp only[hw,Nat.add_sub_cancel];simp only[hw]at hq;omega)⟩
     ·rw[wS ak aO (v:=v) (by omega)]
      cbv
   ·replace h1:=eT h1
    refine dp ?_;refine ai ⟨aY,fun dW=>?_,?_⟩
    ·have:=hTw dW;refine⟨by dsimp only;omega,by dsimp only;omega,Or.inl (by omega)⟩
    ·rw[wS ak aO (v:=v) (by omega)]
     cbv
  ·refine gK ?_;refine dm ?_;refine fa hr ?_
   by_cases hm:1≤dk∧dk≤10
   rotate_left
   ·exact badT hm
   ·have:=hTw hm;refine bad ?_;intro h';have h1:=h'.1;have h2:=h'.2.1;dsimp only at h1 h2;omega
 ·have aY:v=b9.length:=by rw[←aD,←ah]at hd;simp at hd;omega
  have zn:(1≤dk∧dk≤10)→∀i,i<b9.length→sD ⟨jH,row,js,dk,di,vt,vu,lf,b9,D0,cx,cy,cz⟩ i:=fun dW i h=>hk i (by omega) dW
  refine dp ?_;refine au rfl ?_;refine gK ?_;refine bX (by cbv) (Ag (l:=[(jH,0,39),(row,0,30),(dk,1,10),(di,0,40000),(vt,0,500000000),(vu,0,500000000),(lf,0,1000000000000),(cx,-500000,500000),(cy,-500000,500000),(cz,-500000,500000)]) rfl (by simp) rfl) (fun h=>?_) (fun h=>?_)<;>simp only[decide_eq_true_eq,decide_eq_false_iff_not,List.mem_cons,List.not_mem_nil,or_false,forall_eq_or_imp,forall_eq]at h
  ·refine gK ?_;refine aN ?_;exact tr hr ⟨zn (by have:=h.2.2.1;unfold In at this;omega),h⟩
  ·refine gK ?_;refine aN ?_;exact fa hr (fun h'=>h h'.2)
end Go.bW
end
section
open Go Go.Am Go.Proofs
attribute [local irreducible] Am.bl.holds bA fw bC dv
namespace Go.bW
variable {mx:Int}
open Classical
theorem uL:∀{n:Nat} {l:List Nat},l.Nodup→(∀i∈l,i<n)→l.length≤n
 |0,[],_,_=>Nat.le_refl _
 |0,x::_,_,h=>absurd (h x (by simp)) (by omega)
 |n+1,l,hn,h=>by
  by_cases hm:n∈l
  ·have:=uL (n:=n) (l:=l.erase n) (hn.erase n) (fun i hi=>by
    have h1:=h i (List.mem_of_mem_erase hi)
    have h2:i≠n:=fun e=>by subst e;exact(List.Nodup.mem_erase_iff hn).1 hi|>.1 rfl
    omega)
   rw[List.length_erase_of_mem hm]at this;omega
  ·have:=uL (n:=n) (l:=l) hn (fun i hi=>by
    have h1:=h i hi
    have h2:i≠n:=fun e=>by subst e;exact hm hi
    omega)
   omega
theorem BK {c csp vv vsp r rsp f fsp t tsp:List (List PV)} {l1 l2 l3 l4 m1 m2 m3 m4:Int} {cl:List aM} {vl:List bq} {res:Bool} (ff:c=cl.map aM.enc) (lU:vv=vl.map bq.enc) (mj:cl.length<2^32) (rP:vl.length<2^32) (oc:∀x∈cl,x.b9.length<2^32) (rv:∀x∈vl,x.rows.length<2^16) (hr:res=decide (fy cl vl)):
  pC mx 141 [.agg [.sl c csp,.sl vv vsp,.int .i64 l1,.int .i64 l2,.int .i64 l3,.int .i64 l4,.sl r rsp,.sl f fsp,.sl t tsp,.int .i64 m1,.int .i64 m2,.int .i64 m3,.int .i64 m4]] (.bool res):=by
 have R6:c.length=cl.length:=by simp[ff]
 have KE:vv.length=vl.length:=by simp[lU]
 refine pZ Pe ?_
 iterate 35 intro _
 intro CY D4 A9 Ba _ wg _ Bb
 iterate 20 intro _
 intro S7 Lo Wg Wh Ps Pt _ Wi _ _ _ _ _ oM wk
 iterate 10 intro _
 intro tq Ae
 iterate 29 intro _
 intro b5 cQ bg aO aw ak aI aU aL aP aB aV aW bp bu ah aD;refine gK ?_;refine bl.af (fun g1=>?_) (fun g1=>?_)
 ·replace g1:=eT g1
  refine dp ?_;refine aN ?_;exact fa hr (fun h=>by have:=h.1.1;omega)
 ·replace g1:=eT g1
  refine dp ?_;refine bl.af (fun g2=>?_) (fun g2=>?_)
  ·replace g2:=eT g2
   refine dp ?_;refine aN ?_;exact fa hr (fun h=>by have:=h.1.2.1;omega)
  ·replace g2:=eT g2
   refine dp ?_;refine bl.af (fun g3=>?_) (fun g3=>?_)
   ·replace g3:=eT g3
    refine dp ?_;refine aN ?_;exact fa hr (fun h=>by have:=h.1.2.2;omega)
   ·replace g3:=eT g3
    have uD:1≤cl.length∧cl.length≤200∧vl.length≤40:=by omega
    obtain⟨kc,zE⟩:∃f:Nat→List Key,f=fun v=>(cl.take v).map qH:=⟨_,rfl⟩
    obtain⟨M,hM⟩:∃f:List Key→List (List PV),f=fun ks=>ec (jN ks):=⟨_,rfl⟩
    have hM0:M (kc 0)=[]:=by rw[hM,zE];rfl
    have eY:∀(ks:List Key) (k:Key),ks.length<2^40→∃n:Nat,(∃x,oM 3 (M ks) (iz k) [.int .i64 0]=x∧x=.int .i64 (Int.ofNat n))∧aw .i64 (bg (Int.ofNat n) 1)=Int.ofNat (n+1)∧tq [1,1,1] 3 (M ks) (iz k)∧Ba (CY 3 (M ks) (iz k)) (D4 3 (M ks) (iz k) [.int .i64 0])∧
      A9 3 (D4 3 (M ks) (iz k) [.int .i64 0]) (CY 3 (M ks) (iz k)) [.int .i64 (Int.ofNat (n+1))]=M (ks++[k]):=fun ks k hl=>by
     have hle:=Wf (ks:=ks) (k:=k);refine⟨uc (jN ks) k,⟨_,rfl,?_⟩,?_,?_,?_,?_⟩
     ·rw[←wk,hM];exact S6
     ·rw[←ak,←aO];exact fZ (by omega)
     ·rw[←Ae,hM];exact abw
     ·rw[←Wh,←S7,←Lo,hM];exact abx
     ·rw[←Wg,←Lo,←S7,hM];simp only[oY];exact We
    refine dp ?_;refine qf (fun v σ_=>((σ_.tidy [1,3,31,32,33] (nn [1,1,27,29])).put (some 33) (.pv (.int .i64 (Int.ofNat v)))).aC 29 (.map true false 3 (M (kc v)))) cl.length (fun k=>∀h:k<cl.length,gd cl[k]) (by rw[hM0];exact Fg.b8 [1,3,31,32,33] (nn [1,1,27,29]) rfl (by cbv)) ?_;intro v hv hk;refine dC ?_;refine bl.af (fun hd=>?_) (fun hd=>?_)
    ·have aY:v<cl.length:=by rw[←aD,←ah]at hd;simp at hd;omega
     obtain⟨kD,bh⟩:∃x,cl[v]=x:=⟨_,rfl⟩
     have bx:aL (Int.ofNat v) c 12:=by rw[←aP,ff];exact aR (enc:=aM.enc) aY rfl
     obtain⟨⟨cZ,gM,eh,dM,dz,jd,je,fP,cP,jf,ny,nA,nB⟩,cK⟩:∃y,kD=y:=⟨_,rfl⟩;subst cK
     have a6:aI c (Int.ofNat v)=[.int .i64 cZ,.int .i64 gM,.bool eh,.int .i64 dM,.int .i64 dz,.int .i64 jd,.int .i64 je,.int .i64 fP,.sl (ints cP) jf,.int .i64 ny,.int .i64 nA,.int .i64 nB]:=by rw[←aU,ff,aQ (enc:=aM.enc) aY,bh];rfl
     obtain⟨wh,gh⟩:∃p,p=ints cP:=⟨_,rfl⟩;rw[←gh]at a6
     obtain⟨D,hD⟩:∃D:Int,D=if eh then 1 else 0:=⟨_,rfl⟩
     have UA:kc (v+1)=kc v++[(cZ,gM,D)]:=by
      rw[zE];simp only;rw[List.take_succ_eq_append_getElem aY,List.map_append,bh,hD];rfl
     obtain⟨n,⟨x,pr,hx⟩,iP,tN,Dz,pB⟩:=eY (kc v) (cZ,gM,D) (by rw[zE];simp;omega);rw[←UA]at pB;simp only[iz]at pr tN Dz pB;generalize M (kc (v+1))=m' at pB ⊢;generalize M (kc v)=m at pr tN Dz pB ⊢;refine dp ?_;refine ae bx ?_;rw[a6]
     cases eh
     all_goals
      simp only[Bool.false_eq_true,if_false,if_true]at hD;subst hD;refine gK ?_;refine ae tN ?_;rw[pr,hx];refine gK ?_;rw[iP];refine ae tN ?_;refine gK ?_;refine ae Dz ?_;rw[pB];refine gK ?_
      first
       |refine bX (by cbv) (Ah (x:=⟨cZ,gM,false,dM,dz,jd,je,fP,cP,jf,ny,nA,nB⟩) gh rfl (bh▸oc _ (List.getElem_mem aY))) (fun h=>?_) (fun h=>?_)
       |refine bX (by cbv) (Ah (x:=⟨cZ,gM,true,dM,dz,jd,je,fP,cP,jf,ny,nA,nB⟩) gh rfl (bh▸oc _ (List.getElem_mem aY))) (fun h=>?_) (fun h=>?_)
      all_goals simp only[decide_eq_true_eq,decide_eq_false_iff_not]at h
      ·refine gK ?_;refine ai ⟨aY,fun _=>by rw[bh];exact h,?_⟩;rw[wS ak aO (v:=v) (by omega)];exact Fg.b8 [1,3,31,32,33] (nn [1,1,27,29]) rfl (by cbv)
      ·refine gK ?_;refine dm ?_;refine fa hr ?_;rintro⟨-,h2,-⟩;have:=(h2 v aY).1;rw[bh]at this;exact h this
    ·have aY:v=cl.length:=by rw[←aD,←ah]at hd;simp at hd;omega
     have Da:∀i,(h:i<cl.length)→gd cl[i]:=fun i h=>hk i (by omega) h
     obtain⟨kv,Jb⟩:∃f:Nat→List Key,f=fun v=>cl.map qH++(vl.take v).flatMap kQ:=⟨_,rfl⟩
     have hkv0:kc v=kv 0:=by rw[Jb,zE,aY];simp
     have CC:∀n,n≤vl.length→(kv n).length≤cl.length+2^16*n:=by
      intro n;rw[Jb];simp only[List.length_append,List.length_map]
      induction n with
      |zero=>intro _;simp
      |succ n ih=>
       intro hn;have:=ih (by omega);rw[List.take_succ_eq_append_getElem (by omega),List.flatMap_append,List.length_append];have h2:=rv _ (List.getElem_mem (show n<vl.length by omega));simp only[List.flatMap_cons,List.flatMap_nil,List.append_nil,kQ,List.length_map];omega
     rw[hkv0];refine dp ?_;refine au rfl ?_;refine gK ?_;refine qf (fun v σ_=>((σ_.tidy [1,3,55,56,57] (nn [1,1,27,29])).put (some 57) (.pv (.int .i64 (Int.ofNat v)))).aC 29 (.map true false 3 (M (kv v)))) vl.length (fun k=>∀h:k<vl.length,jc vl[k]) (Fg.b8 [1,3,55,56,57] (nn [1,1,27,29]) rfl (by cbv)) ?_
     clear hk hv hd
     intro v hv hk;refine dC ?_;refine bl.af (fun hd=>?_) (fun hd=>?_)
     ·have aY:v<vl.length:=by rw[←aD,←ah]at hd;simp at hd;omega
      have bad:¬jc vl[v]→¬fy cl vl:=fun h h'=>h (h'.2.2 v aY).1
      have px:=rv _ (List.getElem_mem aY);obtain⟨kD,bh⟩:∃x,vl[v]=x:=⟨_,rfl⟩
      have bx:aL (Int.ofNat v) vv 2:=by rw[←aP,lU];exact aR (enc:=bq.enc) aY rfl
      obtain⟨⟨cZ,c8,pg⟩,cK⟩:∃y,kD=y:=⟨_,rfl⟩;subst cK
      have a6:aI vv (Int.ofNat v)=[.int .i64 cZ,.sl (ints c8) pg]:=by rw[←aU,lU,aQ (enc:=bq.enc) aY,bh];rfl
      rw[bh]at bad px;dsimp only at px;obtain⟨wh,gh⟩:∃p,p=ints c8:=⟨_,rfl⟩;rw[←gh]at a6
      have zn:wh.length=c8.length:=by simp[gh,ints]
      obtain⟨kr,CB⟩:∃f:Nat→List Key,f=fun j=>kv v++(c8.take j).map (fun r=>(cZ,r,2)):=⟨_,rfl⟩
      have hkr0:kv v=kr 0:=by rw[CB];simp
      have hkrE:kr c8.length=kv (v+1):=by
       rw[CB,Jb];simp only[List.take_length];rw[List.take_succ_eq_append_getElem aY,List.flatMap_append,bh,List.append_assoc];simp[kQ]
      rw[hkr0];refine dp ?_;refine ae bx ?_;rw[a6];refine gK ?_;refine bl.af (fun h1=>?_) (fun h1=>?_)
      ·replace h1:=eT h1
       refine dp ?_;refine dm ?_;exact fa hr (bad (fun h=>by have:=h.1;unfold In at this;dsimp only at this;omega))
      ·replace h1:=eT h1
       refine dp ?_;refine bl.af (fun h2=>?_) (fun h2=>?_)
       ·replace h2:=eT h2
        refine dp ?_;refine dm ?_;exact fa hr (bad (fun h=>by have:=h.1;unfold In at this;dsimp only at this;omega))
       ·replace h2:=eT h2
        refine dp ?_;refine bl.af (fun h3=>?_) (fun h3=>?_)
        ·replace h3:=eT h3
         refine dp ?_;refine dm ?_;refine fa hr (bad (fun h=>h.2.1 ?_));dsimp only
         have h3':wh.length=0:=by rw[h3];rfl
         exact List.length_eq_zero_iff.1 (by omega)
        ·replace h3:=eT h3
         refine dp ?_;obtain⟨i,rfl⟩:∃i,i=v:=⟨v,rfl⟩;refine qf (fun v σ_=>((σ_.tidy [1,3,8,55,56,57,76,77,78] (nn [1,1,6,8,20,29])).put (some 78) (.pv (.int .i64 (Int.ofNat v)))).aC 29 (.map true false 3 (M (kr v)))) c8.length (fun k=>rO ⟨cZ,c8,pg⟩ k) (Fg.b8 [1,3,8,55,56,57,76,77,78] (nn [1,1,6,8,20,29]) rfl (by cbv)) ?_;intro v hv hk;refine dC ?_;refine bl.af (fun he=>?_) (fun he=>?_)
         ·have s6:v<c8.length:=by rw[←aD,←ah]at he;simp at he;omega
          obtain⟨q,hq⟩:∃q,q=c8.getD v 0:=⟨_,rfl⟩
          have eQ:aL (Int.ofNat v) wh 1:=by rw[←aP,gh];exact jW (by simp) (by simp;omega)
          have bM:aI wh (Int.ofNat v)=[.int .i64 q]:=by rw[←aU,gh,jb (by simp) (by simp;omega),hq];rfl
          have hkrS:kr (v+1)=kr v++[(cZ,q,2)]:=by
           rw[CB];simp only;rw[List.take_succ_eq_append_getElem s6,List.map_append,hq,getD_eq s6,List.append_assoc];rfl
          obtain⟨n,⟨x,pr,hx⟩,iP,tN,Dz,pB⟩:=eY (kr v) (cZ,q,2) (by
           rw[CB];have:=CC i (by omega);simp only[List.length_append,List.length_map,List.length_take]
           omega)
          rw[←hkrS]at pB;simp only[iz]at pr tN Dz pB;generalize M (kr (v+1))=m' at pB ⊢;generalize M (kr v)=m at pr tN Dz pB ⊢;refine dp ?_;refine ae eQ ?_;rw[bM];refine gK ?_;refine bl.af (fun h4=>?_) (fun h4=>?_)
          ·replace h4:=eT h4
           refine dp ?_;refine dS rfl (cO.ml rfl ?_);show eV _ _=_;refine zeT ?_;exact fa hr (bad (fun h=>by have:=(h.2.2 v s6).1;dsimp only at this;omega))
          ·replace h4:=eT h4
           refine dp ?_;refine bl.af (fun h5=>?_) (fun h5=>?_)
           ·replace h5:=eT h5
            refine dp ?_;refine dS rfl (cO.ml rfl ?_);show eV _ _=_;refine zeT ?_;exact fa hr (bad (fun h=>by have:=(h.2.2 v s6).2.1;dsimp only at this;omega))
           ·replace h5:=eT h5
            refine dp ?_;refine bl.af (fun h6=>?_) (fun h6=>?_)
            ·replace h6:=eT h6
             obtain⟨w,hw⟩:∃w,v=w+1:=⟨v-1,by omega⟩
             have dD:aw .i64 (b5 (Int.ofNat v) 1)=Int.ofNat w:=by rw[←ak,←cQ];simp only[ct,kP];rw[dh]<;>simp<;>omega
             refine dp ?_;rw[dD];obtain⟨t,ht⟩:∃t,t=c8.getD w 0:=⟨_,rfl⟩
             have jX:aL (Int.ofNat w) wh 1:=by rw[←aP,gh];exact jW (by simp) (by simp;omega)
             have fF:aI wh (Int.ofNat w)=[.int .i64 t]:=by rw[←aU,gh,jb (by simp) (by simp;omega),ht];rfl
             refine ae jX ?_;rw[fF];refine gK ?_;refine bl.af (fun h7=>?_) (fun h7=>?_)
             ·replace h7:=eT h7
              refine dp ?_;refine dS rfl (cO.ml rfl ?_);show eV _ _=_;refine zeT ?_;refine fa hr (bad (fun h=>?_));have:=(h.2.2 v s6).2.2;dsimp only at this;simp only[hw,Nat.add_sub_cancel]at this;simp only[hw]at hq;omega
             ·replace h7:=eT h7
              have EO:rO ⟨cZ,c8,pg⟩ v:=⟨by dsimp only;omega,by dsimp only;omega,Or.inr (by dsimp only;simp only[hw,Nat.add_sub_cancel];simp only[hw]at hq;omega)⟩;refine dp ?_;refine ae tN ?_;rw[pr,hx];refine gK ?_;rw[iP];refine ae tN ?_;refine gK ?_;refine ae Dz ?_;rw[pB];refine gK ?_;refine ai ⟨s6,EO,?_⟩;rw[wS ak aO (v:=v) (by omega)];exact Fg.b8 [1,3,8,55,56,57,76,77,78] (nn [1,1,6,8,20,29]) rfl (by cbv)
            ·replace h6:=eT h6
             have EO:rO ⟨cZ,c8,pg⟩ v:=⟨by dsimp only;omega,by dsimp only;omega,Or.inl (by omega)⟩;refine dp ?_;refine ae tN ?_;rw[pr,hx];refine gK ?_;rw[iP];refine ae tN ?_;refine gK ?_;refine ae Dz ?_;rw[pB];refine gK ?_;refine ai ⟨s6,EO,?_⟩;rw[wS ak aO (v:=v) (by omega)];exact Fg.b8 [1,3,8,55,56,57,76,77,78] (nn [1,1,6,8,20,29]) rfl (by cbv)
         ·have s6:v=c8.length:=by rw[←aD,←ah]at he;simp at he;omega
          rw[s6,hkrE];refine dp ?_;refine au rfl ?_;refine gK ?_;refine ai ⟨aY,fun _=>?_,?_⟩
          ·rw[bh];refine⟨by unfold In;dsimp only;omega,fun h=>?_,fun j hj=>hk j (by dsimp only at hj;omega)⟩;dsimp only at h;rw[h]at zn;simp at zn;exact h3 zn
          rw[wS ak aO (v:=i) (by omega)];exact Fg.b8 [1,3,55,56,57] (nn [1,1,27,29]) rfl (by cbv)
     ·have aY:v=vl.length:=by rw[←aD,←ah]at hd;simp at hd;omega
      have abA:∀i,(h:i<vl.length)→jc vl[i]:=fun i h=>hk i (by omega) h
      have bP:kv v=lu cl vl:=by
       rw[Jb,aY];simp[lu]
      rw[bP];have Lp:=once (ks:=lu cl vl);have fV:=Ln uD Da abA;obtain⟨T,hT⟩:∃T,T=jN (lu cl vl):=⟨_,rfl⟩;obtain⟨m,hm⟩:∃m,m=M (lu cl vl):=⟨_,rfl⟩
      have hmT:m=ec T:=by rw[hm,hM,hT]
      rw[←hT]at Lp;rw[←hm];refine dp ?_;refine au rfl ?_;refine gK ?_;refine tL ?_;refine yd (Fg.abg (id:=29) rfl (by cbv)) ?_;refine gK ?_
      have hml:m.length=T.length:=by rw[hmT];simp[ec]
      refine Kc (fun(seen:List Nat) σ_=>(σ_.tidy [115] (nn [30,30])).aC 30 (.er (.mp true false 3 m) seen)) (fun seen=>seen.Nodup∧∀i∈seen,i<T.length∧∀h:i<T.length,T[i].2≤1) (fun seen=>T.length-seen.length) [] (Fg.b8 [115] (nn [30,30]) rfl (by cbv)) ⟨List.nodup_nil,fun i h=>by cases h⟩ ?_;rintro seen ⟨bd,B1⟩;refine dC ?_
      cases ED:wg seen m
      ·refine dp ?_;refine Iu ?_;intro i hi;rw[←Ps]at hi;obtain⟨hi1,Nj⟩:i<m.length∧seen.contains i=false:=hi
       have hiT:i<T.length:=by omega
       obtain⟨⟨kk,n⟩,hk⟩:∃x,T[i]=x:=⟨_,rfl⟩
       have DA:Bb false 3 m i=.int .i64 (Int.ofNat n):=by
        rw[←Wi,hmT];simp only[aG,ec,List.getD_eq_getElem?_getD,List.getElem?_map,List.getElem?_eq_getElem hiT,hk,Option.map_some,Option.getD_some,BH,List.drop,jU,List.headD]
       have hni:i∉seen:=by simpa using Nj
       refine gK ?_;rw[DA];refine dp ?_;refine bl.af (fun hg=>?_) (fun hg=>?_)
       ·replace hg:=eT hg
        refine dp ?_;refine dm ?_;refine fa hr (fun h=>?_);have:=Lp.2 (fV.1 h) _ (List.getElem_mem hiT);rw[hk]at this;dsimp only at this;omega
       ·replace hg:=eT hg
        refine dp ?_;refine ai ⟨i::seen,⟨List.nodup_cons.2 ⟨hni,bd⟩,fun j hj=>?_⟩,?_,?_⟩
        ·rcases List.mem_cons.1 hj with rfl|hj
         ·exact⟨hiT,fun _=>by rw[hk];dsimp only;omega⟩
         ·exact B1 j hj
        ·have hlen:=uL (n:=T.length) (List.nodup_cons.2 ⟨hni,bd⟩) fun j hj=>by
          rcases List.mem_cons.1 hj with rfl|hj
          ·exact hiT
          ·exact(B1 j hj).1
         simp only[List.length_cons]at hlen ⊢;omega
        ·exact Fg.b8 [115] (nn [30,30]) rfl (by cbv)
      ·refine dp ?_;refine au rfl ?_;refine gK ?_;refine aN ?_;refine tr hr (fV.2 (Lp.1 fun x hx=>?_));obtain⟨i,hi,rfl⟩:=List.getElem_of_mem hx;rw[←Pt]at ED
       have rq:i∈seen:=by
        have:((List.range m.length).all fun i=>seen.contains i)=true:=ED;rw[List.all_eq_true]at this;simpa using this i (by rw[List.mem_range];omega)
       exact(B1 i rq).2 hi
end Go.bW
end
