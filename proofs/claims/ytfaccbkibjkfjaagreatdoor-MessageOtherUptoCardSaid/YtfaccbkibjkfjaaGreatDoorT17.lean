import Derived.Test.YtfaccbkibjkfjaaGreatDoorT11
import Derived.Test.YtfaccbkibjkfjaaGreatDoorT08
import Derived.Test.YtfaccbkibjkfjaaGreatDoorT12
import Derived.Test.YtfaccbkibjkfjaaGreatDoorT16
import Derived.Test.YtfaccbkibjkfjaaGreatDoorT10
set_option linter.all false
set_option maxRecDepth 100000
set_option maxHeartbeats 1000000
section
open Go Go.Am Go.Proofs
attribute [local irreducible] Am.bp.holds bH fw bP ek
namespace Go.bt
variable {mx:Int}
open Classical
theorem Ho {f:FuncId} {cs:List PV} {rows sp:List (List PV)} {l:List bw} {p:Nat→Bool} {r:Int} (eS:rows=l.map bw.enc) (hl:l.length<2^32) (hf:∀k (h:k<l.length),pC mx f [.agg l[k].enc,.ptr cs] (.bool (p k))) (hr:eW (fun k=>p k=true) l.length r):
  pC mx 194 [.sl rows sp,.gM f [.ptr cs]] (.int .i64 r):=by
 have hlen:rows.length=l.length:=by simp[eS]
 refine pZ Fy ?_
 iterate 122 intro _
 intro aw _ mz aI aQ aJ aP zI aU aV bC bA ag aC;refine gK ?_;refine bQ [0,1,6,7,8] [] (fun v σ_=>σ_.put (some 8) (.pv (.int .i64 (Int.ofNat v)))) (l.length) (fun k=>(p k=false)) ?_;intro v hv hk;refine ej ?_;refine bp.af (fun hd=>?_) (fun hd=>?_)
 ·have aT:v<l.length:=by rw[←aC,←ag]at hd;simp at hd;omega
  obtain⟨gI,bj⟩:∃x,l[v]=x:=⟨_,rfl⟩
  have bG:aJ (Int.ofNat v) rows 9:=by rw[←aP,eS];exact aO (enc:=bw.enc) aT rfl
  obtain⟨⟨iN,fO,eZ,Ut,eG,eA,gi,jl,dI⟩,bW⟩:∃y,gI=y:=⟨_,rfl⟩;subst bW
  have aW:aI rows (Int.ofNat v)=[.int .i64 iN,.str fO,.int .u8 eZ,.bool Ut,.int .i64 eG,.int .i64 eA,.int .i64 gi,.int .u8 jl,.bool dI]:=by rw[←aQ,eS,aN (enc:=bw.enc) aT,bj];rfl
  have hc:=hf v aT;rw[bj]at hc;refine aY ?_;refine ae bG ?_;rw[aW];refine gK ?_;refine cU (by cbv) hc (fun h=>?_) (fun h=>?_)
  ·refine gK ?_;refine dS ?_;rw[hr.at aT h (fun k eR h'=>by rw[hk k eR]at h';cases h')]
  ·refine gK ?_;refine ta ⟨aT,h,?_⟩;rw[wS mz aw (v:=v) (by omega)]
   cbv
 ·have aT:v=l.length:=by rw[←aC,←ag]at hd;simp at hd;omega
  refine aY ?_;refine wW rfl ?_;refine gK ?_;refine aX ?_;rw[hr.none (fun k eR h'=>by rw[hk k (by omega)]at h';cases h')]
theorem rZ {x:bw} {cs:List PV} (hcs:cs=x.enc) {id:Int} {r:Bool} (hr:r=decide (x.id=id)):pC mx 269 [.agg cs,.ptr [.int .i64 id]] (.bool r):=by
 subst hcs;obtain⟨xid,num,size,high,cD,load,oz,cls,cK⟩:=x;show pC mx 269 [.agg [.int .i64 xid,.str num,.int .u8 size,.bool high,.int .i64 cD,.int .i64 load,.int .i64 oz,.int .u8 cls,.bool cK],.ptr [.int .i64 id]] (.bool r);refine pZ Fz ?_
 iterate 129 intro _
 intro zI aU aV bC bA ag aC;refine gK ?_
 repeat' (first|refine gH ?_|(refine iE (fun hc=>?_) (fun hc=>?_)<;>(try simp at hc)<;>(try(exfalso;omega))))
 all_goals(refine aX ?_)
 all_goals first|exact tr hr (by assumption)|exact fa hr (by assumption)
theorem uO {rows sp:List (List PV)} {l:List bw} {id:Int} {cs:List PV} {ok:Bool} (eS:rows=l.map bw.enc) (hl:l.length<2^32) (hcs:cs=(dM l id).1.enc) (eL:ok=(dM l id).2):pC mx 189 [.sl rows sp,.int .i64 id] (.eN [.agg cs,.bool ok]):=by
 have hlen:rows.length=l.length:=by simp[eS]
 obtain⟨r,hr⟩:=eW.ex (fun k=>(if h:k<l.length then decide (l[k].id=id)else false)=true) l.length;have px:=Ho (mx:=mx) (sp:=sp) (f:=269) (cs:=[.int .i64 id]) (p:=fun k=>if h:k<l.length then decide (l[k].id=id)else false) eS hl (fun k h=>by simp only[h,qcu];exact rZ rfl rfl) hr;refine pZ FA ?_
 iterate 125 intro _
 intro aI aQ aJ aP zI aU aV bC bA ag aC;refine gK ?_
 rcases hr with⟨h1,rfl⟩|⟨v,aT,h2,h3,rfl⟩
 ·refine ao (by cbv) px (fun h=>by first|rfl|cases h) ?_;refine gK ?_;refine MP ?_;refine aY ?_;refine aX ?_;have hf:=wu (l:=l) (id:=id) (fun k h h'=>by have:=h1 k h;simpa[h]using this);simp only[dM,hf]at hcs eL;subst hcs eL;rfl
 ·refine ao (by cbv) px (fun h=>by first|rfl|cases h) ?_
  have hid:l[v].id=id:=by simpa[aT]using h2
  have hf:=Cd aT (fun k hk h=>by have:=h3 k hk;simpa[h]using this) hid;obtain⟨gI,bj⟩:∃x,l[v]=x:=⟨_,rfl⟩
  have bG:aJ (Int.ofNat v) rows 9:=by rw[←aP,eS];exact aO (enc:=bw.enc) aT rfl
  obtain⟨⟨iN,fO,eZ,Ut,eG,eA,gi,jl,dI⟩,bW⟩:∃y,gI=y:=⟨_,rfl⟩;subst bW
  have aW:aI rows (Int.ofNat v)=[.int .i64 iN,.str fO,.int .u8 eZ,.bool Ut,.int .i64 eG,.int .i64 eA,.int .i64 gi,.int .u8 jl,.bool dI]:=by rw[←aQ,eS,aN (enc:=bw.enc) aT,bj];rfl
  refine gK ?_;refine Pk ?_;refine aY ?_;refine ae bG ?_;rw[aW];refine gK ?_;refine aX ?_;simp only[dM,hf,bj]at hcs eL;subst hcs eL;rfl
theorem O7 {x:bw} {cs:List PV} (hcs:cs=x.enc) {r:Int} (hr:r=DM x):pC mx 308 [.agg cs] (.int .i64 r):=by
 subst hcs;obtain⟨xid,num,size,high,cD,load,oz,cls,cK⟩:=x;show pC mx 308 [.agg [.int .i64 xid,.str num,.int .u8 size,.bool high,.int .i64 cD,.int .i64 load,.int .i64 oz,.int .u8 cls,.bool cK]] (.int .i64 r)
 cases high
 all_goals
  refine pZ FL ?_
  iterate 129 intro _
  intro zI aU aV bC bA ag aC;refine gK ?_;refine aX ?_;subst hr;rfl
theorem yN {rows sp brows bsp:List (List PV)} {l:List aH} {boxes:List bw} {rk half n:Int} (eS:rows=l.map aH.enc) (jb:brows=boxes.map bw.enc) (hl:l.length<2^32) (lO:boxes.length<2^32) (hn:n=dk boxes l rk half):
  pC mx 275 [.sl brows bsp,.sl rows sp,.int .i64 rk,.int .u8 half] (.int .i64 n):=by
 have hlen:rows.length=l.length:=by simp[eS]
 refine pZ FN ?_
 iterate 121 intro _
 intro df aw bu mz aI aQ aJ aP zI aU aV bC bA ag aC;refine gK ?_;refine bQ [0,2,3,9,14,15,16] [] (fun v σ_=>σ_.put (some 9) (.pv (.int .i64 (iJ boxes l rk half v)))|>.put (some 16) (.pv (.int .i64 (Int.ofNat v)))) (l.length) (fun k=>True) ?_;intro v hv hk
 try dsimp only
 generalize hm:iJ boxes l rk half v=m;refine ej ?_;have yi:=pr (boxes:=boxes) (l:=l) (c:=rk) (h:=half) (n:=v);rw[hm]at yi;refine bp.af (fun hd=>?_) (fun hd=>?_)
 ·have aT:v<l.length:=by rw[←aC,←ag]at hd;simp at hd;omega
  obtain⟨gI,bj⟩:∃x,l[v]=x:=⟨_,rfl⟩
  have bG:aJ (Int.ofNat v) rows 4:=by rw[←aP,eS];exact aO (enc:=aH.enc) aT rfl
  obtain⟨⟨eH,⟨dO,du,fH⟩⟩,bW⟩:∃y,gI=y:=⟨_,rfl⟩;subst bW
  have aW:aI rows (Int.ofNat v)=[.int .i64 eH,.int .i64 dO,.int .i64 du,.int .u8 fH]:=by rw[←aQ,eS,aN (enc:=aH.enc) aT,bj];rfl
  have Cf:(dO=rk∧(fH=half∨fH=0))→iJ boxes l rk half (v+1)=m+(match ku boxes eH with|some b=>DM b|none=>0):=fun h=>by
   simp only[iJ,qag aT,bj,hm];rw[qao h]
   cases ku boxes eH<;>rfl
  have ze:¬(dO=rk∧(fH=half∨fH=0))→iJ boxes l rk half (v+1)=m:=fun h=>by
   simp only[iJ,qag aT,bj,hm];rw[qai h];omega
  obtain⟨z,hz⟩:∃z,iJ boxes l rk half (v+1)=z:=⟨_,rfl⟩;rw[hz]at Cf ze;refine aY ?_;refine ae bG ?_;rw[aW];refine gK ?_
  repeat' (first|refine gH ?_|(refine iE (fun hc=>?_) (fun hc=>?_)<;>(try simp at hc)<;>(try(exfalso;omega))))
  all_goals first
   |(refine ta ⟨aT,trivial,?_⟩
     rw[hz,ze (by omega)];rw[wS mz aw (v:=v) (by omega)]
     cbv)
   |skip
  all_goals
   cases hf:ku boxes eH with
   |none=>
    refine ao (by cbv) (uO (id:=eH) (ok:=false) (cs:=[.int .i64 0,.str [],.int .u8 0,.bool false,.int .i64 0,.int .i64 0,.int .i64 0,.int .u8 0,.bool false]) jb lO (by simp only[dM,hf];rfl) (by simp only[dM,hf])) (fun h=>by first|rfl|cases h) ?_;refine gK ?_;refine ta ⟨aT,trivial,?_⟩;rw[hz,show z=m by rw[Cf (by omega),hf];simp];rw[wS mz aw (v:=v) (by omega)]
    cbv
   |some b=>
    obtain⟨Ou,zZ,bsize,qB,nR,sq,agT,z7,kW⟩:=b;obtain⟨t,ht⟩:∃t,t=DM ⟨Ou,zZ,bsize,qB,nR,sq,agT,z7,kW⟩:=⟨_,rfl⟩
    have ht':t=2591∨t=2896:=by rw[ht];unfold DM;split<;>simp
    refine ao (by cbv) (uO (id:=eH) (ok:=true) (cs:=[.int .i64 Ou,.str zZ,.int .u8 bsize,.bool qB,.int .i64 nR,.int .i64 sq,.int .i64 agT,.int .u8 z7,.bool kW]) jb lO (by simp only[dM,hf];rfl) (by simp only[dM,hf])) (fun h=>by first|rfl|cases h) ?_;refine gK ?_;refine ao (by cbv) (O7 (x:=⟨Ou,zZ,bsize,qB,nR,sq,agT,z7,kW⟩) rfl ht) (fun h=>by first|rfl|cases h) ?_;refine gK ?_;refine ta ⟨aT,trivial,?_⟩
    have hz':z=m+t:=by rw[Cf (by omega),hf,ht]
    rw[hz,show bu .i64 (df m t)=z by rw[←mz,←aw,hz'];simp only[n9,kT];rw[dy]<;>omega];rw[wS mz aw (v:=v) (by omega)]
    cbv
 ·have aT:v=l.length:=by rw[←aC,←ag]at hd;simp at hd;omega
  refine aY ?_;refine wW rfl ?_;refine gK ?_;refine aX ?_;rw[hn,←hm,aT];rfl
theorem O8 {c csp vv vsp r rsp f fsp t tsp:List (List PV)} {l1 l2 l3 l4 m1 m2 m3 m4:Int} {rows sp brows bsp:List (List PV)} {cl:List aL} {l:List aH} {boxes:List bw} {n:Nat} {res:Bool} (jI:c=cl.map aL.enc) (eS:rows=l.map aH.enc) (jb:brows=boxes.map bw.enc) (uy:cl.length<2^32) (hl:l.length<2^32) (lO:boxes.length<2^32) (hn:n<cl.length)
  (hr:res=decide (Fits cl[n] boxes l (Int.ofNat n))):pC mx 193 [.agg [.sl c csp,.sl vv vsp,.int .i64 l1,.int .i64 l2,.int .i64 l3,.int .i64 l4,.sl r rsp,.sl f fsp,.sl t tsp,.int .i64 m1,.int .i64 m2,.int .i64 m3,.int .i64 m4],.sl brows bsp,.sl rows sp,.int .i64 (Int.ofNat n)] (.bool res):=by
 have hlen:c.length=cl.length:=by simp[jI]
 refine pZ FO ?_
 iterate 125 intro _
 intro aI aQ aJ aP zI aU aV bC bA ag aC;obtain⟨gI,bj⟩:∃x,cl[n]=x:=⟨_,rfl⟩
 have bG:aJ (Int.ofNat n) c 12:=by rw[←aP,jI];exact aO (enc:=aL.enc) hn rfl
 obtain⟨⟨dU,jE,gJ,eI,eB,kx,ky,ia,dw,kz,pn,po,pq⟩,bW⟩:∃y,gI=y:=⟨_,rfl⟩;subst bW
 have aW:aI c (Int.ofNat n)=[.int .i64 dU,.int .i64 jE,.bool gJ,.int .i64 eI,.int .i64 eB,.int .i64 kx,.int .i64 ky,.int .i64 ia,.sl (ints dw) kz,.int .i64 pn,.int .i64 po,.int .i64 pq]:=by rw[←aQ,jI,aN (enc:=aL.enc) hn,bj];rfl
 obtain⟨wV,gL⟩:∃p,p=ints dw:=⟨_,rfl⟩;rw[←gL]at aW;rw[bj]at hr;unfold Fits at hr;dsimp only at hr;refine gK ?_;refine ae bG ?_;rw[aW];refine gK ?_;refine bp.af (fun h1=>?_) (fun h1=>?_)
 ·replace h1:=eE h1
  refine aY ?_;refine aX ?_;exact tr hr (by omega)
 ·replace h1:=eE h1
  refine aY ?_;refine vR (by cbv) (yN eS jb hl lO rfl) (fun _=>rfl) ?_;intro x hx;refine gK ?_;refine bp.af (fun h2=>?_) (fun h2=>?_)
  ·replace h2:=eE h2
   refine aY ?_;refine vR (by cbv) (yN eS jb hl lO rfl) (fun _=>rfl) ?_;intro y hy;refine gK ?_
   repeat' (first|refine gH ?_|(refine iE (fun hc=>?_) (fun hc=>?_)<;>(try simp at hc)<;>(try(exfalso;omega))))
   all_goals(refine aX ?_)
   ·exact tr hr (by omega)
   ·exact fa hr (by omega)
  ·replace h2:=eE h2
   refine aY ?_;refine aX ?_;exact fa hr (by omega)
def Xc (l:List Int):List (List PV):=l.map fun n=>[.int .u8 n]
theorem Hp {size:Int} {H:List Int} {R:List (List PV)} (hH:H=if size=40 then [0]else if size=20 then [1,2]else []) (hR:R=Xc H):pC mx 271 [.int .u8 size] (.sl R []):=by
 refine pZ FB ?_
 iterate 129 intro _
 intro zI aU aV bC bA ag aC;refine gK ?_
 repeat' (first|refine gH ?_|(refine iE (fun hc=>?_) (fun hc=>?_)<;>(try simp at hc)<;>(try(exfalso;omega))))
 all_goals(refine aX ?_)
 all_goals(subst hR hH;(repeat' split)<;>first|rfl|(exfalso;omega)|contradiction)
theorem O9 {rows sp:List (List PV)} {l:List Int} {n r:Int} (eS:rows=Xc l) (hl:l.length<2^32) (hr:eW (fun k=>l.getD k 0=n) l.length r):pC mx 306 [.sl rows sp,.int .u8 n] (.int .i64 r):=by
 have hlen:rows.length=l.length:=by simp[eS,Xc]
 refine pZ FC ?_
 iterate 122 intro _
 intro aw _ mz aI aQ aJ aP zI aU aV bC bA ag aC;refine gK ?_;refine bQ [0,1,6,7,8] [] (fun v σ_=>σ_.put (some 8) (.pv (.int .i64 (Int.ofNat v)))) (l.length) (fun k=>(l.getD k 0≠n)) ?_;intro v hv hk;refine ej ?_;refine bp.af (fun hd=>?_) (fun hd=>?_)
 ·have aT:v<l.length:=by rw[←aC,←ag]at hd;simp at hd;omega
  obtain⟨q,hq⟩:∃q,q=l.getD v 0:=⟨_,rfl⟩
  have ec:aJ (Int.ofNat v) rows 1:=by rw[←aP,eS];exact aO (enc:=fun n=>[PV.int .u8 n]) aT rfl
  have bK:aI rows (Int.ofNat v)=[.int .u8 q]:=by rw[←aQ,eS,Xc,aN (enc:=fun n=>[PV.int .u8 n]) aT,hq];simp[qab,aT]
  refine aY ?_;refine ae ec ?_;rw[bK];refine gK ?_;refine bp.af (fun he=>?_) (fun he=>?_)
  ·replace he:=eE he
   refine aY ?_;refine dS ?_;rw[hr.at aT (by rw[←hq];exact he.symm) hk]
  ·replace he:=eE he
   refine aY ?_;refine ta ⟨aT,by rw[←hq];omega,?_⟩;rw[wS mz aw (v:=v) (by omega)]
   cbv
 ·have aT:v=l.length:=by rw[←aC,←ag]at hd;simp at hd;omega
  refine aY ?_;refine wW rfl ?_;refine gK ?_;refine aX ?_;rw[hr.none (fun k eR=>hk k (by omega))]
theorem Pa {rows sp:List (List PV)} {l:List Int} {n:Int} {r:Bool} (eS:rows=Xc l) (hl:l.length<2^32) (hr:r=decide (n∈l)):pC mx 270 [.sl rows sp,.int .u8 n] (.bool r):=by
 obtain⟨x,hx⟩:=eW.ex (fun k=>l.getD k 0=n) l.length
 have jr:0≤x↔n∈l:=by
  rw[hx.iff];constructor
  ·rintro⟨v,h1,h2⟩;rw[←h2,getD_eq h1];exact qaf h1
  ·intro h;obtain⟨v,h1,h2⟩:=qaI h;exact⟨v,h1,by rw[getD_eq h1,h2]⟩
 refine pZ FD ?_
 iterate 129 intro _
 intro zI aU aV bC bA ag aC;refine gK ?_;refine ao (by cbv) (O9 eS hl hx) (fun h=>by first|rfl|cases h) ?_;refine gK ?_
 repeat' (first|refine gH ?_|(refine iE (fun hc=>?_) (fun hc=>?_)<;>(try simp at hc)<;>(try(exfalso;omega))))
 all_goals(refine aX ?_)
 all_goals first|exact tr hr (jr.1 (by omega))|exact fa hr (fun h=>by have:=jr.2 h;omega)
theorem Gf {c csp vv vsp r rsp f fsp t tsp:List (List PV)} {l1 l2 l3 l4 m1 m2 m3 m4:Int} {cl:List aL} {x:Slot} {size:Int} {res:Bool} (jI:c=cl.map aL.enc) (hl:cl.length<2^32) (hr:res=decide (fy cl x size)):pC mx 190 [.agg [.sl c csp,.sl vv vsp,.int .i64 l1,.int .i64 l2,.int .i64 l3,.int .i64 l4,.sl r rsp,.sl f fsp,.sl t tsp,.int .i64 m1,.int .i64 m2,.int .i64 m3,.int .i64 m4],.agg [.int .i64 x.column,.int .i64 x.tier,.int .u8 x.half],.int .u8 size] (.bool res):=by
 have hlen:c.length=cl.length:=by simp[jI]
 obtain⟨xc,xt,xh⟩:=x;dsimp only
 have bad:(0≤xc∧xc<cl.length∧0≤xt→False)→¬fy cl ⟨xc,xt,xh⟩ size:=fun h h'=>h ⟨h'.1.1,h'.1.2.1,h'.1.2.2.1⟩
 obtain⟨H,hH⟩:∃H,H=if size=40 then [0]else if size=20 then [(1:Int),2]else []:=⟨_,rfl⟩
 obtain⟨R,hR⟩:∃R,R=Xc H:=⟨_,rfl⟩
 have hHl:H.length<2^32:=by subst hH;(repeat' split)<;>simp
 have mV:xh∈H↔((size=40∧xh=0)∨(size=20∧(xh=1∨xh=2))):=by
  subst hH
  (repeat' split)<;>simp<;>omega
 refine pZ FE ?_
 iterate 125 intro _
 intro aI aQ aJ aP zI aU aV bC bA ag aC;refine gK ?_
 repeat' (first|refine gH ?_|(refine iE (fun hc=>?_) (fun hc=>?_)<;>(try simp at hc)<;>(try(exfalso;omega))))
 all_goals try(refine aX ?_;exact fa hr (bad (by omega)))
 ·obtain⟨n,hn⟩:∃n:Nat,xc=Int.ofNat n:=⟨xc.toNat,by simp;omega⟩
  have uF:n<cl.length:=by subst hn;simp at*;omega
  subst hn;obtain⟨gI,bj⟩:∃x,cl[n]=x:=⟨_,rfl⟩
  have bG:aJ (Int.ofNat n) c 12:=by rw[←aP,jI];exact aO (enc:=aL.enc) uF rfl
  obtain⟨⟨dU,jE,gJ,eI,eB,kx,ky,ia,dw,kz,pn,po,pq⟩,bW⟩:∃y,gI=y:=⟨_,rfl⟩;subst bW
  have aW:aI c (Int.ofNat n)=[.int .i64 dU,.int .i64 jE,.bool gJ,.int .i64 eI,.int .i64 eB,.int .i64 kx,.int .i64 ky,.int .i64 ia,.sl (ints dw) kz,.int .i64 pn,.int .i64 po,.int .i64 pq]:=by rw[←aQ,jI,aN (enc:=aL.enc) uF,bj];rfl
  obtain⟨wV,gL⟩:∃p,p=ints dw:=⟨_,rfl⟩;rw[←gL]at aW
  have key:fy cl ⟨Int.ofNat n,xt,xh⟩ size↔xt<eI∧xh∈H:=by
   rw[mV];constructor
   ·rintro⟨⟨-,-,-,h⟩,h2⟩;have:=h uF;simp only[qcb,qbG]at this;rw[bj]at this;exact⟨this,h2⟩
   ·rintro⟨h1,h2⟩;exact⟨⟨by simp,by simpa using uF,by assumption,fun h=>by simp only[qcb,qbG];rw[bj];exact h1⟩,h2⟩
  rw[key]at hr;refine ae bG ?_;rw[aW];refine gK ?_;refine bp.af (fun h1=>?_) (fun h1=>?_)
  ·replace h1:=eE h1
   refine aY ?_;refine bF (by cbv) (Hp hH hR) (fun h=>by first|rfl|cases h) ?_;refine gK ?_;refine gG (by cbv) (Pa hR hHl rfl) (fun h=>?_) (fun h=>?_)<;>simp only[qae,qad]at h
   ·refine gK ?_;refine aX ?_;exact tr hr ⟨h1,h⟩
   ·refine gK ?_;refine aX ?_;exact fa hr (fun h'=>h h'.2)
  ·replace h1:=eE h1
   refine aY ?_;refine aX ?_;exact fa hr (fun h'=>by omega)
theorem Ej {rows sp:List (List PV)} {l:List Slot} {x:Slot} {r:Int} (eS:rows=l.map Slot.enc) (hl:l.length<2^32) (hr:eW (fun k=>∃h:k<l.length,l[k]=x) l.length r):pC mx 307 [.sl rows sp,.agg [.int .i64 x.column,.int .i64 x.tier,.int .u8 x.half]] (.int .i64 r):=by
 have hlen:rows.length=l.length:=by simp[eS]
 obtain⟨xc,xt,xh⟩:=x;dsimp only;refine pZ FF ?_
 iterate 86 intro _
 intro Kl Sv
 iterate 34 intro _
 intro aw _ mz aI aQ aJ aP zI aU aV bC bA ag aC;refine gK ?_;refine bQ [0,3,6,7,8] (nn [3,3]) (fun v σ_=>σ_.put (some 8) (.pv (.int .i64 (Int.ofNat v)))) (l.length) (fun k=>(∀h:k<l.length,l[k]≠⟨xc,xt,xh⟩)) ?_;intro v hv hk;refine ej ?_;refine bp.af (fun hd=>?_) (fun hd=>?_)
 ·have aT:v<l.length:=by rw[←aC,←ag]at hd;simp at hd;omega
  obtain⟨gI,bj⟩:∃x,l[v]=x:=⟨_,rfl⟩
  have bG:aJ (Int.ofNat v) rows 3:=by rw[←aP,eS];exact aO (enc:=Slot.enc) aT rfl
  obtain⟨⟨dO,du,fH⟩,bW⟩:∃y,gI=y:=⟨_,rfl⟩;subst bW
  have aW:aI rows (Int.ofNat v)=[.int .i64 dO,.int .i64 du,.int .u8 fH]:=by rw[←aQ,eS,aN (enc:=Slot.enc) aT,bj];rfl
  refine aY ?_;refine ae bG ?_;rw[aW];refine gK ?_;refine bp.af (fun he=>?_) (fun he=>?_)
  ·rw[←Sv]at he;simp[JK]at he;refine aY ?_;refine ae (by rw[←Kl];simp[aR]) ?_;refine gK ?_;refine dS ?_;rw[hr.at aT ⟨aT,by rw[bj,he.1,he.2.1,he.2.2]⟩ (fun k eR h'=>hk k eR h'.1 h'.2)]
  ·rw[←Sv]at he;simp[JK]at he;refine aY ?_;refine ae (by rw[←Kl];simp[aR]) ?_;refine gK ?_
   have MB:l[v]≠⟨xc,xt,xh⟩:=fun h=>by
    rw[bj]at h
    injection h with h1 h2 h3
    exact he h1.symm h2.symm h3.symm
   refine ta ⟨aT,fun _=>MB,?_⟩;rw[wS mz aw (v:=v) (by omega)]
   cbv
 ·have aT:v=l.length:=by rw[←aC,←ag]at hd;simp at hd;omega
  refine aY ?_;refine wW rfl ?_;refine gK ?_;refine aX ?_;rw[hr.none (fun k eR h'=>hk k (by omega) h'.1 h'.2)]
theorem Ek {rows sp:List (List PV)} {l:List Slot} {x:Slot} {r:Bool} (eS:rows=l.map Slot.enc) (hl:l.length<2^32) (hr:r=decide (x∈l)):pC mx 273 [.sl rows sp,.agg [.int .i64 x.column,.int .i64 x.tier,.int .u8 x.half]] (.bool r):=by
 obtain⟨n,hn⟩:=eW.ex (fun k=>∃h:k<l.length,l[k]=x) l.length
 have jr:0≤n↔x∈l:=by
  rw[hn.iff];constructor
  ·rintro⟨v,h1,h2,h3⟩;rw[←h3];exact qaf h2
  ·intro h;obtain⟨v,h1,h2⟩:=qaI h;exact⟨v,h1,h1,h2⟩
 obtain⟨xc,xt,xh⟩:=x;dsimp only;refine pZ FG ?_
 iterate 129 intro _
 intro zI aU aV bC bA ag aC;refine gK ?_;refine ao (by cbv) (Ej (x:=⟨xc,xt,xh⟩) eS hl hn) (fun h=>by first|rfl|cases h) ?_;refine gK ?_
 repeat' (first|refine gH ?_|(refine iE (fun hc=>?_) (fun hc=>?_)<;>(try simp at hc)<;>(try(exfalso;omega))))
 all_goals(refine aX ?_)
 all_goals first|exact tr hr (jr.1 (by omega))|exact fa hr (fun h=>by have:=jr.2 h;omega)
theorem wE {rows sp:List (List PV)} {l:List Slot} {x:Slot} {half:Int} {r:Bool} (eS:rows=l.map Slot.enc) (hl:l.length<2^32) (ht:0<x.tier∧x.tier<2^63) (hr:r=decide (Has l x half)):pC mx 272 [.int .u8 half,.ptr [.sl rows sp],.ptr [.int .i64 x.column,.int .i64 x.tier,.int .u8 x.half]] (.bool r):=by
 obtain⟨xc,xt,xh⟩:=x;dsimp only at ht ⊢
 have jr:(⟨xc,xt-1,half⟩:Slot)∈l↔Has l ⟨xc,xt,xh⟩ half:=by
  unfold Has;constructor
  ·intro h;obtain⟨v,h1,h2⟩:=qaI h;exact⟨v,h1,by rw[h2],by rw[h2],by rw[h2]⟩
  ·rintro⟨v,h1,h2,h3,h4⟩;dsimp only at h2 h3
   have:l[v]=⟨xc,xt-1,half⟩:=by
    rw[←h2,←h3,←h4]
   rw[←this];exact qaf h1
 obtain⟨t,Iw⟩:∃t,t=xt-1:=⟨_,rfl⟩;rw[←Iw]at jr
 have ni:r=decide ((⟨xc,t,half⟩:Slot)∈l):=by rw[hr];exact qco.2 jr.symm
 refine pZ FH ?_
 iterate 119 intro _
 intro cP cY _ _ bu mz _ _ _ _ zI aU aV bC bA ag aC
 have fu:bu .i64 (cP xt 1)=t:=by rw[←mz,←cY];simp only[n9,iQ];rw[dy]<;>omega
 refine gK ?_;rw[fu];refine ao (by cbv) (Ek (x:=⟨xc,t,half⟩) eS hl ni) (fun h=>by first|rfl|cases h) ?_;refine gK ?_;refine aX ?_;rfl
theorem Gg {rows sp:List (List PV)} {l:List Slot} {x:Slot} {res:Bool} (eS:rows=l.map Slot.enc) (hl:l.length<2^32) (ht:x.tier<2^63) (hr:res=decide (Va x l)):pC mx 191 [.agg [.int .i64 x.column,.int .i64 x.tier,.int .u8 x.half],.sl rows sp] (.bool res):=by
 obtain⟨xc,xt,xh⟩:=x;dsimp only at ht ⊢;refine pZ FI ?_
 iterate 129 intro _
 intro zI aU aV bC bA ag aC;refine gK ?_;refine bp.af (fun h1=>?_) (fun h1=>?_)
 ·replace h1:=eE h1
  refine aY ?_;refine aX ?_;exact tr hr (Or.inl h1)
 ·replace h1:=eE h1
  refine aY ?_;refine cU (by cbv) (wE (x:=⟨xc,xt,xh⟩) eS hl ⟨h1,ht⟩ rfl) (fun h=>?_) (fun h=>?_)<;>simp only[qae,qad]at h
  ·refine gK ?_;refine aX ?_;exact tr hr (Or.inr (Or.inl h))
  ·refine gK ?_;refine bp.af (fun h2=>?_) (fun h2=>?_)
   ·replace h2:=eE h2
    refine aY ?_;refine cU (by cbv) (wE (x:=⟨xc,xt,xh⟩) eS hl ⟨h1,ht⟩ rfl) (fun h'=>?_) (fun h'=>?_)<;>simp only[qae,qad]at h'
    ·refine gK ?_;refine cU (by cbv) (wE (x:=⟨xc,xt,xh⟩) eS hl ⟨h1,ht⟩ rfl) (fun tO=>?_) (fun tO=>?_)<;>simp only[qae,qad]at tO
     ·refine gK ?_;refine aX ?_;exact tr hr (Or.inr (Or.inr ⟨h2,h',tO⟩))
     ·refine gK ?_;refine aX ?_;refine fa hr ?_;rintro(h3|h3|h3)
      ·dsimp only at h3;omega
      ·exact h h3
      ·exact tO h3.2.2
    ·refine gK ?_;refine aX ?_;refine fa hr ?_;rintro(h3|h3|h3)
     ·dsimp only at h3;omega
     ·exact h h3
     ·exact h' h3.2.1
   ·replace h2:=eE h2
    refine aY ?_;refine aX ?_;refine fa hr ?_;rintro(h3|h3|h3)
    ·dsimp only at h3;omega
    ·exact h h3
    ·exact h2 h3.1
theorem zV.symm {a b:Slot} (h:zV a b):zV b a:=by
 obtain⟨h1,h2,h3⟩:=h;exact⟨h1.symm,h2.symm,by unfold pj at*;omega⟩
theorem Pb {c csp vv vsp r rsp f fsp t tsp:List (List PV)} {l1 l2 l3 l4 m1 m2 m3 m4:Int} {rows sp brows bsp:List (List PV)} {cl:List aL} {vl:List bz} {l:List aH} {boxes:List bw} {res:Bool} (kN:∀{q:Bool},q=decide (fo cl vl)→pC mx 141 [.agg [.sl c csp,.sl vv vsp,.int .i64 l1,.int .i64 l2,.int .i64 l3,.int .i64 l4,.sl r rsp,.sl f fsp,.sl t tsp,.int .i64 m1,.int .i64 m2,.int .i64 m3,.int .i64 m4]] (.bool q)) (jI:c=cl.map aL.enc) (wU:cl.length<2^32)
  (eS:rows=l.map aH.enc) (jb:brows=boxes.map bw.enc) (hl:l.length<2^32) (lO:boxes.length<2^32) (vf:∀b∈boxes,og b) (bO:∀x∈l,kL x) (hr:res=decide (gC cl vl boxes l)):
  pC mx 93 [.agg [.sl c csp,.sl vv vsp,.int .i64 l1,.int .i64 l2,.int .i64 l3,.int .i64 l4,.sl r rsp,.sl f fsp,.sl t tsp,.int .i64 m1,.int .i64 m2,.int .i64 m3,.int .i64 m4],.sl brows bsp,.sl rows sp] (.bool res):=by
 have hlen:c.length=cl.length:=by simp[jI]
 have Gd:rows.length=l.length:=by simp[eS]
 obtain⟨S,hS⟩:∃S,S=(l.map (·.slot)).map Slot.enc:=⟨_,rfl⟩
 have hSl:S.length=l.length:=by simp[hS]
 refine pZ Ju ?_
 iterate 94 intro _
 intro kK
 iterate 13 intro _
 intro eo _ _ _ _ _ uP _ _ _ _ cP cY _ aw bu mz aI aQ aJ aP zI aU aV bC bA ag aC;refine gK ?_;refine cU (by cbv) (kN rfl) (fun h=>?_) (fun h=>?_)<;>simp only[qae,qad]at h
 ·have Pl:=h;refine gK ?_;refine ao (by cbv) (J0 eS hS hl) (fun h=>by first|rfl|cases h) ?_;refine gK ?_;refine bQ [1,2,3,7,20,21,22] (nn [3,3]) (fun v σ_=>σ_.put (some 22) (.pv (.int .i64 (Int.ofNat v)))) (l.length) (fun k=>pk cl boxes l k) ?_;intro v hv hk;refine ej ?_;refine bp.af (fun hd=>?_) (fun hd=>?_)
  ·have aT:v<l.length:=by rw[←aC,←ag]at hd;simp at hd;omega
   have bad:¬pk cl boxes l v→¬gC cl vl boxes l:=fun h h'=>h (h'.2.1 v aT)
   have xR:=bO _ (qaf aT);obtain⟨gI,bj⟩:∃x,l[v]=x:=⟨_,rfl⟩
   have bG:aJ (Int.ofNat v) rows 4:=by rw[←aP,eS];exact aO (enc:=aH.enc) aT rfl
   obtain⟨⟨eH,⟨dO,du,fH⟩⟩,bW⟩:∃y,gI=y:=⟨_,rfl⟩;subst bW
   have aW:aI rows (Int.ofNat v)=[.int .i64 eH,.int .i64 dO,.int .i64 du,.int .u8 fH]:=by rw[←aQ,eS,aN (enc:=aH.enc) aT,bj];rfl
   rw[bj]at xR;refine aY ?_;refine ae bG ?_;rw[aW];refine gK ?_
   cases hf:ku boxes eH with
   |none=>
    refine ao (by cbv) (uO (id:=eH) (ok:=false) (cs:=[.int .i64 0,.str [],.int .u8 0,.bool false,.int .i64 0,.int .i64 0,.int .i64 0,.int .u8 0,.bool false]) jb lO (by simp only[dM,hf];rfl) (by simp only[dM,hf])) (fun h=>by first|rfl|cases h) ?_;refine gK ?_;refine dS ?_;refine fa hr (bad ?_);intro h;obtain⟨⟨b,hb,-⟩,-⟩:=h aT;rw[bj]at hb;dsimp only at hb;rw[hf]at hb
    cases hb
   |some b=>
    have hbm:og b:=vf b (by unfold ku at hf;exact qbV hf);obtain⟨Ou,zZ,bsize,qB,nR,sq,agT,z7,kW⟩:=b;refine ao (by cbv) (uO (id:=eH) (ok:=true) (cs:=[.int .i64 Ou,.str zZ,.int .u8 bsize,.bool qB,.int .i64 nR,.int .i64 sq,.int .i64 agT,.int .u8 z7,.bool kW]) jb lO (by simp only[dM,hf];rfl) (by simp only[dM,hf])) (fun h=>by first|rfl|cases h) ?_;refine gK ?_;refine bp.af (fun h1=>?_) (fun h1=>?_)
    ·replace h1:=eE h1
     obtain⟨w,hw⟩:∃w,v=w+1:=⟨v-1,by omega⟩
     have xG:w<l.length:=by omega
     obtain⟨Ac,fv⟩:∃x,l[w]=x:=⟨_,rfl⟩
     have gw:aJ (Int.ofNat w) rows 4:=by rw[←aP,eS];exact aO (enc:=aH.enc) xG rfl
     obtain⟨⟨Kk,⟨Ge,Ah,Ai⟩⟩,jF⟩:∃y,Ac=y:=⟨_,rfl⟩;subst jF
     have dV:aI rows (Int.ofNat w)=[.int .i64 Kk,.int .i64 Ge,.int .i64 Ah,.int .u8 Ai]:=by rw[←aQ,eS,aN (enc:=aH.enc) xG,fv];rfl
     have fu:bu .i64 (cP (Int.ofNat v) 1)=Int.ofNat w:=by rw[←mz,←cY];simp only[n9,iQ];rw[dy]<;>simp<;>omega
     refine aY ?_;rw[fu];refine ae gw ?_;rw[dV];refine gK ?_;refine bp.af (fun h2=>?_) (fun h2=>?_)
     ·replace h2:=eE h2
      refine aY ?_;refine dS ?_;refine fa hr (bad ?_);intro h';have:=((h' aT).2.2 w (by omega)).1;rw[bj,fv]at this;dsimp only at this;omega
     ·replace h2:=eE h2
      have VH:∀k,(eR:k<v)→l[k].box<eH:=by
       intro k eR
       by_cases e:k=w
       ·subst e;rw[fv];exact h2
       ·have:=((hk w (by omega) xG).2.2 k (by omega)).1;rw[fv]at this;dsimp only at this;omega
      refine aY ?_;refine gG (by cbv) (Gf (x:=⟨dO,du,fH⟩) jI wU rfl) (fun h=>?_) (fun h=>?_)<;>simp only[qae,qad]at h
      ·have oa:=h;refine gK ?_;refine gG (by cbv) (Gg (x:=⟨dO,du,fH⟩) hS (by simpa using hl) (by have:=xR.2.2.1.2;dsimp only at this ⊢;omega) rfl) (fun h=>?_) (fun h=>?_)<;>simp only[qae,qad]at h
       ·have hhe:=h;refine gK ?_;refine ae (by rw[←kK];exact⟨by simp,by simp,by simp;omega,Or.inl rfl⟩) ?_;generalize hT:eo S 0 (Int.ofNat v)=T
        have VI:T=(l.take v).map (fun x=>x.slot.enc):=by rw[←hT,←uP,hS];simp[qdj];rfl
        have hTl:T.length=v:=by rw[VI];simp;omega
        refine gK ?_;obtain⟨i,rfl⟩:∃i,i=v:=⟨v,rfl⟩;refine bQ [1,2,3,7,9,20,21,22,69,70,71] (nn [3,3,0,4]) (fun v σ_=>σ_.put (some 71) (.pv (.int .i64 (Int.ofNat v)))) (i) (fun k=>(∀hk:k<i,¬zV l[k].slot ⟨dO,du,fH⟩)) ?_;intro v hv hk;refine ej ?_;refine bp.af (fun he=>?_) (fun he=>?_)
        ·have gh:v<i:=by rw[←aC,←ag]at he;simp at he;omega
         have rB:v<l.length:=by omega
         obtain⟨⟨abu,⟨Ct,wF,wG⟩⟩,wx⟩:∃x,l[v]=x:=⟨_,rfl⟩
         have Cm:aJ (Int.ofNat v) T 3:=by rw[←aP,VI];exact aO (enc:=fun x:aH=>x.slot.enc) (by simp;omega) rfl
         have wy:aI T (Int.ofNat v)=[.int .i64 Ct,.int .i64 wF,.int .u8 wG]:=by rw[←aQ,VI,aN (enc:=fun x:aH=>x.slot.enc) (by simp;omega),qcH,wx];rfl
         refine aY ?_;refine ae Cm ?_;rw[wy];refine gK ?_;refine cU (by cbv) (F5 (a:=⟨dO,du,fH⟩) (b:=⟨Ct,wF,wG⟩) rfl) (fun h=>?_) (fun h=>?_)<;>simp only[qae,qad]at h
         ·refine gK ?_;refine ff rfl (de.oV rfl ?_);show fN _ _=_;refine F3 ?_;refine fa hr (bad ?_);intro h';have:=((h' aT).2.2 v gh).2;rw[bj,wx]at this;exact this h.symm
         ·refine gK ?_;refine ta ⟨gh,fun _=>by rw[wx];exact fun h'=>h h'.symm,?_⟩;rw[wS mz aw (v:=v) (by omega)]
          cbv
        ·have gh:v=i:=by rw[←aC,←ag]at he;simp at he;omega
         subst gh;refine aY ?_;refine wW rfl ?_;refine gK ?_;refine ta ⟨aT,fun _=>⟨⟨_,by rw[bj];exact hf,by rw[bj];exact oa⟩,by rw[bj];exact hhe,fun k eR=>⟨by rw[bj];exact VH k eR,by rw[bj];exact hk k eR eR⟩⟩,?_⟩;rw[wS mz aw (v:=v) (by omega)]
         cbv
       ·refine gK ?_;refine dS ?_;refine fa hr (bad ?_);intro h';have:=(h' aT).2.1;rw[bj]at this;exact h this
      ·refine gK ?_;refine dS ?_;refine fa hr (bad ?_);intro h';obtain⟨⟨b,hb,oA⟩,-⟩:=h' aT;rw[bj]at hb oA;dsimp only at hb;rw[hf]at hb
       cases hb
       exact h oA
    ·replace h1:=eE h1
     have VH:∀k,(eR:k<v)→l[k].box<eH:=fun k eR=>by omega
     refine aY ?_;refine gG (by cbv) (Gf (x:=⟨dO,du,fH⟩) jI wU rfl) (fun h=>?_) (fun h=>?_)<;>simp only[qae,qad]at h
     ·have oa:=h;refine gK ?_;refine gG (by cbv) (Gg (x:=⟨dO,du,fH⟩) hS (by simpa using hl) (by have:=xR.2.2.1.2;dsimp only at this ⊢;omega) rfl) (fun h=>?_) (fun h=>?_)<;>simp only[qae,qad]at h
      ·have hhe:=h;refine gK ?_;refine ae (by rw[←kK];exact⟨by simp,by simp,by simp;omega,Or.inl rfl⟩) ?_;generalize hT:eo S 0 (Int.ofNat v)=T
       have VI:T=(l.take v).map (fun x=>x.slot.enc):=by rw[←hT,←uP,hS];simp[qdj];rfl
       have hTl:T.length=v:=by rw[VI];simp;omega
       refine gK ?_;obtain⟨i,rfl⟩:∃i,i=v:=⟨v,rfl⟩;refine bQ [1,2,3,7,9,20,21,22,69,70,71] (nn [3,3,0,4]) (fun v σ_=>σ_.put (some 71) (.pv (.int .i64 (Int.ofNat v)))) (i) (fun k=>(∀hk:k<i,¬zV l[k].slot ⟨dO,du,fH⟩)) ?_;intro v hv hk;refine ej ?_;refine bp.af (fun he=>?_) (fun he=>?_)
       ·have gh:v<i:=by rw[←aC,←ag]at he;simp at he;omega
        have rB:v<l.length:=by omega
        obtain⟨⟨abu,⟨Ct,wF,wG⟩⟩,wx⟩:∃x,l[v]=x:=⟨_,rfl⟩
        have Cm:aJ (Int.ofNat v) T 3:=by rw[←aP,VI];exact aO (enc:=fun x:aH=>x.slot.enc) (by simp;omega) rfl
        have wy:aI T (Int.ofNat v)=[.int .i64 Ct,.int .i64 wF,.int .u8 wG]:=by rw[←aQ,VI,aN (enc:=fun x:aH=>x.slot.enc) (by simp;omega),qcH,wx];rfl
        refine aY ?_;refine ae Cm ?_;rw[wy];refine gK ?_;refine cU (by cbv) (F5 (a:=⟨dO,du,fH⟩) (b:=⟨Ct,wF,wG⟩) rfl) (fun h=>?_) (fun h=>?_)<;>simp only[qae,qad]at h
        ·refine gK ?_;refine ff rfl (de.oV rfl ?_);show fN _ _=_;refine F3 ?_;refine fa hr (bad ?_);intro h';have:=((h' aT).2.2 v gh).2;rw[bj,wx]at this;exact this h.symm
        ·refine gK ?_;refine ta ⟨gh,fun _=>by rw[wx];exact fun h'=>h h'.symm,?_⟩;rw[wS mz aw (v:=v) (by omega)]
         cbv
       ·have gh:v=i:=by rw[←aC,←ag]at he;simp at he;omega
        subst gh;refine aY ?_;refine wW rfl ?_;refine gK ?_;refine ta ⟨aT,fun _=>⟨⟨_,by rw[bj];exact hf,by rw[bj];exact oa⟩,by rw[bj];exact hhe,fun k eR=>⟨by rw[bj];exact VH k eR,by rw[bj];exact hk k eR eR⟩⟩,?_⟩;rw[wS mz aw (v:=v) (by omega)]
        cbv
      ·refine gK ?_;refine dS ?_;refine fa hr (bad ?_);intro h';have:=(h' aT).2.1;rw[bj]at this;exact h this
     ·refine gK ?_;refine dS ?_;refine fa hr (bad ?_);intro h';obtain⟨⟨b,hb,oA⟩,-⟩:=h' aT;rw[bj]at hb oA;dsimp only at hb;rw[hf]at hb
      cases hb
      exact h oA
  ·have aT:v=l.length:=by rw[←aC,←ag]at hd;simp at hd;omega
   have yb:∀i,i<l.length→pk cl boxes l i:=fun i h=>hk i (by omega)
   refine aY ?_;refine wW rfl ?_;refine gK ?_;refine bQ [1,2,3,83,84] (nn [3,3]) (fun v σ_=>σ_.put (some 84) (.pv (.int .i64 (Int.ofNat v)))) (cl.length) (fun k=>(∀h:k<cl.length,Fits cl[k] boxes l (Int.ofNat k))) ?_;intro v hv hk;refine ej ?_;refine bp.af (fun um=>?_) (fun um=>?_)
   ·have aT:v<cl.length:=by rw[←aC,←ag]at um;simp at um;omega
    refine aY ?_;refine cU (by cbv) (O8 jI eS jb wU hl lO aT rfl) (fun h=>?_) (fun h=>?_)<;>simp only[qae,qad]at h
    ·refine gK ?_;refine ta ⟨aT,fun _=>h,?_⟩;rw[wS mz aw (v:=v) (by omega)]
     cbv
    ·refine gK ?_;refine dS ?_;refine fa hr ?_;rintro⟨-,-,h'⟩;exact h (h' v aT)
   ·have aT:v=cl.length:=by rw[←aC,←ag]at um;simp at um;omega
    refine aY ?_;refine wW rfl ?_;refine gK ?_;refine aX ?_;exact tr hr ⟨Pl,yb,fun i h=>hk i (by omega) h⟩
 ·refine gK ?_;refine aX ?_;refine fa hr ?_;rintro⟨h',-⟩;exact h h'
abbrev Span:=Int×Int×Int
def Km (x:Span):List PV:=[.int .i64 x.1,.int .i64 x.2.1,.int .i64 x.2.2]
theorem yO {rows sp:List (List PV)} {l:List Span} {r:Bool} (eS:rows=l.map Km) (hl:l.length<2^32) (hr:r=decide (∀x∈l,In x.1 x.2.1 x.2.2)):pC mx 294 [.sl rows sp] (.bool r):=by
 have hlen:rows.length=l.length:=by simp[eS]
 refine pZ FW ?_
 iterate 122 intro _
 intro aw _ mz aI aQ aJ aP zI aU aV bC bA ag aC;refine gK ?_;refine bQ [5,6,7] [] (fun v σ_=>σ_.put (some 7) (.pv (.int .i64 (Int.ofNat v)))) (l.length) (fun k=>(∀h:k<l.length,In l[k].1 l[k].2.1 l[k].2.2)) ?_;intro v hv hk;refine ej ?_;refine bp.af (fun hd=>?_) (fun hd=>?_)
 ·have aT:v<l.length:=by rw[←aC,←ag]at hd;simp at hd;omega
  have bad:¬In l[v].1 l[v].2.1 l[v].2.2→¬∀x∈l,In x.1 x.2.1 x.2.2:=fun h h'=>h (h' _ (qaf aT))
  obtain⟨⟨n_a,lo_a,hi_a⟩,bj⟩:∃x,l[v]=x:=⟨_,rfl⟩;rw[bj]at bad;dsimp only at bad
  have bG:aJ (Int.ofNat v) rows 3:=by rw[←aP,eS];exact aO (enc:=Km) aT rfl
  have aW:aI rows (Int.ofNat v)=[.int .i64 n_a,.int .i64 lo_a,.int .i64 hi_a]:=by rw[←aQ,eS,aN (enc:=Km) aT,bj];rfl
  refine aY ?_;refine ae bG ?_;rw[aW];refine gK ?_
  repeat' (first|refine gH ?_|(refine iE (fun hc=>?_) (fun hc=>?_)<;>(try simp at hc)<;>(try(exfalso;omega))))
  all_goals first
   |(refine dS ?_;exact fa hr (bad (by unfold In;omega)))
   |(refine ta ⟨aT,fun _=>by rw[bj];unfold In;dsimp only;omega,?_⟩
     rw[wS mz aw (v:=v) (by omega)]
     cbv)
 ·have aT:v=l.length:=by rw[←aC,←ag]at hd;simp at hd;omega
  refine aY ?_;refine wW rfl ?_;refine gK ?_;refine aX ?_
  refine tr hr fun x hx=>?_
  obtain⟨k,h1,rfl⟩:=qaI hx;exact hk k (by omega) h1
theorem yP {x:aL} {p sp:List (List PV)} {r:Bool} (hp:p=ints x.cq) (hr:r=decide (fX x)) (hl:x.cq.length<2^32):pC mx 238 [.agg [.int .i64 x.bay,.int .i64 x.row,.bool x.deck,.int .i64 x.dv,.int .i64 x.dk,.int .i64 x.tT,.int .i64 x.tU,.int .i64 x.kj,.sl p sp,.int .i64 x.x,.int .i64 x.y,.int .i64 x.z]] (.bool r):=by
 obtain⟨bay,row,deck,dv,dk,tT,tU,kj,cq,psp,cx,cy,cz⟩:=x;dsimp only at hp hl ⊢
 have hlen:p.length=cq.length:=by simp[hp,ints]
 obtain⟨T,hT⟩:∃T,T=IntKind.wrap .i64 (dv-1):=⟨_,rfl⟩
 have hTw:(1≤dv∧dv≤10)→T=dv-1:=fun h=>by rw[hT,dy]<;>omega
 refine pZ FV ?_
 iterate 119 intro _
 intro cP cY _ aw bu mz aI aQ aJ aP zI aU aV bC bA ag aC;refine gK ?_;refine bQ [1,3,7,8,9] [none,some 1] (fun v σ_=>σ_.put (some 9) (.pv (.int .i64 (Int.ofNat v)))) (cq.length) (fun k=>((1≤dv∧dv≤10)→rb ⟨bay,row,deck,dv,dk,tT,tU,kj,cq,psp,cx,cy,cz⟩ k)) ?_;intro v hv hk;refine ej ?_;refine bp.af (fun hd=>?_) (fun hd=>?_)
 ·have aT:v<cq.length:=by rw[←aC,←ag]at hd;simp at hd;omega
  obtain⟨q,hq⟩:∃q,q=cq.getD v 0:=⟨_,rfl⟩
  have ec:aJ (Int.ofNat v) p 1:=by rw[←aP,hp];exact gW (by simp) (by simp;omega)
  have bK:aI p (Int.ofNat v)=[.int .i64 q]:=by rw[←aQ,hp,gv (by simp) (by simp;omega),hq];rfl
  have abv:bu .i64 (cP dv 1)=T:=by rw[←mz,←cY,hT];rfl
  have bad:¬rb ⟨bay,row,deck,dv,dk,tT,tU,kj,cq,psp,cx,cy,cz⟩ v→¬fX ⟨bay,row,deck,dv,dk,tT,tU,kj,cq,psp,cx,cy,cz⟩:=fun h h'=>h (h'.1 v aT)
  have badT:¬(1≤dv∧dv≤10)→¬fX ⟨bay,row,deck,dv,dk,tT,tU,kj,cq,psp,cx,cy,cz⟩:=fun h h'=>h h'.2.2.2.1
  refine aY ?_;refine ae ec ?_;rw[bK];refine gK ?_;rw[abv];refine cU (by cbv) (yO (l:=[(q,0,T)]) rfl (by simp) rfl) (fun h=>?_) (fun h=>?_)<;>simp only[qae,qad,qaO,forall_eq,In]at h
  ·refine gK ?_;refine bp.af (fun h1=>?_) (fun h1=>?_)
   ·replace h1:=eE h1
    obtain⟨w,hw⟩:∃w,v=w+1:=⟨v-1,by omega⟩
    have fu:bu .i64 (cP (Int.ofNat v) 1)=Int.ofNat w:=by rw[←mz,←cY];simp only[n9,iQ];rw[dy]<;>simp<;>omega
    obtain⟨t,ht⟩:∃t,t=cq.getD w 0:=⟨_,rfl⟩
    have gq:aJ (Int.ofNat w) p 1:=by rw[←aP,hp];exact gW (by simp) (by simp;omega)
    have dT:aI p (Int.ofNat w)=[.int .i64 t]:=by rw[←aQ,hp,gv (by simp) (by simp;omega),ht];rfl
    refine aY ?_;rw[fu];refine ae gq ?_;rw[dT];refine gK ?_;refine bp.af (fun h2=>?_) (fun h2=>?_)
    ·replace h2:=eE h2
     refine aY ?_;refine dS ?_;refine fa hr (bad ?_);intro h';have:=h'.2.2;dsimp only at this;simp only[hw,qbp]at this;simp only[hw]at hq;omega
    ·replace h2:=eE h2
     refine aY ?_;refine ta ⟨aT,fun MB=>?_,?_⟩
     ·have:=hTw MB;refine⟨by dsimp only;omega,by dsimp only;omega,Or.inr (by dsimp only;simp only[hw,qbp];simp only[hw]at hq;omega)⟩
     ·rw[wS mz aw (v:=v) (by omega)]
      cbv
   ·replace h1:=eE h1
    refine aY ?_;refine ta ⟨aT,fun MB=>?_,?_⟩
    ·have:=hTw MB;refine⟨by dsimp only;omega,by dsimp only;omega,Or.inl (by omega)⟩
    ·rw[wS mz aw (v:=v) (by omega)]
     cbv
  ·refine gK ?_;refine dS ?_;refine fa hr ?_
   by_cases hm:1≤dv∧dv≤10
   rotate_left
   ·exact badT hm
   ·have:=hTw hm;refine bad ?_;intro h';have h1:=h'.1;have h2:=h'.2.1;dsimp only at h1 h2;omega
 ·have aT:v=cq.length:=by rw[←aC,←ag]at hd;simp at hd;omega
  have xT:(1≤dv∧dv≤10)→∀i,i<cq.length→rb ⟨bay,row,deck,dv,dk,tT,tU,kj,cq,psp,cx,cy,cz⟩ i:=fun MB i h=>hk i (by omega) MB
  refine aY ?_;refine wW rfl ?_;refine gK ?_;refine cU (by cbv) (yO (l:=[(bay,0,39),(row,0,30),(dv,1,10),(dk,0,40000),(tT,0,500000000),(tU,0,500000000),(kj,0,1000000000000),(cx,-500000,500000),(cy,-500000,500000),(cz,-500000,500000)]) rfl (by simp) rfl) (fun h=>?_) (fun h=>?_)<;>simp only[qae,qad,qam,qaB,qa7,forall_eq_or_imp,forall_eq]at h
  ·refine gK ?_;refine aX ?_;exact tr hr ⟨xT (by have:=h.2.2.1;unfold In at this;omega),h⟩
  ·refine gK ?_;refine aX ?_;exact fa hr (fun h'=>h h'.2)
theorem tk:∀{n:Nat} {l:List Nat},l.Nodup→(∀i∈l,i<n)→l.length≤n
 |0,[],_,_=>qak _
 |0,x::_,_,h=>absurd (h x (by simp)) (by omega)
 |n+1,l,hn,h=>by
  by_cases hm:n∈l
  ·have:=tk (n:=n) (l:=l.erase n) (hn.erase n) (fun i hi=>by
    have h1:=h i (List.mem_of_mem_erase hi)
    have h2:i≠n:=fun e=>by subst e;exact(List.Nodup.mem_erase_iff hn).1 hi|>.1 rfl
    omega)
   rw[List.length_erase_of_mem hm]at this;omega
  ·have:=tk (n:=n) (l:=l) hn (fun i hi=>by
    have h1:=h i hi
    have h2:i≠n:=fun e=>by subst e;exact hm hi
    omega)
   omega
theorem Aj {c csp vv vsp r rsp f fsp t tsp:List (List PV)} {l1 l2 l3 l4 m1 m2 m3 m4:Int} {cl:List aL} {vl:List bz} {res:Bool} (jI:c=cl.map aL.enc) (pN:vv=vl.map bz.enc) (wU:cl.length<2^32) (Hn:vl.length<2^32) (CS:∀x∈cl,x.cq.length<2^32) (AE:∀x∈vl,x.rows.length<2^16) (hr:res=decide (fo cl vl)):
  pC mx 141 [.agg [.sl c csp,.sl vv vsp,.int .i64 l1,.int .i64 l2,.int .i64 l3,.int .i64 l4,.sl r rsp,.sl f fsp,.sl t tsp,.int .i64 m1,.int .i64 m2,.int .i64 m3,.int .i64 m4]] (.bool res):=by
 have Su:c.length=cl.length:=by simp[jI]
 have Kf:vv.length=vl.length:=by simp[pN]
 refine pZ NV ?_
 iterate 35 intro _
 intro Bx vT zn zo _ uG _ zp
 iterate 20 intro _
 intro Sw Kn VJ VK Pc Pd _ VL _ _ _ _ _ uH Pe
 iterate 10 intro _
 intro yw Kc
 iterate 29 intro _
 intro cP cY df aw bu mz aI aQ aJ aP zI aU aV bC bA ag aC;refine gK ?_;refine bp.af (fun g1=>?_) (fun g1=>?_)
 ·replace g1:=eE g1
  refine aY ?_;refine aX ?_;exact fa hr (fun h=>by have:=h.1.1;omega)
 ·replace g1:=eE g1
  refine aY ?_;refine bp.af (fun g2=>?_) (fun g2=>?_)
  ·replace g2:=eE g2
   refine aY ?_;refine aX ?_;exact fa hr (fun h=>by have:=h.1.2.1;omega)
  ·replace g2:=eE g2
   refine aY ?_;refine bp.af (fun g3=>?_) (fun g3=>?_)
   ·replace g3:=eE g3
    refine aY ?_;refine aX ?_;exact fa hr (fun h=>by have:=h.1.2.2;omega)
   ·replace g3:=eE g3
    have Ef:1≤cl.length∧cl.length≤200∧vl.length≤40:=by omega
    obtain⟨kc,yg⟩:∃f:Nat→List Key,f=fun v=>(cl.take v).map pw:=⟨_,rfl⟩
    obtain⟨M,hM⟩:∃f:List Key→List (List PV),f=fun ks=>eh (jm ks):=⟨_,rfl⟩
    have hM0:M (kc 0)=[]:=by rw[hM,yg];rfl
    have Sx:∀(ks:List Key) (k:Key),ks.length<2^40→∃n:Nat,(∃x,uH 3 (M ks) (ic k) [.int .i64 0]=x∧x=.int .i64 (Int.ofNat n))∧bu .i64 (df (Int.ofNat n) 1)=Int.ofNat (n+1)∧yw [1,1,1] 3 (M ks) (ic k)∧zo (Bx 3 (M ks) (ic k)) (vT 3 (M ks) (ic k) [.int .i64 0])∧
      zn 3 (vT 3 (M ks) (ic k) [.int .i64 0]) (Bx 3 (M ks) (ic k)) [.int .i64 (Int.ofNat (n+1))]=M (ks++[k]):=fun ks k hl=>by
     have hle:=Vl (ks:=ks) (k:=k);refine⟨sG (jm ks) k,⟨_,rfl,?_⟩,?_,?_,?_,?_⟩
     ·rw[←Pe,hM];exact R1
     ·rw[←mz,←aw];exact kY (by omega)
     ·rw[←Kc,hM];exact aaW
     ·rw[←VK,←Sw,←Kn,hM];exact aaX
     ·rw[←VJ,←Kn,←Sw,hM];simp only[nS];exact Vk
    refine aY ?_;refine jJ (fun v σ_=>((σ_.tidy [1,3,31,32,33] (nn [1,1,27,29])).put (some 33) (.pv (.int .i64 (Int.ofNat v)))).aq 29 (.map true false 3 (M (kc v)))) cl.length (fun k=>∀h:k<cl.length,fX cl[k]) (by rw[hM0];exact Fg.ca [1,3,31,32,33] (nn [1,1,27,29]) rfl (by cbv)) ?_;intro v hv hk;refine ej ?_;refine bp.af (fun hd=>?_) (fun hd=>?_)
    ·have aT:v<cl.length:=by rw[←aC,←ag]at hd;simp at hd;omega
     obtain⟨gI,bj⟩:∃x,cl[v]=x:=⟨_,rfl⟩
     have bG:aJ (Int.ofNat v) c 12:=by rw[←aP,jI];exact aO (enc:=aL.enc) aT rfl
     obtain⟨⟨dU,jE,gJ,eI,eB,kx,ky,ia,dw,kz,pn,po,pq⟩,bW⟩:∃y,gI=y:=⟨_,rfl⟩;subst bW
     have aW:aI c (Int.ofNat v)=[.int .i64 dU,.int .i64 jE,.bool gJ,.int .i64 eI,.int .i64 eB,.int .i64 kx,.int .i64 ky,.int .i64 ia,.sl (ints dw) kz,.int .i64 pn,.int .i64 po,.int .i64 pq]:=by rw[←aQ,jI,aN (enc:=aL.enc) aT,bj];rfl
     obtain⟨wV,gL⟩:∃p,p=ints dw:=⟨_,rfl⟩;rw[←gL]at aW
     obtain⟨D,hD⟩:∃D:Int,D=if gJ then 1 else 0:=⟨_,rfl⟩
     have TE:kc (v+1)=kc v++[(dU,jE,D)]:=by
      rw[yg];simp only;rw[qan aT,qaX,bj,hD];rfl
     obtain⟨n,⟨x,lf,hx⟩,zc,sw,Cu,ow⟩:=Sx (kc v) (dU,jE,D) (by rw[yg];simp;omega);rw[←TE]at ow;simp only[ic]at lf sw Cu ow;generalize M (kc (v+1))=m' at ow ⊢;generalize M (kc v)=m at lf sw Cu ow ⊢;refine aY ?_;refine ae bG ?_;rw[aW]
     cases gJ
     all_goals
      simp only[qaP,qaW,qax]at hD;subst hD;refine gK ?_;refine ae sw ?_;rw[lf,hx];refine gK ?_;rw[zc];refine ae sw ?_;refine gK ?_;refine ae Cu ?_;rw[ow];refine gK ?_
      first
       |refine cU (by cbv) (yP (x:=⟨dU,jE,false,eI,eB,kx,ky,ia,dw,kz,pn,po,pq⟩) gL rfl (bj▸CS _ (qaf aT))) (fun h=>?_) (fun h=>?_)
       |refine cU (by cbv) (yP (x:=⟨dU,jE,true,eI,eB,kx,ky,ia,dw,kz,pn,po,pq⟩) gL rfl (bj▸CS _ (qaf aT))) (fun h=>?_) (fun h=>?_)
      all_goals simp only[qae,qad]at h
      ·refine gK ?_;refine ta ⟨aT,fun _=>by rw[bj];exact h,?_⟩;rw[wS mz aw (v:=v) (by omega)];exact Fg.ca [1,3,31,32,33] (nn [1,1,27,29]) rfl (by cbv)
      ·refine gK ?_;refine dS ?_;refine fa hr ?_;rintro⟨-,h2,-⟩;have:=(h2 v aT).1;rw[bj]at this;exact h this
    ·have aT:v=cl.length:=by rw[←aC,←ag]at hd;simp at hd;omega
     have aan:∀i,(h:i<cl.length)→fX cl[i]:=fun i h=>hk i (by omega) h
     obtain⟨kv,rj⟩:∃f:Nat→List Key,f=fun v=>cl.map pw++(vl.take v).flatMap j7:=⟨_,rfl⟩
     have hkv0:kc v=kv 0:=by rw[rj,yg,aT];simp
     have Be:∀n,n≤vl.length→(kv n).length≤cl.length+2^16*n:=by
      intro n;rw[rj];simp only[qal,qap]
      induction n with
      |zero=>intro _;simp
      |succ n ih=>
       intro hn;have:=ih (by omega);rw[qan (by omega),qc8,qal];have h2:=AE _ (qaf (show n<vl.length by omega));simp only[qdo,List.flatMap_nil,qbw,j7,qap];omega
     rw[hkv0];refine aY ?_;refine wW rfl ?_;refine gK ?_;refine jJ (fun v σ_=>((σ_.tidy [1,3,55,56,57] (nn [1,1,27,29])).put (some 57) (.pv (.int .i64 (Int.ofNat v)))).aq 29 (.map true false 3 (M (kv v)))) vl.length (fun k=>∀h:k<vl.length,iM vl[k]) (Fg.ca [1,3,55,56,57] (nn [1,1,27,29]) rfl (by cbv)) ?_
     clear hk hv hd
     intro v hv hk;refine ej ?_;refine bp.af (fun hd=>?_) (fun hd=>?_)
     ·have aT:v<vl.length:=by rw[←aC,←ag]at hd;simp at hd;omega
      have bad:¬iM vl[v]→¬fo cl vl:=fun h h'=>h (h'.2.2 v aT).1
      have mn:=AE _ (qaf aT);obtain⟨gI,bj⟩:∃x,vl[v]=x:=⟨_,rfl⟩
      have bG:aJ (Int.ofNat v) vv 2:=by rw[←aP,pN];exact aO (enc:=bz.enc) aT rfl
      obtain⟨⟨dU,cW,oe⟩,bW⟩:∃y,gI=y:=⟨_,rfl⟩;subst bW
      have aW:aI vv (Int.ofNat v)=[.int .i64 dU,.sl (ints cW) oe]:=by rw[←aQ,pN,aN (enc:=bz.enc) aT,bj];rfl
      rw[bj]at bad mn;dsimp only at mn;obtain⟨wV,gL⟩:∃p,p=ints cW:=⟨_,rfl⟩;rw[←gL]at aW
      have xT:wV.length=cW.length:=by simp[gL,ints]
      obtain⟨kr,wO⟩:∃f:Nat→List Key,f=fun j=>kv v++(cW.take j).map (fun r=>(dU,r,2)):=⟨_,rfl⟩
      have hkr0:kv v=kr 0:=by rw[wO];simp
      have hkrE:kr cW.length=kv (v+1):=by
       rw[wO,rj];simp only[qbh];rw[qan aT,qc8,bj,qaR];simp[j7]
      rw[hkr0];refine aY ?_;refine ae bG ?_;rw[aW];refine gK ?_;refine bp.af (fun h1=>?_) (fun h1=>?_)
      ·replace h1:=eE h1
       refine aY ?_;refine dS ?_;exact fa hr (bad (fun h=>by have:=h.1;unfold In at this;dsimp only at this;omega))
      ·replace h1:=eE h1
       refine aY ?_;refine bp.af (fun h2=>?_) (fun h2=>?_)
       ·replace h2:=eE h2
        refine aY ?_;refine dS ?_;exact fa hr (bad (fun h=>by have:=h.1;unfold In at this;dsimp only at this;omega))
       ·replace h2:=eE h2
        refine aY ?_;refine bp.af (fun h3=>?_) (fun h3=>?_)
        ·replace h3:=eE h3
         refine aY ?_;refine dS ?_;refine fa hr (bad (fun h=>h.2.1 ?_));dsimp only
         have h3':wV.length=0:=by rw[h3];rfl
         exact qcE.1 (by omega)
        ·replace h3:=eE h3
         refine aY ?_;obtain⟨i,rfl⟩:∃i,i=v:=⟨v,rfl⟩;refine jJ (fun v σ_=>((σ_.tidy [1,3,8,55,56,57,76,77,78] (nn [1,1,6,8,20,29])).put (some 78) (.pv (.int .i64 (Int.ofNat v)))).aq 29 (.map true false 3 (M (kr v)))) cW.length (fun k=>qA ⟨dU,cW,oe⟩ k) (Fg.ca [1,3,8,55,56,57,76,77,78] (nn [1,1,6,8,20,29]) rfl (by cbv)) ?_;intro v hv hk;refine ej ?_;refine bp.af (fun he=>?_) (fun he=>?_)
         ·have rI:v<cW.length:=by rw[←aC,←ag]at he;simp at he;omega
          obtain⟨q,hq⟩:∃q,q=cW.getD v 0:=⟨_,rfl⟩
          have ec:aJ (Int.ofNat v) wV 1:=by rw[←aP,gL];exact gW (by simp) (by simp;omega)
          have bK:aI wV (Int.ofNat v)=[.int .i64 q]:=by rw[←aQ,gL,gv (by simp) (by simp;omega),hq];rfl
          have hkrS:kr (v+1)=kr v++[(dU,q,2)]:=by
           rw[wO];simp only;rw[qan rI,qaX,hq,getD_eq rI,qaR];rfl
          obtain⟨n,⟨x,lf,hx⟩,zc,sw,Cu,ow⟩:=Sx (kr v) (dU,q,2) (by
           rw[wO];have:=Be i (by omega);simp only[qal,qap,qaT]
           omega)
          rw[←hkrS]at ow;simp only[ic]at lf sw Cu ow;generalize M (kr (v+1))=m' at ow ⊢;generalize M (kr v)=m at lf sw Cu ow ⊢;refine aY ?_;refine ae ec ?_;rw[bK];refine gK ?_;refine bp.af (fun h4=>?_) (fun h4=>?_)
          ·replace h4:=eE h4
           refine aY ?_;refine ff rfl (de.oV rfl ?_);show fN _ _=_;refine F3 ?_;exact fa hr (bad (fun h=>by have:=(h.2.2 v rI).1;dsimp only at this;omega))
          ·replace h4:=eE h4
           refine aY ?_;refine bp.af (fun h5=>?_) (fun h5=>?_)
           ·replace h5:=eE h5
            refine aY ?_;refine ff rfl (de.oV rfl ?_);show fN _ _=_;refine F3 ?_;exact fa hr (bad (fun h=>by have:=(h.2.2 v rI).2.1;dsimp only at this;omega))
           ·replace h5:=eE h5
            refine aY ?_;refine bp.af (fun h6=>?_) (fun h6=>?_)
            ·replace h6:=eE h6
             obtain⟨w,hw⟩:∃w,v=w+1:=⟨v-1,by omega⟩
             have fu:bu .i64 (cP (Int.ofNat v) 1)=Int.ofNat w:=by rw[←mz,←cY];simp only[n9,iQ];rw[dy]<;>simp<;>omega
             refine aY ?_;rw[fu];obtain⟨t,ht⟩:∃t,t=cW.getD w 0:=⟨_,rfl⟩
             have gq:aJ (Int.ofNat w) wV 1:=by rw[←aP,gL];exact gW (by simp) (by simp;omega)
             have dT:aI wV (Int.ofNat w)=[.int .i64 t]:=by rw[←aQ,gL,gv (by simp) (by simp;omega),ht];rfl
             refine ae gq ?_;rw[dT];refine gK ?_;refine bp.af (fun h7=>?_) (fun h7=>?_)
             ·replace h7:=eE h7
              refine aY ?_;refine ff rfl (de.oV rfl ?_);show fN _ _=_;refine F3 ?_;refine fa hr (bad (fun h=>?_));have:=(h.2.2 v rI).2.2;dsimp only at this;simp only[hw,qbp]at this;simp only[hw]at hq;omega
             ·replace h7:=eE h7
              have Eg:qA ⟨dU,cW,oe⟩ v:=⟨by dsimp only;omega,by dsimp only;omega,Or.inr (by dsimp only;simp only[hw,qbp];simp only[hw]at hq;omega)⟩;refine aY ?_;refine ae sw ?_;rw[lf,hx];refine gK ?_;rw[zc];refine ae sw ?_;refine gK ?_;refine ae Cu ?_;rw[ow];refine gK ?_;refine ta ⟨rI,Eg,?_⟩;rw[wS mz aw (v:=v) (by omega)];exact Fg.ca [1,3,8,55,56,57,76,77,78] (nn [1,1,6,8,20,29]) rfl (by cbv)
            ·replace h6:=eE h6
             have Eg:qA ⟨dU,cW,oe⟩ v:=⟨by dsimp only;omega,by dsimp only;omega,Or.inl (by omega)⟩;refine aY ?_;refine ae sw ?_;rw[lf,hx];refine gK ?_;rw[zc];refine ae sw ?_;refine gK ?_;refine ae Cu ?_;rw[ow];refine gK ?_;refine ta ⟨rI,Eg,?_⟩;rw[wS mz aw (v:=v) (by omega)];exact Fg.ca [1,3,8,55,56,57,76,77,78] (nn [1,1,6,8,20,29]) rfl (by cbv)
         ·have rI:v=cW.length:=by rw[←aC,←ag]at he;simp at he;omega
          rw[rI,hkrE];refine aY ?_;refine wW rfl ?_;refine gK ?_;refine ta ⟨aT,fun _=>?_,?_⟩
          ·rw[bj];refine⟨by unfold In;dsimp only;omega,fun h=>?_,fun j hj=>hk j (by dsimp only at hj;omega)⟩;dsimp only at h;rw[h]at xT;simp at xT;exact h3 xT
          rw[wS mz aw (v:=i) (by omega)];exact Fg.ca [1,3,55,56,57] (nn [1,1,27,29]) rfl (by cbv)
     ·have aT:v=vl.length:=by rw[←aC,←ag]at hd;simp at hd;omega
      have abw:∀i,(h:i<vl.length)→iM vl[i]:=fun i h=>hk i (by omega) h
      have bS:kv v=kB cl vl:=by
       rw[rj,aT];simp[kB]
      rw[bS];have Ko:=once (ks:=kB cl vl);have jr:=J2 Ef aan abw;obtain⟨T,hT⟩:∃T,T=jm (kB cl vl):=⟨_,rfl⟩;obtain⟨m,hm⟩:∃m,m=M (kB cl vl):=⟨_,rfl⟩
      have hmT:m=eh T:=by rw[hm,hM,hT]
      rw[←hT]at Ko;rw[←hm];refine aY ?_;refine wW rfl ?_;refine gK ?_;refine BA ?_;refine vW (Fg.ZC (id:=29) rfl (by cbv)) ?_;refine gK ?_
      have hml:m.length=T.length:=by rw[hmT];simp[eh]
      refine T6 (fun(seen:List Nat) σ_=>(σ_.tidy [115] (nn [30,30])).aq 30 (.eu (.mp true false 3 m) seen)) (fun seen=>seen.Nodup∧∀i∈seen,i<T.length∧∀h:i<T.length,T[i].2≤1) (fun seen=>T.length-seen.length) [] (Fg.ca [115] (nn [30,30]) rfl (by cbv)) ⟨List.nodup_nil,fun i h=>by cases h⟩ ?_;rintro seen ⟨Cy,wR⟩;refine ej ?_
      cases Dp:uG seen m
      ·refine aY ?_;refine GU ?_;intro i hi;rw[←Pc]at hi;obtain⟨hi1,QG⟩:i<m.length∧seen.contains i=false:=hi
       have hiT:i<T.length:=by omega
       obtain⟨⟨kk,n⟩,hk⟩:∃x,T[i]=x:=⟨_,rfl⟩
       have hval:zp false 3 m i=.int .i64 (Int.ofNat n):=by
        rw[←VL,hmT];simp only[aF,eh,qab,qbO,qag hiT,hk,qaM,qbg,Ae,List.drop,jz,List.headD]
       have hni:i∉seen:=by simpa using QG
       refine gK ?_;rw[hval];refine aY ?_;refine bp.af (fun hg=>?_) (fun hg=>?_)
       ·replace hg:=eE hg
        refine aY ?_;refine dS ?_;refine fa hr (fun h=>?_);have:=Ko.2 (jr.1 h) _ (qaf hiT);rw[hk]at this;dsimp only at this;omega
       ·replace hg:=eE hg
        refine aY ?_;refine ta ⟨i::seen,⟨qdw.2 ⟨hni,Cy⟩,fun j hj=>?_⟩,?_,?_⟩
        ·rcases qam.1 hj with rfl|hj
         ·exact⟨hiT,fun _=>by rw[hk];dsimp only;omega⟩
         ·exact wR j hj
        ·have hlen:=tk (n:=T.length) (qdw.2 ⟨hni,Cy⟩) fun j hj=>by
          rcases qam.1 hj with rfl|hj
          ·exact hiT
          ·exact(wR j hj).1
         simp only[qaq]at hlen ⊢;omega
        ·exact Fg.ca [115] (nn [30,30]) rfl (by cbv)
      ·refine aY ?_;refine wW rfl ?_;refine gK ?_;refine aX ?_;refine tr hr (jr.2 (Ko.1 fun x hx=>?_));obtain⟨i,hi,rfl⟩:=qaI hx;rw[←Pd]at Dp
       have mV:i∈seen:=by
        have:((List.range m.length).all fun i=>seen.contains i)=true:=Dp;rw[qa1]at this;simpa using this i (by rw[qbU];omega)
       exact(wR i mV).2 hi
end Go.bt
end
