import Derived.Test.YtfaccbkibjkfjaaGreatDoorT15
import Derived.Test.YtfaccbkibjkfjaaGreatDoorT12
import Derived.Test.YtfaccbkibjkfjaaGreatDoorT41
import Derived.Test.YtfaccbkibjkfjaaGreatDoorT14
import Derived.Test.YtfaccbkibjkfjaaGreatDoorT07
import Derived.Test.YtfaccbkibjkfjaaGreatDoorT10
import Derived.Test.YtfaccbkibjkfjaaGreatDoorT13
import Derived.Test.YtfaccbkibjkfjaaGreatDoorT11
import Derived.Test.YtfaccbkibjkfjaaGreatDoorT45
set_option linter.all false
set_option maxRecDepth 100000
set_option maxHeartbeats 1000000
section
open Go Go.Am Go.Proofs
attribute [local irreducible] Am.bl.holds bA fw bC dv
namespace Go.bW
variable {mx:Int}
open Classical
theorem sH {z q:Int} (h:z=48+q%10):UInt8.ofNat z.toNat=sR q:=by
 unfold sR;rw[h]
 congr 1
 omega
theorem SB {z1 z2 z3 z4 z5 z6 z7 q1 q2 q3 q4 q5 q6 q7:Int} (h1:z1=48+q1%10) (h2:z2=48+q2%10) (h3:z3=48+q3%10) (h4:z4=48+q4%10) (h5:z5=48+q5%10) (h6:z6=48+q6%10) (h7:z7=48+q7%10):
  aG.gB [[.int .u8 z1],[.int .u8 z2],[.int .u8 z3],[.int .u8 z4],[.int .u8 z5],[.int .u8 z6],[.int .u8 z7]]=[sR q1,sR q2,sR q3,sR q4,sR q5,sR q6,sR q7]:=by
 simp only[aG,List.map_cons,List.map_nil];rw[sH h1,sH h2,sH h3,sH h4,sH h5,sH h6,sH h7]
theorem sI {c csp vv vsp r rsp f fsp t tsp:List (List PV)} {l1 l2 l3 l4 m1 m2 m3 m4:Int} {cl:List aM} {vl:List bq} {x:Slot} {t0:List UInt8} {e:Int} (ff:c=cl.map aM.enc) (lU:vv=vl.map bq.enc) (mj:cl.length<2^32) (rP:vl.length<2^32) (oc:∀x∈cl,x.b9.length<2^32) (rv:∀x∈vl,x.rows.length<2^32) (hx:0≤x.half∧x.half<256)
  (hr:fG cl vl x=(t0,e)):pC mx 214 [.agg [.sl c csp,.sl vv vsp,.int .i64 l1,.int .i64 l2,.int .i64 l3,.int .i64 l4,.sl r rsp,.sl f fsp,.sl t tsp,.int .i64 m1,.int .i64 m2,.int .i64 m3,.int .i64 m4],.agg [.int .i64 x.column,.int .i64 x.gG,.int .u8 x.half]] (.ep [.str t0,.int .i64 e]):=by
 have hlen:c.length=cl.length:=by simp[ff]
 unfold fG at hr;refine pZ Ok ?_
 iterate 98 intro _
 intro jt ej _ iR _ eW j6 _ fS j0 _ _ _ _ eO iu _ _ _ _ _ b5 cQ bg aO aw ak aI aU aL aP aB aV aW bp bu ah aD;refine gK ?_;refine bX (by cbv) (xL ff lU mj rP oc rv rfl) (fun h=>?_) (fun h=>?_)<;>simp only[decide_eq_true_eq,decide_eq_false_iff_not]at h
 ·have pj:=h;rw[if_neg (by simpa using pj)]at hr
  have kh:(¬bV cl x 20∧¬bV cl x 40)∨bV cl x 20∨(¬bV cl x 20∧bV cl x 40):=by
   by_cases h1:bV cl x 20<;>by_cases h2:bV cl x 40<;>simp[h1,h2]
  rcases kh with⟨Ij,O3⟩|kh
  ·rw[if_pos ⟨Ij,O3⟩]at hr
   cases hr
   refine gK ?_;refine an (by cbv) (kE (size:=20) (res:=false) ff mj (decide_eq_false Ij).symm) (fun h=>by first|rfl|cases h) ?_;refine gK ?_;refine an (by cbv) (kE (size:=40) (res:=false) ff mj (decide_eq_false O3).symm) (fun h=>by first|rfl|cases h) ?_;refine gK ?_;refine aN ?_;rfl
  ·have VF:¬(¬bV cl x 20∧¬bV cl x 40):=by
    rintro⟨h1,h2⟩
    rcases kh with h|h
    ·exact h1 h
    ·exact h2 h.2
   rw[if_neg VF]at hr
   have eQ:0≤x.column∧x.column<cl.length∧0≤x.gG∧(∀h:x.column.toNat<cl.length,x.gG<cl[x.column.toNat].dk)∧(x.half=0∨x.half=1∨x.half=2):=by
    rcases kh with h|h
    ·exact⟨h.1.1,h.1.2.1,h.1.2.2.1,h.1.2.2.2,by have:=h.2;omega⟩
    ·exact⟨h.2.1.1,h.2.1.2.1,h.2.1.2.2.1,h.2.1.2.2.2,by have:=h.2.2;omega⟩
   obtain⟨n,hn⟩:∃n:Nat,x.column=Int.ofNat n:=⟨x.column.toNat,by simp;omega⟩;obtain⟨xc,xt,xh⟩:=x;dsimp only at hn eQ kh hr hx ⊢;subst hn
   have rG:n<cl.length:=by have:=eQ.2.1;simpa using this
   obtain⟨-,-,ht0,Ik,KT⟩:=eQ;have VG:=Ik (by simpa using rG);simp only[Int.toNat_natCast,Int.ofNat_eq_natCast]at VG hr;have AJ:=(pj.2.1 n rG).1;obtain⟨kD,bh⟩:∃x,cl[n]=x:=⟨_,rfl⟩
   have bx:aL (Int.ofNat n) c 12:=by rw[←aP,ff];exact aR (enc:=aM.enc) rG rfl
   obtain⟨⟨cZ,gM,eh,dM,dz,jd,je,fP,cP,jf,ny,nA,nB⟩,cK⟩:∃y,kD=y:=⟨_,rfl⟩;subst cK
   have a6:aI c (Int.ofNat n)=[.int .i64 cZ,.int .i64 gM,.bool eh,.int .i64 dM,.int .i64 dz,.int .i64 jd,.int .i64 je,.int .i64 fP,.sl (ints cP) jf,.int .i64 ny,.int .i64 nA,.int .i64 nB]:=by rw[←aU,ff,aQ (enc:=aM.enc) rG,bh];rfl
   obtain⟨wh,gh⟩:∃p,p=ints cP:=⟨_,rfl⟩;rw[←gh]at a6;rw[bh]at VG AJ;rw[List.getElem?_eq_getElem rG,bh]at hr;obtain⟨-,EN,bM,xN,-⟩:=AJ;unfold In at EN bM xN;dsimp only at VG hr EN bM xN;obtain⟨N,hN⟩:∃N:Int,(if xh=0 then 2 else if xh=1 then 1 else 3)=N:=⟨_,rfl⟩
   have hNN:(xh=0∧N=2)∨(xh=1∧N=1)∨(xh=2∧N=3):=by
    rcases KT with h|h|h
    ·left;exact⟨h,by rw[←hN,if_pos h]⟩
    ·right;left;exact⟨h,by rw[←hN,if_neg (by omega),if_pos h]⟩
    ·right;right;exact⟨h,by rw[←hN,if_neg (by omega),if_neg (by omega)]⟩
   rw[hN]at hr
   clear hN
   obtain⟨rfl,rfl⟩:=Prod.mk.inj hr
   have iP:∀x y,bg x y=x+y:=fun _ _=>by rw[←aO];rfl
   have dD:∀x y,b5 x y=x-y:=fun _ _=>by rw[←cQ];rfl
   have hmul:∀x y,eW x y=x*y:=fun _ _=>by rw[←j6];rfl
   have qt:∀x y,0≤x→fS x y=x/y:=fun _ _ h=>by rw[←j0];exact Int.tdiv_eq_ediv_of_nonneg h
   have qu:∀x y,0≤x→eO x y=x%y:=fun _ _ h=>by rw[←iu];exact Int.tmod_eq_emod_of_nonneg h
   have hW:∀x,-9223372036854775808≤x→x<9223372036854775808→aw .i64 x=x:=fun _ h1 h2=>by rw[←ak];exact dh h1 h2
   have D1:∀x,0≤x→x<256→aw .u8 x=x:=fun _ h1 h2=>by rw[←ak];exact KD h1 h2
   rcases kh with Ij|⟨Ij,O3⟩
   rotate_left
   ·refine gK ?_;refine an (by cbv) (kE (x:=⟨Int.ofNat n,xt,xh⟩) (size:=20) (res:=false) ff mj (decide_eq_false Ij).symm) (fun h=>by first|rfl|cases h) ?_;refine gK ?_;refine an (by cbv) (kE (x:=⟨Int.ofNat n,xt,xh⟩) (size:=40) (res:=true) ff mj (decide_eq_true O3).symm) (fun h=>by first|rfl|cases h) ?_;refine gK ?_;refine ae bx ?_;rw[a6]
    cases eh
    all_goals
     refine gK ?_
     repeat' (first
      |refine rQ ?_
      |(refine bl.af (fun hc=>?_) (fun hc=>?_)<;>(rw[←bu]at hc)<;>(try simp at hc)<;>(try(simp(disch:=omega) only[iP,hmul,hW]at hc))<;>(try(exfalso;omega)))
      |(refine ae (by rw[←iR];simp) ?_;refine gK ?_)
      |(refine ae (by rw[←jt];intro r hr;simp at hr;rcases hr with rfl|rfl|rfl|rfl|rfl|rfl|rfl<;>exact⟨_,rfl⟩) ?_;refine gK ?_))
     all_goals(refine aN ?_;simp(disch:=omega) only[iP,hmul,qt,qu,hW,D1,Bool.false_eq_true,if_false,if_true];rw[←ej];rcases hNN with⟨_,VH⟩|⟨_,VH⟩|⟨_,VH⟩<;>first|(exfalso;omega)|(subst VH;(first|rw[show(2*(xt+1)+0)%100=xt+xt+2 by omega]|rw[show(2*(xt+1)+80)%100=0 by omega]|rw[show(2*(xt+1)+80)%100=xt+xt+2+80 by omega]);exact congrArg (fun s=>some (PV.ep [.str s,.int .i64 0])) (SB (by omega) (by omega) (by omega) (by omega) (by omega) (by omega) (by omega))))
   ·refine gK ?_;refine an (by cbv) (kE (x:=⟨Int.ofNat n,xt,xh⟩) (size:=20) (res:=true) ff mj (decide_eq_true Ij).symm) (fun h=>by first|rfl|cases h) ?_;refine gK ?_;refine ae bx ?_;rw[a6]
    cases eh
    all_goals
     refine gK ?_
     repeat' (first
      |refine rQ ?_
      |(refine bl.af (fun hc=>?_) (fun hc=>?_)<;>(rw[←bu]at hc)<;>(try simp at hc)<;>(try(simp(disch:=omega) only[iP,hmul,hW]at hc))<;>(try(exfalso;omega)))
      |(refine ae (by rw[←iR];simp) ?_;refine gK ?_)
      |(refine ae (by rw[←jt];intro r hr;simp at hr;rcases hr with rfl|rfl|rfl|rfl|rfl|rfl|rfl<;>exact⟨_,rfl⟩) ?_;refine gK ?_))
     all_goals(refine aN ?_;simp(disch:=omega) only[iP,hmul,qt,qu,hW,D1,Bool.false_eq_true,if_false,if_true];rw[←ej];rcases hNN with⟨_,VH⟩|⟨_,VH⟩|⟨_,VH⟩<;>first|(exfalso;omega)|(subst VH;(first|rw[show(2*(xt+1)+0)%100=xt+xt+2 by omega]|rw[show(2*(xt+1)+80)%100=0 by omega]|rw[show(2*(xt+1)+80)%100=xt+xt+2+80 by omega]);exact congrArg (fun s=>some (PV.ep [.str s,.int .i64 0])) (SB (by omega) (by omega) (by omega) (by omega) (by omega) (by omega) (by omega))))
 ·rw[if_pos h]at hr
  cases hr
  refine gK ?_;refine aN ?_;rfl
end Go.bW
end
section
open Go Go.Am Go.Proofs
attribute [local irreducible] Am.bl.holds bA fw bC dv
namespace Go.bW
variable {mx:Int}
open Classical
theorem VV {cl:List aM} {vl:List bq} {boxes:List cE} {l:List aT} (hB:mq boxes) (hS:lV cl vl boxes l) (hlen:boxes.length=l.length):∀i,(h:i<l.length)→(h':i<boxes.length)→l[i].box=boxes[i].id:=by
 let a:Nat→Int:=fun i=>if h:i<l.length then l[i].box else 0
 let b:Nat→Int:=fun i=>if h:i<boxes.length then boxes[i].id else 0
 have key:=Ii (n:=l.length) (a:=a) (b:=b) (fun i hi=>by
   have:=(hS.2.1 (i+1) hi hi).2.2 i (by omega);simp only[a,dif_pos hi,dif_pos (show i<l.length by omega)]
   exact this.1) (fun i hi=>by
   have:=(hB.2 (i+1) (by omega) (by omega)).2.2 (by omega) (by omega);simp only[b,dif_pos (show i+1<boxes.length by omega),dif_pos (show i<boxes.length by omega)]
   simpa using this) (fun i hi=>by
   obtain⟨⟨x,hx,-⟩,-⟩:=hS.2.1 i hi hi;unfold kl at hx;have h1:=List.mem_of_find?_eq_some hx;have h2:=List.find?_some hx;obtain⟨j,hj,rfl⟩:=List.getElem_of_mem h1;refine⟨j,by omega,?_⟩;simp only[a,b,dif_pos hi,dif_pos hj]
   simpa using h2)
 intro i h h';have:=key i h;simp only[a,b,dif_pos h,dif_pos h']at this;exact this
theorem vB {c csp vv vsp r rsp f fsp t tsp:List (List PV)} {l1 l2 l3 l4 m1 m2 m3 m4:Int} {rows sp bF bsp:List (List PV)} {cl:List aM} {vl:List bq} {l:List aT} {boxes:List cE} {call:Int} {port:List UInt8} {res:Bool} (ff:c=cl.map aM.enc) (lU:vv=vl.map bq.enc) (mj:cl.length<2^32) (rP:vl.length<2^32) (oc:∀x∈cl,x.b9.length<2^32) (rv:∀x∈vl,x.rows.length<2^32)
  (cq:rows=l.map aT.enc) (gN:bF=boxes.map cE.enc) (hl:l.length<2^32) (ph:boxes.length<2^32) (oC:∀b∈boxes,mw b) (bL:∀x∈l,kF x) (hr:res=decide (fO cl vl call port boxes l)):
  pC mx 49 [.agg [.sl c csp,.sl vv vsp,.int .i64 l1,.int .i64 l2,.int .i64 l3,.int .i64 l4,.sl r rsp,.sl f fsp,.sl t tsp,.int .i64 m1,.int .i64 m2,.int .i64 m3,.int .i64 m4],.agg [.int .i64 call,.str port,.sl bF bsp,.sl rows sp]] (.bool res):=by
 have zX:rows.length=l.length:=by simp[cq]
 have GP:bF.length=boxes.length:=by simp[gN]
 obtain⟨i,e,mO⟩:=vA boxes;have fV:=mO.iff;refine pZ Vp ?_
 iterate 122 intro _
 intro aO _ ak aI aU aL aP aB aV aW bp bu ah aD;refine gK ?_;refine an (by cbv) (Dr gN mO) (fun h=>by first|rfl|cases h) ?_;refine gK ?_;refine bl.af (fun h1=>?_) (fun h1=>?_)
 ·replace h1:=eT h1
  refine dp ?_;refine aN ?_;exact fa hr (fun h=>by have:=h.1;omega)
 ·replace h1:=eT h1
  refine dp ?_;refine bl.af (fun h2=>?_) (fun h2=>?_)
  ·replace h2:=eT h2
   refine dp ?_;refine aN ?_;exact fa hr (fun h=>by have:=h.1;omega)
  ·replace h2:=eT h2
   refine dp ?_;refine bX (by cbv) (EZ (a:=0) (d:=0) rfl) (fun h=>?_) (fun h=>?_)<;>simp only[decide_eq_true_eq,decide_eq_false_iff_not]at h
   ·have zZ:=h.1;refine gK ?_;refine bl.af (fun h3=>?_) (fun h3=>?_)
    ·replace h3:=eT h3
     refine dp ?_;refine aN ?_;exact fa hr (fun h=>h3 (fV.2 h.2.2.2.1))
    ·replace h3:=eT h3
     have Pd:mq boxes:=fV.1 h3;refine dp ?_;refine bX (by cbv) (ET ff lU mj rP oc rv cq gN hl ph oC bL rfl) (fun h=>?_) (fun h=>?_)<;>simp only[decide_eq_true_eq,decide_eq_false_iff_not]at h
     ·have tE:=h;refine gK ?_;refine bG [2,3,7] [none,none,some 2,some 3] (fun v σ_=>σ_.put (some 7) (.pv (.int .i64 (Int.ofNat v)))) (boxes.length) (fun k=>(∀h:k<boxes.length,nx boxes[k] call∧k<l.length)) ?_;intro v hv hk;refine dC ?_;refine bl.af (fun hd=>?_) (fun hd=>?_)
      ·have aY:v<boxes.length:=by rw[←aD,←ah]at hd;simp at hd;omega
       obtain⟨kD,bh⟩:∃x,boxes[v]=x:=⟨_,rfl⟩
       have bx:aL (Int.ofNat v) bF 9:=by rw[←aP,gN];exact aR (enc:=cE.enc) aY rfl
       obtain⟨⟨mP,eH,gi,gj,dY,gk,jJ,jK,dJ⟩,cK⟩:∃y,kD=y:=⟨_,rfl⟩;subst cK
       have a6:aI bF (Int.ofNat v)=[.int .i64 mP,.str eH,.int .u8 gi,.bool gj,.int .i64 dY,.int .i64 gk,.int .i64 jJ,.int .u8 jK,.bool dJ]:=by rw[←aU,gN,aQ (enc:=cE.enc) aY,bh];rfl
       refine dp ?_;refine ae bx ?_;rw[a6];refine gK ?_;refine im (by cbv) (Bz (x:=boxes[v]) (k:=call) (by rw[bh];rfl) rfl) (fun h=>?_) (fun h=>?_)<;>simp only[decide_eq_true_eq,decide_eq_false_iff_not]at h
       ·have Ja:=h;refine gK ?_;refine bl.af (fun h4=>?_) (fun h4=>?_)
        ·replace h4:=eT h4
         refine dp ?_;refine dm ?_;refine fa hr (fun h'=>?_);have:=h'.2.2.1;omega
        ·replace h4:=eT h4
         have sP:v<l.length:=by omega
         obtain⟨C8,dq⟩:∃x,l[v]=x:=⟨_,rfl⟩
         have dT:aL (Int.ofNat v) rows 4:=by rw[←aP,cq];exact aR (enc:=aT.enc) sP rfl
         obtain⟨⟨tC,⟨nf,jY,jZ⟩⟩,lk⟩:∃y,C8=y:=⟨_,rfl⟩;subst lk
         have cL:aI rows (Int.ofNat v)=[.int .i64 tC,.int .i64 nf,.int .i64 jY,.int .u8 jZ]:=by rw[←aU,cq,aQ (enc:=aT.enc) sP,dq];rfl
         refine dp ?_;refine ae dT ?_;rw[cL];refine gK ?_;refine ae bx ?_;rw[a6];refine gK ?_;refine bl.af (fun h5=>?_) (fun h5=>?_)
         ·replace h5:=eT h5
          refine dp ?_;refine dm ?_;refine fa hr (fun h'=>?_);have:=VV Pd tE h'.2.2.1 v sP aY;rw[bh,dq]at this;exact h5 this
         ·refine dp ?_;refine ai ⟨aY,fun _=>⟨Ja,sP⟩,?_⟩;rw[wS ak aO (v:=v) (by omega)]
          cbv
       ·refine gK ?_
        repeat' (first|refine rQ ?_|refine bl.af (fun hc=>?_) (fun hc=>?_))
        refine dm ?_;exact fa hr (fun h'=>h (h'.2.2.2.2.2 v aY))
      ·have aY:v=boxes.length:=by rw[←aD,←ah]at hd;simp at hd;omega
       refine dp ?_;refine au rfl ?_;refine gK ?_
       repeat' (first|refine rQ ?_|(refine vy (fun hc=>?_) (fun hc=>?_)<;>(try simp at hc)<;>(try(exfalso;omega))))
       all_goals(refine aN ?_)
       ·exact tr hr ⟨by omega,zZ,by omega,Pd,tE,fun i h=>(hk i (by omega) h).1⟩
       ·exact fa hr (fun h'=>by have:=h'.2.2.1;omega)
     ·refine gK ?_;refine aN ?_;exact fa hr (fun h'=>h h'.2.2.2.2.1)
   ·refine gK ?_;refine aN ?_;exact fa hr (fun h'=>h ⟨h'.2.1,by omega,by omega⟩)
end Go.bW
end
section
open Go Go.Am Go.Proofs
namespace Go.bW
theorem dK {B:Nat} {k:IntKind} {ss:List Sh} {ps:List PV} (h:ki B (.i k::ss) ps):∃n r,ps=.int k n::r∧(Lit.int k n).wf=true∧ki B ss r:=by
 simp only[ki,Mg]at h;obtain⟨p,r,rfl,⟨n,rfl,hn⟩,h⟩:=h;exact⟨n,r,rfl,hn,h⟩
theorem EU {B:Nat} {ss:List Sh} {ps:List PV} (h:ki B (.b::ss) ps):∃n r,ps=.bool n::r∧ki B ss r:=by
 simp only[ki,Mg]at h;obtain⟨p,r,rfl,⟨n,rfl⟩,h⟩:=h;exact⟨n,r,rfl,h⟩
theorem R8 {B:Nat} {ss:List Sh} {ps:List PV} (h:ki B (.s::ss) ps):∃n r,ps=.str n::r∧n.length≤B∧ki B ss r:=by
 simp only[ki,Mg]at h;obtain⟨p,r,rfl,⟨n,rfl,hn⟩,h⟩:=h;exact⟨n,r,rfl,hn,h⟩
theorem yX {B:Nat} {row ss:List Sh} {ps:List PV} (h:ki B (.l row::ss) ps):∃rows sp r,ps=.sl rows sp::r∧rows.length≤B∧(∀x∈rows,ki B row x)∧ki B ss r:=by
 simp only[ki,Mg]at h;obtain⟨p,r,rfl,⟨rows,sp,rfl,h1,h2,h3⟩,h⟩:=h;exact⟨rows,sp,r,rfl,by omega,h2,h⟩
theorem tD {B:Nat} {ps:List PV} (h:ki B [] ps):ps=[]:=by simpa only[ki]using h
theorem rowsOf {B:Nat} {sh:List Sh} {α:Type} {enc:α→List PV} {Q:α→Prop} (h:∀ps,ki B sh ps→∃x,ps=enc x∧Q x):∀{rows:List (List PV)},(∀r∈rows,ki B sh r)→∃l:List α,rows=l.map enc∧∀x∈l,Q x
 |[],_=>⟨[],rfl,fun _ hx=>by cases hx⟩
 |r::rows,hr=>by
  obtain⟨x,rfl,hx⟩:=h r (hr r (by simp));obtain⟨l,rfl,hl⟩:=rowsOf h (rows:=rows) (fun y hy=>hr y (by simp[hy]))
  exact⟨x::l,rfl,fun y hy=>by
   rcases List.mem_cons.1 hy with rfl|hy
   ·exact hx
   ·exact hl y hy⟩
theorem EV {B:Nat} {rows:List (List PV)} (h:∀r∈rows,ki B [.i .i64] r):∃l:List Int,rows=ints l:=by
 obtain⟨l,rfl,-⟩:=rowsOf (enc:=fun p:Int=>[PV.int .i64 p]) (Q:=fun _=>True) (fun ps h=>by
  obtain⟨n,r,rfl,-,h⟩:=dK h;obtain rfl:=tD h
  exact⟨n,rfl,trivial⟩) h
 exact⟨l,rfl⟩
abbrev oo:Sh:=.i .i64
abbrev R9:List Sh:=[oo,oo,.b,oo,oo,oo,oo,oo,.l [oo],oo,oo,oo]
abbrev Sa:List Sh:=[oo,.l [oo]]
abbrev KJ:List Sh:=[oo,oo,oo,oo,oo]
abbrev KK:List Sh:=[oo,oo,oo,oo,oo,.l [oo]]
abbrev Sb:List Sh:=[oo,.s,.i .u8,.b,oo,oo,oo,.i .u8,.b]
abbrev KL:List Sh:=[oo,oo,oo,.i .u8]
abbrev EW:List Sh:=[.l R9,.l Sa,oo,oo,oo,oo,.l KJ,.l KJ,.l KK,oo,oo,oo,oo]
abbrev Bv:List Sh:=[oo,.s,.l Sb,.l KL]
theorem qq {n:Int} (h:(Lit.int .i64 n).wf=true):Je n:=by
 simp only[Lit.wf,Bool.and_eq_true,decide_eq_true_eq]at h
 have h1:IntKind.i64.min= -9223372036854775808:=by rfl
 have h2:IntKind.i64.max=9223372036854775807:=by rfl
 rw[h1,h2]at h;unfold Je;omega
theorem KM {n:Int} (h:(Lit.int .u8 n).wf=true):0≤n∧n<256:=by
 simp only[Lit.wf,Bool.and_eq_true,decide_eq_true_eq]at h
 have h1:IntKind.u8.min=0:=by rfl
 have h2:IntKind.u8.max=255:=by rfl
 rw[h1,h2]at h;omega
theorem aar {B:Nat} {ps:List PV} (h:ki B R9 ps):∃x:aM,ps=x.enc∧x.b9.length≤B:=by
 obtain⟨n1,_,rfl,-,h⟩:=dK h;obtain⟨n2,_,rfl,-,h⟩:=dK h;obtain⟨n3,_,rfl,hq3⟩:=EU h
 replace h:=hq3
 obtain⟨n4,_,rfl,-,h⟩:=dK h;obtain⟨n5,_,rfl,-,h⟩:=dK h;obtain⟨n6,_,rfl,-,h⟩:=dK h;obtain⟨n7,_,rfl,-,h⟩:=dK h;obtain⟨n8,_,rfl,-,h⟩:=dK h;obtain⟨rows,sp,_,rfl,hb,hr,h⟩:=yX h;obtain⟨n9,_,rfl,-,h⟩:=dK h;obtain⟨n10,_,rfl,-,h⟩:=dK h;obtain⟨n11,_,rfl,-,h⟩:=dK h;obtain rfl:=tD h;obtain⟨l,rfl⟩:=EV hr;exact⟨⟨n1,n2,n3,n4,n5,n6,n7,n8,l,sp,n9,n10,n11⟩,rfl,by simpa[ints]using hb⟩
theorem aas {B:Nat} {ps:List PV} (h:ki B Sa ps):∃x:bq,ps=x.enc∧x.rows.length≤B:=by
 obtain⟨n1,_,rfl,-,h⟩:=dK h;obtain⟨rows,sp,_,rfl,hb,hr,h⟩:=yX h;obtain rfl:=tD h;obtain⟨l,rfl⟩:=EV hr;exact⟨⟨n1,l,sp⟩,rfl,by simpa[ints]using hb⟩
theorem rowOf {B:Nat} {ps:List PV} (h:ki B KJ ps):∃x:Row,ps=x.enc∧True:=by
 obtain⟨n1,_,rfl,-,h⟩:=dK h;obtain⟨n2,_,rfl,-,h⟩:=dK h;obtain⟨n3,_,rfl,-,h⟩:=dK h;obtain⟨n4,_,rfl,-,h⟩:=dK h;obtain⟨n5,_,rfl,-,h⟩:=dK h;obtain rfl:=tD h;exact⟨⟨n1,n2,n3,n4,n5⟩,rfl,trivial⟩
theorem Vx {B:Nat} {ps:List PV} (h:ki B KK ps):∃x:eb,ps=x.enc∧x.steps.length≤B:=by
 obtain⟨n1,_,rfl,-,h⟩:=dK h;obtain⟨n2,_,rfl,-,h⟩:=dK h;obtain⟨n3,_,rfl,-,h⟩:=dK h;obtain⟨n4,_,rfl,-,h⟩:=dK h;obtain⟨n5,_,rfl,-,h⟩:=dK h;obtain⟨rows,sp,_,rfl,hb,hr,h⟩:=yX h;obtain rfl:=tD h;obtain⟨l,rfl⟩:=EV hr;exact⟨⟨n1,n2,n3,n4,n5,l,sp⟩,rfl,by simpa[ints]using hb⟩
theorem aau {B:Nat} {ps:List PV} (h:ki B Sb ps):∃x:cE,ps=x.enc∧mw x:=by
 obtain⟨n1,_,rfl,w1,h⟩:=dK h;obtain⟨n2,_,rfl,-,h⟩:=R8 h;obtain⟨n3,_,rfl,w3,h⟩:=dK h;obtain⟨n4,_,rfl,hq4⟩:=EU h
 replace h:=hq4
 obtain⟨n5,_,rfl,w5,h⟩:=dK h;obtain⟨n6,_,rfl,w6,h⟩:=dK h;obtain⟨n7,_,rfl,w7,h⟩:=dK h;obtain⟨n8,_,rfl,w8,h⟩:=dK h;obtain⟨n9,_,rfl,hq9⟩:=EU h
 replace h:=hq9
 obtain rfl:=tD h;exact⟨⟨n1,n2,n3,n4,n5,n6,n7,n8,n9⟩,rfl,KM w3,KM w8,qq w1,qq w5,qq w6,qq w7⟩
theorem Vy {B:Nat} {ps:List PV} (h:ki B KL ps):∃x:aT,ps=x.enc∧kF x:=by
 obtain⟨n1,_,rfl,w1,h⟩:=dK h;obtain⟨n2,_,rfl,w2,h⟩:=dK h;obtain⟨n3,_,rfl,w3,h⟩:=dK h;obtain⟨n4,_,rfl,w4,h⟩:=dK h;obtain rfl:=tD h;exact⟨⟨n1,⟨n2,n3,n4⟩⟩,rfl,qq w1,qq w2,qq w3,KM w4⟩
theorem Vz {ps:List PV} (h:ki 1048576 EW ps):∃(c csp vv vsp r rsp f fsp t tsp:List (List PV)) (l1 l2 l3 l4 m1 m2 m3 m4:Int) (cl:List aM) (vl:List bq) (rl fl:List Row) (tl:List eb),
  ps=[.sl c csp,.sl vv vsp,.int .i64 l1,.int .i64 l2,.int .i64 l3,.int .i64 l4,.sl r rsp,.sl f fsp,.sl t tsp,.int .i64 m1,.int .i64 m2,.int .i64 m3,.int .i64 m4]∧xK c vv r f t cl vl rl fl tl:=by
 obtain⟨c,csp,_,rfl,bc,hc,h⟩:=yX h;obtain⟨vv,vsp,_,rfl,bv,hv,h⟩:=yX h;obtain⟨l1,_,rfl,-,h⟩:=dK h;obtain⟨l2,_,rfl,-,h⟩:=dK h;obtain⟨l3,_,rfl,-,h⟩:=dK h;obtain⟨l4,_,rfl,-,h⟩:=dK h;obtain⟨r,rsp,_,rfl,br,hr,h⟩:=yX h;obtain⟨f,fsp,_,rfl,bf,hf,h⟩:=yX h;obtain⟨t,tsp,_,rfl,bt,ht,h⟩:=yX h;obtain⟨m1,_,rfl,-,h⟩:=dK h;obtain⟨m2,_,rfl,-,h⟩:=dK h;obtain⟨m3,_,rfl,-,h⟩:=dK h;obtain⟨m4,_,rfl,-,h⟩:=dK h;obtain rfl:=tD h
 obtain⟨cl,rfl,gE⟩:=rowsOf (fun ps=>aar) hc;obtain⟨vl,rfl,sP⟩:=rowsOf (fun ps=>aas) hv;obtain⟨rl,rfl,-⟩:=rowsOf (fun ps=>rowOf) hr;obtain⟨fl,rfl,-⟩:=rowsOf (fun ps=>rowOf) hf;obtain⟨tl,rfl,YJ⟩:=rowsOf (fun ps=>Vx) ht;simp only[List.length_map]at bc bv br bf bt
 exact⟨_,csp,_,vsp,_,rsp,_,fsp,_,tsp,l1,l2,l3,l4,m1,m2,m3,m4,cl,vl,rl,fl,tl,rfl,rfl,rfl,rfl,rfl,rfl,by omega,by omega,by omega,by omega,by omega,
  fun x hx=>by have:=gE x hx;omega,fun x hx=>by have:=sP x hx;omega,fun x hx=>by have:=YJ x hx;omega⟩
theorem OE {ps:List PV} (h:ki 1048576 Bv ps):∃(call:Int) (port:List UInt8) (bF bsp rows sp:List (List PV)) (boxes:List cE) (l:List aT),
  ps=[.int .i64 call,.str port,.sl bF bsp,.sl rows sp]∧Je call∧bF=boxes.map cE.enc∧rows=l.map aT.enc∧(∀b∈boxes,mw b)∧(∀x∈l,kF x):=by
 obtain⟨call,_,rfl,w1,h⟩:=dK h;obtain⟨port,_,rfl,-,h⟩:=R8 h;obtain⟨bF,bsp,_,rfl,bb,hb,h⟩:=yX h;obtain⟨rows,sp,_,rfl,br,hr,h⟩:=yX h;obtain rfl:=tD h;obtain⟨boxes,rfl,hbx⟩:=rowsOf (fun ps=>aau) hb;obtain⟨l,rfl,hl⟩:=rowsOf (fun ps=>Vy) hr;exact⟨call,port,_,bsp,_,sp,boxes,l,rfl,qq w1,rfl,rfl,hbx,hl⟩
end Go.bW
end
section
open Go Go.Am Go.Proofs
attribute [local irreducible] Am.bl.holds bA fw bC dv
namespace Go.bW
variable {mx:Int}
open Classical
theorem VC {rows sp bF bsp RM BM:List (List PV)} {l:List aT} {boxes:List cE} {call:Int} {port:List UInt8} (cq:rows=l.map aT.enc) (gN:bF=boxes.map cE.enc) (hl:l.length<2^32) (ph:boxes.length<2^32) (Sz:RM=((List.range 12).map aT.mark).map aT.enc) (SA:BM=((List.range 12).map cE.mark).map cE.enc):
  pC mx 47 [.agg [.int .i64 call,.str port,.sl bF bsp,.sl rows sp]] (.agg [.int .i64 call,.str port,.sl bF BM,.sl rows RM]):=by
 refine pZ Vs ?_
 iterate 129 intro _
 intro aB aV aW bp bu ah aD;refine gK ?_;refine ao (by cbv) (show ar _ _ _ [.sl bF bsp] (.sl bF BM) by rw[SA];exact Bf gN ph) (fun h=>by first|rfl|cases h) ?_;refine gK ?_;refine ao (by cbv) (show ar _ _ _ [.sl rows sp] (.sl rows RM) by rw[Sz];exact xE cq hl) (fun h=>by first|rfl|cases h) ?_;refine gK ?_;refine aN ?_;rfl
theorem O1 {rows sp xB bF bsp bsp':List (List PV)} {l:List aT} {boxes:List cE} {call:Int} {port:List UInt8} (cq:rows=l.map aT.enc) (gN:bF=boxes.map cE.enc) (hl:l.length<2^32) (ph:boxes.length<2^32):
  pC mx 23 [.agg [.int .i64 call,.str port,.sl bF bsp,.sl rows sp],.agg [.int .i64 call,.str port,.sl bF bsp',.sl rows xB]] (.bool true):=by
 refine pZ Kx ?_
 iterate 129 intro _
 intro aB aV aW bp bu ah aD;refine gK ?_;refine zhT ?_;refine dp ?_;refine zhT ?_;refine dp ?_;refine an (by cbv) (Bg gN ph) (fun h=>by first|rfl|cases h) ?_;refine gK ?_;refine an (by cbv) (xF cq hl) (fun h=>by first|rfl|cases h) ?_;refine gK ?_;refine aN ?_;rfl
theorem O2 {rows sp bF bsp RM BM:List (List PV)} {l:List aT} {boxes:List cE} {call:Int} {port:List UInt8} (cq:rows=l.map aT.enc) (gN:bF=boxes.map cE.enc) (hl:l.length<2^32) (ph:boxes.length<2^32) (Sz:RM=((List.range 12).map aT.mark).map aT.enc) (SA:BM=((List.range 12).map cE.mark).map cE.enc):
  pC mx 50 [.agg [.int .i64 call,.str port,.sl bF BM,.sl rows RM],.agg [.int .i64 call,.str port,.sl bF bsp,.sl rows sp]] (.bool true):=by
 refine pZ Vr ?_
 iterate 129 intro _
 intro aB aV aW bp bu ah aD;refine gK ?_;refine an (by cbv) (O1 cq gN hl ph) (fun h=>by first|rfl|cases h) ?_;refine gK ?_;refine an (by cbv) (Bh gN SA ph) (fun h=>by first|rfl|cases h) ?_;refine gK ?_;refine an (by cbv) (xG cq Sz hl) (fun h=>by first|rfl|cases h) ?_;refine gK ?_;refine aN ?_;rfl
def Few (c:List aM) (v:List bq) (boxes:List cE) (l:List aT):Prop:=(c.length≤20∧v.length≤20∧boxes.length≤40∧l.length≤30)∧(∀i,(h:i<c.length)→c[i].b9.length≤12∧c[i].dk≤12)∧∀i,(h:i<v.length)→v[i].rows.length≤40
theorem VD {c csp vv vsp r rsp f fsp t tsp:List (List PV)} {l1 l2 l3 l4 m1 m2 m3 m4:Int} {rows sp bF bsp:List (List PV)} {cl:List aM} {vl:List bq} {l:List aT} {boxes:List cE} {res:Bool} (ff:c=cl.map aM.enc) (lU:vv=vl.map bq.enc) (cq:rows=l.map aT.enc) (gN:bF=boxes.map cE.enc) (hr:res=decide (Few cl vl boxes l)):
  pC mx 11 [.agg [.sl c csp,.sl vv vsp,.int .i64 l1,.int .i64 l2,.int .i64 l3,.int .i64 l4,.sl r rsp,.sl f fsp,.sl t tsp,.int .i64 m1,.int .i64 m2,.int .i64 m3,.int .i64 m4],.sl bF bsp,.sl rows sp] (.bool res):=by
 have R6:c.length=cl.length:=by simp[ff]
 have KE:vv.length=vl.length:=by simp[lU]
 have zX:rows.length=l.length:=by simp[cq]
 have GP:bF.length=boxes.length:=by simp[gN]
 refine pZ VB ?_
 iterate 122 intro _
 intro aO _ ak aI aU aL aP aB aV aW bp bu ah aD;refine gK ?_
 repeat' (first|refine rQ ?_|(refine vy (fun hc=>?_) (fun hc=>?_)<;>(try simp at hc)<;>(try(exfalso;omega))))
 all_goals try(refine aN ?_;exact fa hr (fun h=>by have:=h.1;omega))
 have uD:cl.length≤20∧vl.length≤20∧boxes.length≤40∧l.length≤30:=by omega
 refine bG [3,32,33,34] (nn [3,3]) (fun v σ_=>σ_.put (some 34) (.pv (.int .i64 (Int.ofNat v)))) (cl.length) (fun k=>(∀h:k<cl.length,cl[k].b9.length≤12∧cl[k].dk≤12)) ?_;intro v hv hk;refine dC ?_;refine bl.af (fun hd=>?_) (fun hd=>?_)
 ·have aY:v<cl.length:=by rw[←aD,←ah]at hd;simp at hd;omega
  obtain⟨kD,bh⟩:∃x,cl[v]=x:=⟨_,rfl⟩
  have bx:aL (Int.ofNat v) c 12:=by rw[←aP,ff];exact aR (enc:=aM.enc) aY rfl
  obtain⟨⟨cZ,gM,eh,dM,dz,jd,je,fP,cP,jf,ny,nA,nB⟩,cK⟩:∃y,kD=y:=⟨_,rfl⟩;subst cK
  have a6:aI c (Int.ofNat v)=[.int .i64 cZ,.int .i64 gM,.bool eh,.int .i64 dM,.int .i64 dz,.int .i64 jd,.int .i64 je,.int .i64 fP,.sl (ints cP) jf,.int .i64 ny,.int .i64 nA,.int .i64 nB]:=by rw[←aU,ff,aQ (enc:=aM.enc) aY,bh];rfl
  obtain⟨wh,gh⟩:∃p,p=ints cP:=⟨_,rfl⟩
  have zn:wh.length=cP.length:=by simp[gh,ints]
  rw[←gh]at a6
  have bad:¬(cP.length≤12∧dM≤12)→¬Few cl vl boxes l:=fun h h'=>h (by have:=h'.2.1 v aY;rw[bh]at this;exact this)
  refine dp ?_;refine ae bx ?_;rw[a6];refine gK ?_
  repeat' (first|refine rQ ?_|(refine vy (fun hc=>?_) (fun hc=>?_)<;>(try simp at hc)<;>(try(exfalso;omega))))
  all_goals first
   |(refine dm ?_;exact fa hr (bad (by omega)))
   |(refine ai ⟨aY,fun _=>by rw[bh];dsimp only;omega,?_⟩
     rw[wS ak aO (v:=v) (by omega)]
     cbv)
 ·have aY:v=cl.length:=by rw[←aD,←ah]at hd;simp at hd;omega
  have Da:∀i,(h:i<cl.length)→cl[i].b9.length≤12∧cl[i].dk≤12:=fun i h=>hk i (by omega) h
  refine dp ?_;refine au rfl ?_;refine gK ?_;refine bG [3,49,50,51] (nn [3,3]) (fun v σ_=>σ_.put (some 51) (.pv (.int .i64 (Int.ofNat v)))) (vl.length) (fun k=>(∀h:k<vl.length,vl[k].rows.length≤40)) ?_;intro v hv hk;refine dC ?_;refine bl.af (fun ru=>?_) (fun ru=>?_)
  ·have gu:v<vl.length:=by rw[←aD,←ah]at ru;simp at ru;omega
   obtain⟨kD,bh⟩:∃x,vl[v]=x:=⟨_,rfl⟩
   have bx:aL (Int.ofNat v) vv 2:=by rw[←aP,lU];exact aR (enc:=bq.enc) gu rfl
   obtain⟨⟨cZ,c8,pg⟩,cK⟩:∃y,kD=y:=⟨_,rfl⟩;subst cK
   have a6:aI vv (Int.ofNat v)=[.int .i64 cZ,.sl (ints c8) pg]:=by rw[←aU,lU,aQ (enc:=bq.enc) gu,bh];rfl
   obtain⟨wh,gh⟩:∃p,p=ints c8:=⟨_,rfl⟩
   have zn:wh.length=c8.length:=by simp[gh,ints]
   rw[←gh]at a6
   have bad:¬(c8.length≤40)→¬Few cl vl boxes l:=fun h h'=>h (by have:=h'.2.2 v gu;rw[bh]at this;exact this)
   refine dp ?_;refine ae bx ?_;rw[a6];refine gK ?_;refine bl.af (fun h4=>?_) (fun h4=>?_)
   ·replace h4:=eT h4
    refine dp ?_;refine dm ?_;exact fa hr (bad (by omega))
   ·replace h4:=eT h4
    refine dp ?_;refine ai ⟨gu,fun _=>by rw[bh];dsimp only;omega,?_⟩;rw[wS ak aO (v:=v) (by omega)]
    cbv
  ·have gu:v=vl.length:=by rw[←aD,←ah]at ru;simp at ru;omega
   refine dp ?_;refine au rfl ?_;refine gK ?_;refine aN ?_;exact tr hr ⟨uD,Da,fun i h=>hk i (by omega) h⟩
end Go.bW
end
section
open Go Go.Am Go.Proofs
attribute [local irreducible] Am.bl.holds bA fw bC dv
namespace Go.bW
variable {mx:Int}
open Classical
def fo (tag:List UInt8) (l:List (List UInt8)):List PV:=[.str tag,.sl (l.map fun d=>[.sl [eK d] []]) []]
abbrev Raw:=List UInt8×List (List UInt8)
def bT (x:Raw):List PV:=fo x.1 x.2
noncomputable def iS (c:List aM) (v:List bq) (b:cE) (x:aT):List Raw:=
 [([76,79,67],[(fG c v x.slot).1]),([69,81,68],[digits b.id.toNat,b.number,(gH b).1]),([77,69,65],[digits b.ca.toNat]),([82,70,70],[digits b.load.toNat,digits b.discharge.toNat])]++
  (if 0<b.cls then [([68,71,83],[digits b.cls.toNat])]else [])
noncomputable def du (c:List aM) (v:List bq) (call:Int) (port:List UInt8) (boxes:List cE) (l:List aT):Nat→List Raw
 |0=>[([86,79,89],[digits call.toNat,port])]
 |n+1=>du c v call port boxes l n++(match boxes[n]?,l[n]? with|some b,some x=>iS c v b x|_,_=>[])
theorem e7 {c:List aM} {v:List bq} {call:Int} {port:List UInt8} {boxes:List cE} {l:List aT}:∀{n:Nat},(du c v call port boxes l n).length≤1+5*n
 |0=>by simp[du]
 |n+1=>by
  have:=e7 (c:=c) (v:=v) (call:=call) (port:=port) (boxes:=boxes) (l:=l) (n:=n);simp only[du,List.length_append];split
  ·simp only[iS,List.length_append,List.length_cons,List.length_nil];split<;>simp<;>omega
  ·simp;omega
theorem jv {c:List aM} {v:List bq} {call:Int} {port:List UInt8} {boxes:List cE} {l:List aT} {n:Nat} (h:n<boxes.length) (h':n<l.length):du c v call port boxes l (n+1)=du c v call port boxes l n++iS c v boxes[n] l[n]:=by
 simp only[du,List.getElem?_eq_getElem h,List.getElem?_eq_getElem h']
theorem yY {c csp vv vsp r rsp f fsp t tsp:List (List PV)} {l1 l2 l3 l4 m1 m2 m3 m4:Int} {rows sp bF bsp W:List (List PV)} {cl:List aM} {vl:List bq} {l:List aT} {boxes:List cE} {call:Int} {port ref:List UInt8} (ff:c=cl.map aM.enc) (lU:vv=vl.map bq.enc) (mj:cl.length<2^32) (rP:vl.length<2^32) (oc:∀x∈cl,x.b9.length<2^32) (rv:∀x∈vl,x.rows.length<2^32)
  (cq:rows=l.map aT.enc) (gN:bF=boxes.map cE.enc) (hl:l.length<2^20) (ph:boxes.length<2^20) (bL:∀x∈l,kF x) (oC:∀b∈boxes,mw b) (hS:fO cl vl call port boxes l) (hW:W=(du cl vl call port boxes l boxes.length).map bT):
  pC mx 114 [.agg [.sl c csp,.sl vv vsp,.int .i64 l1,.int .i64 l2,.int .i64 l3,.int .i64 l4,.sl r rsp,.sl f fsp,.sl t tsp,.int .i64 m1,.int .i64 m2,.int .i64 m3,.int .i64 m4],.str ref,.agg [.int .i64 call,.str port,.sl bF bsp,.sl rows sp]] (.agg [.str lE,.str ref,.sl W []]):=by
 have zX:rows.length=l.length:=by simp[cq]
 have GP:bF.length=boxes.length:=by simp[gN]
 obtain⟨k,hk⟩:∃k:Nat,call=Int.ofNat k:=⟨call.toNat,by have:=hS.1;simp;omega⟩;obtain⟨lI,zZ,zU,sK,tE,O4⟩:=hS;obtain⟨kd,Io⟩:∃x,x=digits k:=⟨_,rfl⟩;subst hk;refine pZ Om ?_
 iterate 105 intro _
 intro gO
 iterate 10 intro _
 intro bO bs bE _ _ bg aO aw ak aI aU aL aP aB aV aW bp bu ah aD;refine gK ?_;refine ao (by cbv) (cJ k (by have:=lI.2;simp at this;omega) Io) (fun h=>by first|rfl|cases h) ?_;refine gK ?_;refine ao (by cbv) (dU (l:=[kd,port]) rfl rfl (by simp)) (fun h=>by first|rfl|cases h) ?_;refine gK ?_;refine gL ?_;refine dC ?_;refine bl.af (fun h1=>?_) (fun h1=>?_)
 ·have h0:0<boxes.length:=by rw[←aD,←ah]at h1;simp at h1;omega
  obtain⟨kD,bh⟩:∃x,boxes[0]=x:=⟨_,rfl⟩
  have bx:aL (Int.ofNat 0) bF 9:=by rw[←aP,gN];exact aR (enc:=cE.enc) h0 rfl
  obtain⟨⟨mP,eH,gi,gj,dY,gk,jJ,jK,dJ⟩,cK⟩:∃y,kD=y:=⟨_,rfl⟩;subst cK
  have a6:aI bF (Int.ofNat 0)=[.int .i64 mP,.str eH,.int .u8 gi,.bool gj,.int .i64 dY,.int .i64 gk,.int .i64 jJ,.int .u8 jK,.bool dJ]:=by rw[←aU,gN,aQ (enc:=cE.enc) h0,bh];rfl
  have j7:0<l.length:=by omega
  obtain⟨C8,dq⟩:∃x,l[0]=x:=⟨_,rfl⟩
  have dT:aL (Int.ofNat 0) rows 4:=by rw[←aP,cq];exact aR (enc:=aT.enc) j7 rfl
  obtain⟨⟨tC,⟨nf,jY,jZ⟩⟩,lk⟩:∃y,C8=y:=⟨_,rfl⟩;subst lk
  have cL:aI rows (Int.ofNat 0)=[.int .i64 tC,.int .i64 nf,.int .i64 jY,.int .u8 jZ]:=by rw[←aU,cq,aQ (enc:=aT.enc) j7,dq];rfl
  have qv:=(sK.2 0 h0 h0).1;have qw:=bL _ (List.getElem_mem j7);rw[bh]at qv;rw[dq]at qw;obtain⟨⟨xP,qx⟩,-,-,⟨xQ,mz⟩,⟨xR,qy,B9⟩,qz⟩:=qv;dsimp only at xP qx xQ mz xR qy B9 qz;have qA:=oC _ (List.getElem_mem h0);rw[bh]at qA;have xS:=qA.2.1.1;dsimp only at xS
  have Jf:dY≤40000:=by unfold most at mz;(repeat' split at mz)<;>omega
  obtain⟨tF,xT⟩:∃n:Nat,mP=Int.ofNat n:=⟨mP.toNat,by simp;omega⟩;obtain⟨tG,xU⟩:∃n:Nat,dY=Int.ofNat n:=⟨dY.toNat,by simp;omega⟩;obtain⟨tH,xV⟩:∃n:Nat,gk=Int.ofNat n:=⟨gk.toNat,by simp;omega⟩;obtain⟨tI,xW⟩:∃n:Nat,jJ=Int.ofNat n:=⟨jJ.toNat,by simp;omega⟩;obtain⟨od,xX⟩:∃n:Nat,jK=Int.ofNat n:=⟨jK.toNat,by simp;omega⟩;subst xT xU xV xW xX;simp only[Int.ofNat_eq_natCast]at qx Jf qy B9 qz;obtain⟨tid,mA⟩:∃x,x=digits tF:=⟨_,rfl⟩
  obtain⟨xY,mB⟩:∃x,x=digits tG:=⟨_,rfl⟩;obtain⟨xZ,mC⟩:∃x,x=digits tH:=⟨_,rfl⟩;obtain⟨x6,mD⟩:∃x,x=digits tI:=⟨_,rfl⟩;obtain⟨Df,qB⟩:∃x,x=digits od:=⟨_,rfl⟩;obtain⟨⟨nm,e1⟩,sQ⟩:∃x,fG cl vl ⟨nf,jY,jZ⟩=x:=⟨_,rfl⟩;obtain⟨⟨cd,e2⟩,vz⟩:∃x,gH ⟨Int.ofNat tF,eH,gi,gj,Int.ofNat tG,Int.ofNat tH,Int.ofNat tI,Int.ofNat od,dJ⟩=x:=⟨_,rfl⟩;refine dp ?_;refine ae bx ?_;rw[show aI bF 0=_ from a6];refine gK ?_;refine ae dT ?_
  rw[show aI rows 0=_ from cL];refine gK ?_;refine ao (by cbv) (sI (x:=⟨nf,jY,jZ⟩) ff lU mj rP oc rv qw.2.2.2 sQ) (fun h=>by first|rfl|cases h) ?_;refine gK ?_;refine an (by cbv) (sJ (cs:=[.int .i64 (Int.ofNat tF),.str eH,.int .u8 gi,.bool gj,.int .i64 (Int.ofNat tG),.int .i64 (Int.ofNat tH),.int .i64 (Int.ofNat tI),.int .u8 (Int.ofNat od),.bool dJ]) rfl vz) (fun h=>by first|rfl|cases h) ?_;refine gK ?_
  refine ao (by cbv) (dU (l:=[nm]) rfl rfl (by simp)) (fun h=>by first|rfl|cases h) ?_;refine gK ?_;refine ao (by cbv) (cJ tF (by omega) mA) (fun h=>by first|rfl|cases h) ?_;refine gK ?_;refine ao (by cbv) (dU (l:=[tid,eH,cd]) rfl rfl (by simp)) (fun h=>by first|rfl|cases h) ?_;refine gK ?_;refine ao (by cbv) (cJ tG (by omega) mB) (fun h=>by first|rfl|cases h) ?_;refine gK ?_;refine ao (by cbv) (dU (l:=[xY]) rfl rfl (by simp)) (fun h=>by first|rfl|cases h) ?_
  refine gK ?_;refine ao (by cbv) (cJ tH (by omega) mC) (fun h=>by first|rfl|cases h) ?_;refine gK ?_;refine ao (by cbv) (cJ tI (by omega) mD) (fun h=>by first|rfl|cases h) ?_;refine gK ?_;refine ao (by cbv) (dU (l:=[xZ,x6]) rfl rfl (by simp)) (fun h=>by first|rfl|cases h) ?_;refine gK ?_;have eY:=jv (c:=cl) (v:=vl) (call:=Int.ofNat k) (port:=port) (boxes:=boxes) (l:=l) (n:=0) h0 j7;rw[bh,dq]at eY
  obtain⟨z,hz⟩:∃z,z=(du cl vl (Int.ofNat k) port boxes l (0+1)).map bT:=⟨_,rfl⟩;obtain⟨c4,Dg⟩:∃x,x=bs [[.str [86,79,89],.sl [[.sl [[.str kd]] []],[.sl [[.str port]] []]] []]] [[.str [76,79,67],.sl [[.sl [[.str nm]] []]] []],[.str [69,81,68],.sl [[.sl [[.str tid]] []],[.sl [[.str eH]] []],[.sl [[.str cd]] []]] []],[.str [77,69,65],.sl [[.sl [[.str xY]] []]] []],[.str [82,70,70],.sl [[.sl [[.str xZ]] []],[.sl [[.str x6]] []]] []]]:=⟨_,rfl⟩
  have j8:c4=(du cl vl (Int.ofNat k) port boxes l 0).map bT++[[.str [76,79,67],.sl [[.sl [[.str nm]] []]] []],[.str [69,81,68],.sl [[.sl [[.str tid]] []],[.sl [[.str eH]] []],[.sl [[.str cd]] []]] []],[.str [77,69,65],.sl [[.sl [[.str xY]] []]] []],[.str [82,70,70],.sl [[.sl [[.str xZ]] []],[.sl [[.str x6]] []]] []]]:=by rw[Dg,←bE,bK];congr 1;simp[du,bT,fo,eK,Io]
  refine ae ?_ ?_
  ·first|rw[←bO,←gO]|rw[←bO]
   refine⟨?_,by rw[lN];right;simp⟩;rw[cU];exact⟨by simp,by simp,by simp[cr,fr],fun r hr=>by simp at hr;subst hr;rfl⟩
  rw[←Dg];refine gK ?_;refine bl.af (fun gE=>?_) (fun gE=>?_)
  ·replace gE:=eT gE
   refine dp ?_;rw[show aw .i64 (Int.ofNat od)=Int.ofNat od by rw[←ak];simp only[ct];rw[dh]<;>simp<;>omega];refine ao (by cbv) (cJ od (by omega) qB) (fun h=>by first|rfl|cases h) ?_;refine gK ?_;refine ao (by cbv) (dU (l:=[Df]) rfl rfl (by simp)) (fun h=>by first|rfl|cases h) ?_;refine gK ?_;refine ae ?_ ?_
   ·rw[←bO]
    have Dh:c4.length=(du cl vl (Int.ofNat k) port boxes l 0).length+4:=by rw[j8];simp
    have h4n:=e7 (c:=cl) (v:=vl) (call:=Int.ofNat k) (port:=port) (boxes:=boxes) (l:=l) (n:=0);rw[cU]
    exact⟨by rw[Dh];simp only[List.length_cons,List.length_nil];omega,by rw[Dh];simp only[List.length_cons,List.length_nil];omega,by simp[cr,fr],fun r hr=>by
     rw[j8]at hr
     rcases List.mem_append.1 hr with h|h
     ·exact bj (enc:=bT) (n:=2) (fun _=>rfl) _ r h
     ·simp at h
      rcases h with rfl|rfl|rfl|rfl<;>rfl⟩
   rw[show bs c4 [[.str [68,71,83],.sl [[.sl [[.str Df]] []]] []]]=z by
    rw[←bE,bK,hz,j8,eY,List.map_append,List.append_assoc]
    congr 1
    simp only[iS,sQ,vz];rw[if_pos (by simpa using gE)]
    simp[bT,fo,eK,mA,mB,mC,mD,qB]]
   refine gK ?_;refine ai ?_;rw[show aw .i64 (bg 0 1)=Int.ofNat (0+1) by subst_vars;exact fZ (v:=0) (by omega),hz];refine bG [3,5,6,7,8] (nn [3,3,1,5,0,6,0,7,71,79]) (fun v σ_=>σ_.put (some 8) (.pv (.int .i64 (Int.ofNat (v+1))))|>.aC 7 (.cells [.pv (.str [66,65,89,80,76,78]),.pv (.str ref),.dB 79 0])|>.aC 79 (.rows 2 ((du cl vl (Int.ofNat k) port boxes l (v+1)).map bT) 0)) ((boxes.length-1)) (fun k=>True) ?_
   intro v hv hk
   try dsimp only
   generalize hw:v+1=w;generalize cw:(du cl vl (Int.ofNat k) port boxes l w).map bT=cur;refine dC ?_;refine bl.af (fun hd=>?_) (fun hd=>?_)
   ·have aY:w<boxes.length:=by rw[←aD,←ah]at hd;simp at hd;omega
    have E1:=e7 (c:=cl) (v:=vl) (call:=Int.ofNat k) (port:=port) (boxes:=boxes) (l:=l) (n:=w)
    have GQ:cur.length≤1+5*w:=by rw[←cw];simpa using E1
    have sL:aS 2 cur:=by rw[←cw];exact bj (enc:=bT) (fun _=>rfl) _
    obtain⟨O5,gP⟩:∃x,boxes[w]=x:=⟨_,rfl⟩
    have jL:aL (Int.ofNat w) bF 9:=by rw[←aP,gN];exact aR (enc:=cE.enc) aY rfl
    obtain⟨⟨qC,fI,iv,iw,eo,iy,ll,ln,eC⟩,tJ⟩:∃y,O5=y:=⟨_,rfl⟩;subst tJ
    have jx:aI bF (Int.ofNat w)=[.int .i64 qC,.str fI,.int .u8 iv,.bool iw,.int .i64 eo,.int .i64 iy,.int .i64 ll,.int .u8 ln,.bool eC]:=by rw[←aU,gN,aQ (enc:=cE.enc) aY,gP];rfl
    have j7:w<l.length:=by omega
    obtain⟨VJ,mE⟩:∃x,l[w]=x:=⟨_,rfl⟩
    have tK:aL (Int.ofNat w) rows 4:=by rw[←aP,cq];exact aR (enc:=aT.enc) j7 rfl
    obtain⟨⟨x7,⟨mF,jy,jz⟩⟩,x8⟩:∃y,VJ=y:=⟨_,rfl⟩;subst x8
    have oT:aI rows (Int.ofNat w)=[.int .i64 x7,.int .i64 mF,.int .i64 jy,.int .u8 jz]:=by rw[←aU,cq,aQ (enc:=aT.enc) j7,mE];rfl
    have qv:=(sK.2 w aY aY).1;have qw:=bL _ (List.getElem_mem j7);rw[gP]at qv;rw[mE]at qw;obtain⟨⟨xP,qx⟩,-,-,⟨xQ,mz⟩,⟨xR,qy,B9⟩,qz⟩:=qv;dsimp only at xP qx xQ mz xR qy B9 qz;have qA:=oC _ (List.getElem_mem aY);rw[gP]at qA;have xS:=qA.2.1.1;dsimp only at xS
    have Jf:eo≤40000:=by unfold most at mz;(repeat' split at mz)<;>omega
    obtain⟨tF,xT⟩:∃n:Nat,qC=Int.ofNat n:=⟨qC.toNat,by simp;omega⟩;obtain⟨tG,xU⟩:∃n:Nat,eo=Int.ofNat n:=⟨eo.toNat,by simp;omega⟩;obtain⟨tH,xV⟩:∃n:Nat,iy=Int.ofNat n:=⟨iy.toNat,by simp;omega⟩;obtain⟨tI,xW⟩:∃n:Nat,ll=Int.ofNat n:=⟨ll.toNat,by simp;omega⟩;obtain⟨od,xX⟩:∃n:Nat,ln=Int.ofNat n:=⟨ln.toNat,by simp;omega⟩;subst xT xU xV xW xX;simp only[Int.ofNat_eq_natCast]at qx Jf qy B9 qz;obtain⟨tid,mA⟩:∃x,x=digits tF:=⟨_,rfl⟩
    obtain⟨xY,mB⟩:∃x,x=digits tG:=⟨_,rfl⟩;obtain⟨xZ,mC⟩:∃x,x=digits tH:=⟨_,rfl⟩;obtain⟨x6,mD⟩:∃x,x=digits tI:=⟨_,rfl⟩;obtain⟨Df,qB⟩:∃x,x=digits od:=⟨_,rfl⟩;obtain⟨⟨nm,e1⟩,sQ⟩:∃x,fG cl vl ⟨mF,jy,jz⟩=x:=⟨_,rfl⟩;obtain⟨⟨cd,e2⟩,vz⟩:∃x,gH ⟨Int.ofNat tF,fI,iv,iw,Int.ofNat tG,Int.ofNat tH,Int.ofNat tI,Int.ofNat od,eC⟩=x:=⟨_,rfl⟩;refine dp ?_;refine ae jL ?_;rw[jx];refine gK ?_;refine ae tK ?_;rw[oT];refine gK ?_
    refine ao (by cbv) (sI (x:=⟨mF,jy,jz⟩) ff lU mj rP oc rv qw.2.2.2 sQ) (fun h=>by first|rfl|cases h) ?_;refine gK ?_;refine an (by cbv) (sJ (cs:=[.int .i64 (Int.ofNat tF),.str fI,.int .u8 iv,.bool iw,.int .i64 (Int.ofNat tG),.int .i64 (Int.ofNat tH),.int .i64 (Int.ofNat tI),.int .u8 (Int.ofNat od),.bool eC]) rfl vz) (fun h=>by first|rfl|cases h) ?_;refine gK ?_;refine ao (by cbv) (dU (l:=[nm]) rfl rfl (by simp)) (fun h=>by first|rfl|cases h) ?_
    refine gK ?_;refine ao (by cbv) (cJ tF (by omega) mA) (fun h=>by first|rfl|cases h) ?_;refine gK ?_;refine ao (by cbv) (dU (l:=[tid,fI,cd]) rfl rfl (by simp)) (fun h=>by first|rfl|cases h) ?_;refine gK ?_;refine ao (by cbv) (cJ tG (by omega) mB) (fun h=>by first|rfl|cases h) ?_;refine gK ?_;refine ao (by cbv) (dU (l:=[xY]) rfl rfl (by simp)) (fun h=>by first|rfl|cases h) ?_;refine gK ?_;refine ao (by cbv) (cJ tH (by omega) mC) (fun h=>by first|rfl|cases h) ?_
    refine gK ?_;refine ao (by cbv) (cJ tI (by omega) mD) (fun h=>by first|rfl|cases h) ?_;refine gK ?_;refine ao (by cbv) (dU (l:=[xZ,x6]) rfl rfl (by simp)) (fun h=>by first|rfl|cases h) ?_;refine gK ?_;have eY:=jv (c:=cl) (v:=vl) (call:=Int.ofNat k) (port:=port) (boxes:=boxes) (l:=l) (n:=w) aY j7;rw[gP,mE]at eY;obtain⟨z,hz⟩:∃z,z=(du cl vl (Int.ofNat k) port boxes l (w+1)).map bT:=⟨_,rfl⟩;obtain⟨c4,Dg⟩:∃x,x=bs cur [[.str [76,79,67],.sl [[.sl [[.str nm]] []]] []],[.str [69,81,68],.sl [[.sl [[.str tid]] []],[.sl [[.str fI]] []],[.sl [[.str cd]] []]] []],[.str [77,69,65],.sl [[.sl [[.str xY]] []]] []],[.str [82,70,70],.sl [[.sl [[.str xZ]] []],[.sl [[.str x6]] []]] []]]:=⟨_,rfl⟩
    have j8:c4=(du cl vl (Int.ofNat k) port boxes l w).map bT++[[.str [76,79,67],.sl [[.sl [[.str nm]] []]] []],[.str [69,81,68],.sl [[.sl [[.str tid]] []],[.sl [[.str fI]] []],[.sl [[.str cd]] []]] []],[.str [77,69,65],.sl [[.sl [[.str xY]] []]] []],[.str [82,70,70],.sl [[.sl [[.str xZ]] []],[.sl [[.str x6]] []]] []]]:=by rw[Dg,←bE,bK];rw[←cw]
    refine ae ?_ ?_
    ·first|rw[←bO,←gO]|rw[←bO]
     skip
     rw[cU];exact⟨by simp;omega,by simp;omega,by simp[cr,fr],sL⟩
    rw[←Dg];refine gK ?_;refine bl.af (fun gE=>?_) (fun gE=>?_)
    ·replace gE:=eT gE
     refine dp ?_;rw[show aw .i64 (Int.ofNat od)=Int.ofNat od by rw[←ak];simp only[ct];rw[dh]<;>simp<;>omega];refine ao (by cbv) (cJ od (by omega) qB) (fun h=>by first|rfl|cases h) ?_;refine gK ?_;refine ao (by cbv) (dU (l:=[Df]) rfl rfl (by simp)) (fun h=>by first|rfl|cases h) ?_;refine gK ?_;refine ae ?_ ?_
     ·rw[←bO]
      have Dh:c4.length=(du cl vl (Int.ofNat k) port boxes l w).length+4:=by rw[j8];simp
      have h4n:=e7 (c:=cl) (v:=vl) (call:=Int.ofNat k) (port:=port) (boxes:=boxes) (l:=l) (n:=w);rw[cU]
      exact⟨by rw[Dh];simp only[List.length_cons,List.length_nil];omega,by rw[Dh];simp only[List.length_cons,List.length_nil];omega,by simp[cr,fr],fun r hr=>by
       rw[j8]at hr
       rcases List.mem_append.1 hr with h|h
       ·exact bj (enc:=bT) (n:=2) (fun _=>rfl) _ r h
       ·simp at h
        rcases h with rfl|rfl|rfl|rfl<;>rfl⟩
     rw[show bs c4 [[.str [68,71,83],.sl [[.sl [[.str Df]] []]] []]]=z by
      rw[←bE,bK,hz,j8,eY,List.map_append,List.append_assoc]
      congr 1
      simp only[iS,sQ,vz];rw[if_pos (by simpa using gE)]
      simp[bT,fo,eK,mA,mB,mC,mD,qB]]
     refine gK ?_;refine ai ⟨by omega,trivial,?_⟩;rw[wS ak aO (v:=w) (by omega)];rw[←hz]
     cbv
    ·replace gE:=eT gE
     refine dp ?_
     rw[show c4=z by
      rw[hz,j8,eY,List.map_append]
      congr 1
      simp only[iS,sQ,vz];rw[if_neg (by simpa using gE)]
      simp[bT,fo,eK,mA,mB,mC,mD]]
     refine ai ⟨by omega,trivial,?_⟩;rw[wS ak aO (v:=w) (by omega)];rw[←hz]
     cbv
   ·have aY:boxes.length≤w:=by rw[←aD,←ah]at hd;simp at hd;omega
    have VK:w=boxes.length:=by omega
    refine dp ?_;refine au rfl ?_;refine gK ?_;rw[show cur=W by rw[←cw,hW,VK]];refine aN ?_;rfl
  ·replace gE:=eT gE
   refine dp ?_
   rw[show c4=z by
    rw[hz,j8,eY,List.map_append]
    congr 1
    simp only[iS,sQ,vz];rw[if_neg (by simpa using gE)]
    simp[bT,fo,eK,mA,mB,mC,mD]]
   refine ai ?_;rw[show aw .i64 (bg 0 1)=Int.ofNat (0+1) by subst_vars;exact fZ (v:=0) (by omega),hz];refine bG [3,5,6,7,8] (nn [3,3,1,5,0,6,0,7,71,79]) (fun v σ_=>σ_.put (some 8) (.pv (.int .i64 (Int.ofNat (v+1))))|>.aC 7 (.cells [.pv (.str [66,65,89,80,76,78]),.pv (.str ref),.dB 79 0])|>.aC 79 (.rows 2 ((du cl vl (Int.ofNat k) port boxes l (v+1)).map bT) 0)) ((boxes.length-1)) (fun k=>True) ?_;intro v hv hk
   try dsimp only
   generalize hw:v+1=w;generalize cw:(du cl vl (Int.ofNat k) port boxes l w).map bT=cur;refine dC ?_;refine bl.af (fun hd=>?_) (fun hd=>?_)
   ·have aY:w<boxes.length:=by rw[←aD,←ah]at hd;simp at hd;omega
    have E1:=e7 (c:=cl) (v:=vl) (call:=Int.ofNat k) (port:=port) (boxes:=boxes) (l:=l) (n:=w)
    have GQ:cur.length≤1+5*w:=by rw[←cw];simpa using E1
    have sL:aS 2 cur:=by rw[←cw];exact bj (enc:=bT) (fun _=>rfl) _
    obtain⟨O5,gP⟩:∃x,boxes[w]=x:=⟨_,rfl⟩
    have jL:aL (Int.ofNat w) bF 9:=by rw[←aP,gN];exact aR (enc:=cE.enc) aY rfl
    obtain⟨⟨qC,fI,iv,iw,eo,iy,ll,ln,eC⟩,tJ⟩:∃y,O5=y:=⟨_,rfl⟩;subst tJ
    have jx:aI bF (Int.ofNat w)=[.int .i64 qC,.str fI,.int .u8 iv,.bool iw,.int .i64 eo,.int .i64 iy,.int .i64 ll,.int .u8 ln,.bool eC]:=by rw[←aU,gN,aQ (enc:=cE.enc) aY,gP];rfl
    have j7:w<l.length:=by omega
    obtain⟨VJ,mE⟩:∃x,l[w]=x:=⟨_,rfl⟩
    have tK:aL (Int.ofNat w) rows 4:=by rw[←aP,cq];exact aR (enc:=aT.enc) j7 rfl
    obtain⟨⟨x7,⟨mF,jy,jz⟩⟩,x8⟩:∃y,VJ=y:=⟨_,rfl⟩;subst x8
    have oT:aI rows (Int.ofNat w)=[.int .i64 x7,.int .i64 mF,.int .i64 jy,.int .u8 jz]:=by rw[←aU,cq,aQ (enc:=aT.enc) j7,mE];rfl
    have qv:=(sK.2 w aY aY).1;have qw:=bL _ (List.getElem_mem j7);rw[gP]at qv;rw[mE]at qw;obtain⟨⟨xP,qx⟩,-,-,⟨xQ,mz⟩,⟨xR,qy,B9⟩,qz⟩:=qv;dsimp only at xP qx xQ mz xR qy B9 qz;have qA:=oC _ (List.getElem_mem aY);rw[gP]at qA;have xS:=qA.2.1.1;dsimp only at xS
    have Jf:eo≤40000:=by unfold most at mz;(repeat' split at mz)<;>omega
    obtain⟨tF,xT⟩:∃n:Nat,qC=Int.ofNat n:=⟨qC.toNat,by simp;omega⟩;obtain⟨tG,xU⟩:∃n:Nat,eo=Int.ofNat n:=⟨eo.toNat,by simp;omega⟩;obtain⟨tH,xV⟩:∃n:Nat,iy=Int.ofNat n:=⟨iy.toNat,by simp;omega⟩;obtain⟨tI,xW⟩:∃n:Nat,ll=Int.ofNat n:=⟨ll.toNat,by simp;omega⟩;obtain⟨od,xX⟩:∃n:Nat,ln=Int.ofNat n:=⟨ln.toNat,by simp;omega⟩;subst xT xU xV xW xX;simp only[Int.ofNat_eq_natCast]at qx Jf qy B9 qz;obtain⟨tid,mA⟩:∃x,x=digits tF:=⟨_,rfl⟩
    obtain⟨xY,mB⟩:∃x,x=digits tG:=⟨_,rfl⟩;obtain⟨xZ,mC⟩:∃x,x=digits tH:=⟨_,rfl⟩;obtain⟨x6,mD⟩:∃x,x=digits tI:=⟨_,rfl⟩;obtain⟨Df,qB⟩:∃x,x=digits od:=⟨_,rfl⟩;obtain⟨⟨nm,e1⟩,sQ⟩:∃x,fG cl vl ⟨mF,jy,jz⟩=x:=⟨_,rfl⟩;obtain⟨⟨cd,e2⟩,vz⟩:∃x,gH ⟨Int.ofNat tF,fI,iv,iw,Int.ofNat tG,Int.ofNat tH,Int.ofNat tI,Int.ofNat od,eC⟩=x:=⟨_,rfl⟩;refine dp ?_;refine ae jL ?_;rw[jx];refine gK ?_;refine ae tK ?_;rw[oT];refine gK ?_
    refine ao (by cbv) (sI (x:=⟨mF,jy,jz⟩) ff lU mj rP oc rv qw.2.2.2 sQ) (fun h=>by first|rfl|cases h) ?_;refine gK ?_;refine an (by cbv) (sJ (cs:=[.int .i64 (Int.ofNat tF),.str fI,.int .u8 iv,.bool iw,.int .i64 (Int.ofNat tG),.int .i64 (Int.ofNat tH),.int .i64 (Int.ofNat tI),.int .u8 (Int.ofNat od),.bool eC]) rfl vz) (fun h=>by first|rfl|cases h) ?_;refine gK ?_;refine ao (by cbv) (dU (l:=[nm]) rfl rfl (by simp)) (fun h=>by first|rfl|cases h) ?_
    refine gK ?_;refine ao (by cbv) (cJ tF (by omega) mA) (fun h=>by first|rfl|cases h) ?_;refine gK ?_;refine ao (by cbv) (dU (l:=[tid,fI,cd]) rfl rfl (by simp)) (fun h=>by first|rfl|cases h) ?_;refine gK ?_;refine ao (by cbv) (cJ tG (by omega) mB) (fun h=>by first|rfl|cases h) ?_;refine gK ?_;refine ao (by cbv) (dU (l:=[xY]) rfl rfl (by simp)) (fun h=>by first|rfl|cases h) ?_;refine gK ?_;refine ao (by cbv) (cJ tH (by omega) mC) (fun h=>by first|rfl|cases h) ?_
    refine gK ?_;refine ao (by cbv) (cJ tI (by omega) mD) (fun h=>by first|rfl|cases h) ?_;refine gK ?_;refine ao (by cbv) (dU (l:=[xZ,x6]) rfl rfl (by simp)) (fun h=>by first|rfl|cases h) ?_;refine gK ?_;have eY:=jv (c:=cl) (v:=vl) (call:=Int.ofNat k) (port:=port) (boxes:=boxes) (l:=l) (n:=w) aY j7;rw[gP,mE]at eY;obtain⟨z,hz⟩:∃z,z=(du cl vl (Int.ofNat k) port boxes l (w+1)).map bT:=⟨_,rfl⟩;obtain⟨c4,Dg⟩:∃x,x=bs cur [[.str [76,79,67],.sl [[.sl [[.str nm]] []]] []],[.str [69,81,68],.sl [[.sl [[.str tid]] []],[.sl [[.str fI]] []],[.sl [[.str cd]] []]] []],[.str [77,69,65],.sl [[.sl [[.str xY]] []]] []],[.str [82,70,70],.sl [[.sl [[.str xZ]] []],[.sl [[.str x6]] []]] []]]:=⟨_,rfl⟩
    have j8:c4=(du cl vl (Int.ofNat k) port boxes l w).map bT++[[.str [76,79,67],.sl [[.sl [[.str nm]] []]] []],[.str [69,81,68],.sl [[.sl [[.str tid]] []],[.sl [[.str fI]] []],[.sl [[.str cd]] []]] []],[.str [77,69,65],.sl [[.sl [[.str xY]] []]] []],[.str [82,70,70],.sl [[.sl [[.str xZ]] []],[.sl [[.str x6]] []]] []]]:=by rw[Dg,←bE,bK];rw[←cw]
    refine ae ?_ ?_
    ·first|rw[←bO,←gO]|rw[←bO]
     skip
     rw[cU];exact⟨by simp;omega,by simp;omega,by simp[cr,fr],sL⟩
    rw[←Dg];refine gK ?_;refine bl.af (fun gE=>?_) (fun gE=>?_)
    ·replace gE:=eT gE
     refine dp ?_;rw[show aw .i64 (Int.ofNat od)=Int.ofNat od by rw[←ak];simp only[ct];rw[dh]<;>simp<;>omega];refine ao (by cbv) (cJ od (by omega) qB) (fun h=>by first|rfl|cases h) ?_;refine gK ?_;refine ao (by cbv) (dU (l:=[Df]) rfl rfl (by simp)) (fun h=>by first|rfl|cases h) ?_;refine gK ?_;refine ae ?_ ?_
     ·rw[←bO]
      have Dh:c4.length=(du cl vl (Int.ofNat k) port boxes l w).length+4:=by rw[j8];simp
      have h4n:=e7 (c:=cl) (v:=vl) (call:=Int.ofNat k) (port:=port) (boxes:=boxes) (l:=l) (n:=w);rw[cU]
      exact⟨by rw[Dh];simp only[List.length_cons,List.length_nil];omega,by rw[Dh];simp only[List.length_cons,List.length_nil];omega,by simp[cr,fr],fun r hr=>by
       rw[j8]at hr
       rcases List.mem_append.1 hr with h|h
       ·exact bj (enc:=bT) (n:=2) (fun _=>rfl) _ r h
       ·simp at h
        rcases h with rfl|rfl|rfl|rfl<;>rfl⟩
     rw[show bs c4 [[.str [68,71,83],.sl [[.sl [[.str Df]] []]] []]]=z by
      rw[←bE,bK,hz,j8,eY,List.map_append,List.append_assoc]
      congr 1
      simp only[iS,sQ,vz];rw[if_pos (by simpa using gE)]
      simp[bT,fo,eK,mA,mB,mC,mD,qB]]
     refine gK ?_;refine ai ⟨by omega,trivial,?_⟩;rw[wS ak aO (v:=w) (by omega)];rw[←hz]
     cbv
    ·replace gE:=eT gE
     refine dp ?_
     rw[show c4=z by
      rw[hz,j8,eY,List.map_append]
      congr 1
      simp only[iS,sQ,vz];rw[if_neg (by simpa using gE)]
      simp[bT,fo,eK,mA,mB,mC,mD]]
     refine ai ⟨by omega,trivial,?_⟩;rw[wS ak aO (v:=w) (by omega)];rw[←hz]
     cbv
   ·have aY:boxes.length≤w:=by rw[←aD,←ah]at hd;simp at hd;omega
    have VK:w=boxes.length:=by omega
    refine dp ?_;refine au rfl ?_;refine gK ?_;rw[show cur=W by rw[←cw,hW,VK]];refine aN ?_;rfl
 ·have h0:boxes.length=0:=by rw[←aD,←ah]at h1;simp only[oK,il,decide_eq_false_iff_not]at h1;omega
  refine dp ?_;refine au rfl ?_;refine gK ?_;refine aN ?_;rw[hW,h0];simp[du,bT,fo,eK,Io,lE]
end Go.bW
end
section
open Go Go.Am Go.Proofs
attribute [local irreducible] Am.bl.holds bA fw bC dv
namespace Go.bW
variable {mx:Int}
open Classical
def mH (x:Raw):lq:=⟨x.1,x.2.map fun d=>([d],[]),[]⟩
def vQ (x:Raw):pE:=(([x.1],[])::x.2.map fun d=>([d],[]),[])
def vR (kind ref:List UInt8):pE:=([([[72,69,68]],[]),([ref],[]),([kind],[])],[])
def y3 (n:Nat) (ref:List UInt8):pE:=([([[69,78,68]],[]),([digits (n+2)],[]),([ref],[])],[])
noncomputable def yb (kind ref:List UInt8) (ls:List Raw):List UInt8×Int:=
 if ¬lj ⟨kind,ref,(ls.map mH).map lq.val⟩then([],2)else Dm ((vR kind ref::ls.map vQ++[y3 ls.length ref]).map pE.val)
theorem Aa (x:Raw):bT x=(mH x).enc:=by simp[bT,fo,mH,lq.enc,hU,strs]
theorem yc {W KZ:List (List PV)} {ls:List Raw} {kind ref t:List UInt8} {e:Int} (hW:W=ls.map bT) (hl:ls.length<2^20) (Io:kind.length<2^32) (BB:ref.length<2^32)
  (hle:∀x∈ls,x.1.length<2^32∧x.2.length<2^20∧(∀d∈x.2,d.length<2^32)∧∃l d,x.2=l++[d]∧d≠[]) (ht:yb kind ref ls=(t,e)):
  pC mx 113 [.sl [[.str kind,.str ref,.sl W KZ]] []] (.ep [.str t,.int .i64 e]):=by
 have XM:W.length=ls.length:=by simp[hW]
 unfold yb at ht;refine pZ Ov ?_
 iterate 29 intro _
 intro A7
 iterate 28 intro _
 intro VP VQ
 iterate 45 intro _
 intro gO
 iterate 9 intro _
 intro cv bO bs bE _ _ bg aO aw ak aI aU aL aP aB aV aW bp bu ah aD
 have h1l:cv [[.str kind,.str ref,.sl W KZ]]=1:=by rw[←ah];rfl
 have qF:aL 0 [[.str kind,.str ref,.sl W KZ]] 3:=by rw[←aP];simp[aG]
 have lr:aI [[.str kind,.str ref,.sl W KZ]] 0=[.str kind,.str ref,.sl W KZ]:=by rw[←aU];rfl
 refine gK ?_;refine gL ?_;refine dC ?_;rw[h1l];refine zhT ?_;refine dp ?_;refine gL ?_;refine dC ?_;refine zhF ?_;refine dp ?_;refine au rfl ?_;refine gK ?_;refine ae qF ?_;rw[lr];refine gK ?_
 refine bX (by cbv) (qE (ls:=ls.map mH) (by rw[hW,List.map_map];exact List.map_congr_left (fun x _=>Aa x)) (by simpa using (by omega:ls.length<2^32)) Io BB (by
  intro x hx;obtain⟨y,hy,rfl⟩:=List.mem_map.1 hx;obtain⟨h1,h2,h3,l,d,h4,-⟩:=hle y hy;refine⟨by simp[mH,h4],h1,by simp[mH];omega,?_⟩;intro z hz;simp[mH]at hz;obtain⟨d,hd,rfl⟩:=hz
  exact⟨by simp,fun c hc=>by simp at hc;subst hc;exact h3 _ hd⟩) rfl) (fun h=>?_) (fun h=>?_)<;>simp only[decide_eq_true_eq,decide_eq_false_iff_not]at h
 ·rw[if_neg (by simpa using h)]at ht;obtain⟨C,hC⟩:∃C:Nat→List (List PV),∀v,C v=(vR kind ref::(ls.take v).map vQ).map mQ:=⟨_,fun _=>rfl⟩
  have hCl:∀v,v≤ls.length→(C v).length=v+1:=fun v hv=>by rw[hC];simp;omega
  have hCa:∀v,aS 1 (C v):=fun v=>by rw[hC];exact bj (enc:=mQ) (fun _=>rfl) _
  refine gK ?_;refine ae qF ?_;rw[lr];refine gK ?_;refine ae qF ?_;rw[lr];refine gK ?_;refine ae ?_ ?_
  ·rw[←bO,←gO,cU,lN];exact⟨⟨by simp,by simp,by simp[cr,fr],fun r hr=>by cases hr⟩,Or.inl rfl⟩
  rw[show bs [] [[.sl [[.sl [[.str [72,69,68]]] []],[.sl [[.str ref]] []],[.sl [[.str kind]] []]] []]]=C 0 by rw[←bE,bK,hC];simp[vR,mQ,hU,strs,eK]];refine gK ?_;obtain⟨AW,hAW⟩:∃AW:Nat→List (List AV),∀v,AW v=(C v).map (·.map AV.pv):=⟨_,fun _=>rfl⟩;refine qf (fun v σ_=>((σ_.tidy [0,4,5,7] (nn [54,54,62])).put (some 7) (.pv (.int .i64 (Int.ofNat v)))).aC 54 (.rows 1 (C v) 0)) ls.length (fun k=>True) (Fg.b8 [0,4,5,7] (nn [54,54,62]) rfl (by cbv)) ?_
  intro v hv hk;obtain⟨Wv,hWv⟩:∃Wv,Wv=(C v).map (·.map AV.pv):=⟨_,rfl⟩;refine U2 (Fg.YW (id:=54) (rs:=C v) (sz:=1) (ver:=0) rfl hWv) ?_;refine dC ?_;refine ae qF ?_;rw[lr];refine gK ?_;refine bl.af (fun hd=>?_) (fun hd=>?_)
  ·have aY:v<ls.length:=by rw[←aD,←ah]at hd;simp at hd;omega
   obtain⟨h1,h2,h3,l,d,h4,h5⟩:=hle _ (List.getElem_mem aY);obtain⟨⟨tag,dat⟩,hx⟩:∃x,ls[v]=x:=⟨_,rfl⟩;rw[hx]at h1 h2 h3 h4;dsimp only at h1 h2 h3 h4;subst h4;obtain⟨D,hD⟩:∃D,D=(l++[d]).map mu:=⟨_,rfl⟩
   have Mj:D.length=l.length+1:=by simp[hD]
   have KX:cr 1 D:=by rw[hD];exact fh (enc:=mu) (fun _=>⟨rfl,by simp[mu]⟩) _
   have VR:aL (Int.ofNat v) W 2:=by rw[←aP,hW];exact aR (enc:=bT) aY rfl
   have K0:aI W (Int.ofNat v)=[.str tag,.sl D []]:=by rw[←aU,hW,aQ (enc:=bT) aY,hx,hD];rfl
   obtain⟨R,hR⟩:∃R,R=bs [[.sl [[.str tag]] []]] D:=⟨_,rfl⟩
   have hR':R=[.sl [[.str tag]] []]::D:=by rw[hR,←bE];rfl
   have tg:C (v+1)=C v++[[.sl R []]]:=by
    rw[hC,hC,List.take_succ_eq_append_getElem aY,hx];simp[vQ,mQ,hU,strs,eK,hR',hD,mu,Function.comp_def]
   refine dp ?_
   repeat' (first
    |refine rQ ?_
    |(refine ae qF ?_;rw[lr];refine gK ?_)
    |(refine ae VR ?_;rw[K0];refine gK ?_))
   refine ao (by cbv) (y2 (l:=l) (x:=d) hD h5 (by simp at h2;omega)) (fun h=>by first|rfl|cases h) ?_;refine gK ?_;refine ae ?_ ?_
   ·rw[←bO,←gO,cU,lN];exact⟨⟨by simp only[List.length_cons,List.length_nil];simp at h2;omega,by simp only[List.length_cons,List.length_nil];simp at h2;omega,KX,fun r hr=>by simp at hr;subst hr;rfl⟩,Or.inr (fun h=>by rw[h]at Mj;simp at Mj)⟩
   rw[←hR];refine gK ?_;refine ae ?_ ?_
   ·rw[←VQ]
    have acQ:Wv.length=v+1:=by rw[hWv,List.length_map,hCl v (by omega)]
    show(Wv.length+_+256)*24≤2^46∧Wv.length+_≤2^46∧_∧_;refine⟨by rw[acQ];simp only[List.length_cons,List.length_nil];omega,by rw[acQ];simp only[List.length_cons,List.length_nil];omega,fun r hr=>by simp at hr;subst hr;exact⟨rfl,rfl⟩,fun r hr=>?_⟩;rw[hWv]at hr;obtain⟨r0,Jc,rfl⟩:=List.mem_map.1 hr;rw[List.length_map];exact hCa v r0 Jc
   obtain⟨V,hV⟩:∃V,V=A7 Wv [[.dB 87 0]]:=⟨_,rfl⟩
   have hV':V=(C v).map (·.map AV.pv)++[[AV.dB 87 0]]:=by rw[hV,←VP,hWv];rfl
   rw[←hV];refine gK ?_;refine ai ⟨aY,trivial,?_⟩;rw[wS ak aO (v:=v) (by omega)];refine Fg.trans (Fg.Ib (id:=87) (oid:=54) (sz:=1) (osz:=1) (ver:=0) (over:=1) (rs:=R) (Wd:=C v) (Z:=C (v+1)) (V:=V) (by decide) rfl rfl hV' tg) ?_;exact Fg.b8 [0,4,5,7] (nn [54,54,62]) rfl (by cbv)
  ·have aY:v=ls.length:=by rw[←aD,←ah]at hd;simp at hd;omega
   have Cq:aw .i64 (bg (cv W) 2)=Int.ofNat (ls.length+2):=by
    rw[←ak,←aO,←ah];simp only[ct,jk,il];rw[dh]<;>(try simp)<;>omega
   obtain⟨dg,hdg⟩:∃x,x=digits (ls.length+2):=⟨_,rfl⟩;obtain⟨F,hF⟩:∃F,F=bs (C v) [[.sl [[.sl [[.str [69,78,68]]] []],[.sl [[.str dg]] []],[.sl [[.str ref]] []]] []]]:=⟨_,rfl⟩
   have hF':F=(vR kind ref::ls.map vQ++[y3 ls.length ref]).map mQ:=by
    rw[hF,←bE,bK,hC,aY,List.take_length];simp[y3,mQ,hU,strs,eK,hdg]
   refine dp ?_;refine au rfl (Ke (Fg.plain (id:=54) (rs':=C v) rfl hWv) ?_);refine gK ?_
   repeat' (first
    |refine rQ ?_
    |(refine ae qF ?_;rw[lr];refine gK ?_))
   rw[Cq];refine ao (by cbv) (Ir (by omega) hdg) (fun _=>rfl) ?_;refine gK ?_;refine ae qF ?_;rw[lr];refine gK ?_;refine ae ?_ ?_
   ·rw[←bO,cU];exact⟨by rw[hCl v (by omega)];simp only[List.length_cons,List.length_nil];omega,by rw[hCl v (by omega)];simp only[List.length_cons,List.length_nil];omega,by simp[cr,fr],hCa v⟩
   rw[←hF];refine gK ?_;refine ai ?_;rw[show aw .i64 (bg 0 1)=1 by rw[←ak,←aO];rfl];refine gL ?_;refine dC ?_;rw[h1l];refine zhF ?_;refine dp ?_;refine au rfl ?_;refine gK ?_
   refine an (by cbv) (x9 hF' (by simp;omega) (by
    intro x hx
    have one:∀{c:List UInt8},c.length<2^32→([c]:List (List UInt8)).length<2^32∧∀b∈[c],b.length<2^32:=fun h=>⟨by simp,fun b hb=>by simp at hb;subst hb;exact h⟩
    rcases List.mem_append.1 hx with hx|hx
    ·rcases List.mem_cons.1 hx with rfl|hx
     ·refine⟨by simp[vR],fun y hy=>?_⟩;simp only[vR,List.mem_cons,List.not_mem_nil,or_false]at hy
      rcases hy with rfl|rfl|rfl
      ·exact one (by simp)
      ·exact one BB
      ·exact one Io
     ·obtain⟨y,hy,rfl⟩:=List.mem_map.1 hx;obtain⟨h1,h2,h3,-⟩:=hle y hy;refine⟨by simp[vQ];omega,fun z hz=>?_⟩;simp only[vQ,List.mem_cons]at hz
      rcases hz with rfl|hz
      ·exact one h1
      ·obtain⟨d,hd,rfl⟩:=List.mem_map.1 hz;exact one (h3 d hd)
    ·simp only[List.mem_cons,List.not_mem_nil,or_false]at hx;subst hx;refine⟨by simp[y3],fun y hy=>?_⟩;simp only[y3,List.mem_cons,List.not_mem_nil,or_false]at hy
     rcases hy with rfl|rfl|rfl
     ·exact one (by simp)
     ·exact one (by have:=kG (n:=ls.length+2) (by omega);omega)
     ·exact one BB) ht) (fun h=>by first|rfl|cases h) ?_
   refine gK ?_;refine aN ?_;rfl
 ·rw[if_pos h]at ht
  cases ht
  refine gK ?_;refine dm ?_;rfl
end Go.bW
end
section
open Go Go.Am Go.Proofs
attribute [local irreducible] Am.bl.holds bA fw bC dv
namespace Go.bW
variable {mx:Int}
open Classical
noncomputable def oW (c:List aM) (v:List bq) (ref:List UInt8) (call:Int) (port:List UInt8) (boxes:List cE) (l:List aT):List UInt8×Int:=
 if ¬fO c v call port boxes l then([],390)else if ¬lj ⟨lE,ref,[]⟩then([],391)else yb lE ref (du c v call port boxes l boxes.length)
def SH (x:Raw):Prop:=x.1.length<2^32∧x.2.length<2^20∧(∀d∈x.2,d.length<2^32)∧∃l d,x.2=l++[d]∧d≠[]
theorem uI {n:Nat}:digits n≠[]:=by
 rw[uH];split<;>simp
theorem Ds {c:List aM} {v:List bq} {x:Slot} (hs:fy c v) (h:bV c x 20∨bV c x 40):(fG c v x).1.length=7:=by
 unfold fG;rw[if_neg (by simpa using hs),if_neg (by rintro⟨h1,h2⟩;rcases h with h|h;exact h1 h;exact h2 h)]
 have hc:x.column.toNat<c.length:=by rcases h with h|h<;>(have:=h.1;omega)
 rw[List.getElem?_eq_getElem hc];rfl
theorem E7 {b:cE} (h:ir b):(gH b).1.length=4:=by
 obtain⟨-,-,h3,h4,-⟩:=h
 have hs:b.size=20∨b.size=40:=by
  unfold most at h4;split at h4
  ·left;assumption
  ·split at h4
   ·right;assumption
   ·omega
 unfold gH
 rcases hs with hs|hs
 ·have hh:b.high=false:=by
   cases hb:b.high
   ·rfl
   ·have:=h3 hb;omega
  rw[if_pos ⟨hs,hh⟩];split<;>rfl
 ·rw[if_neg (by omega),if_pos hs]
  (repeat' split)<;>rfl
theorem E8 {c:List aM} {v:List bq} {call:Int} {port:List UInt8} {boxes:List cE} {l:List aT} (hS:fO c v call port boxes l):∀{n:Nat},n≤boxes.length→∀x∈du c v call port boxes l n,SH x
 |0,_,x,hx=>by
  simp only[du,List.mem_cons,List.not_mem_nil,or_false]at hx;subst hx;have hp:=hS.2.1.1;have hc:=hS.1;refine⟨by simp,by simp,fun d hd=>?_,[digits call.toNat],port,rfl,by intro h;rw[h]at hp;simp at hp⟩;simp only[List.mem_cons,List.not_mem_nil,or_false]at hd
  rcases hd with rfl|rfl
  ·have:=kG (n:=call.toNat) (by omega);omega
  ·omega
 |n+1,hn,x,hx=>by
  obtain⟨lI,zZ,hlen,hbox,tE,Ja⟩:=id hS;rw[jv (by omega) (by omega)]at hx
  rcases List.mem_append.1 hx with hx|hx
  ·exact E8 hS (by omega) x hx
  ·have hb:=(hbox.2 n (by omega) (by omega)).1;obtain⟨⟨b,hb1,sd⟩,-⟩:=tE.2.1 n (by omega) (by omega)
   have dZ:bV c l[n].slot 20∨bV c l[n].slot 40:=by
    rcases sd.2 with⟨h1,h2⟩|⟨h1,h2⟩
    ·right;rw[←h1];exact sd
    ·left;rw[←h1];exact sd
   have sQ:=Ds tE.1 dZ;have vz:=E7 hb;obtain⟨⟨hi1,Nj⟩,Is,-,⟨Uv,Ni⟩,⟨XG,Mb,hd⟩,gE⟩:=hb
   have Jf:boxes[n].ca≤40000:=by unfold most at Ni;(repeat' split at Ni)<;>omega
   have yE:boxes[n].number.length≤11:=by
    rcases Is with h|h
    ·rw[h];simp
    ·have:=h.1;omega
   have one:∀{t d:List UInt8},t.length<2^32→d.length<2^32→d≠[]→SH (t,[d]):=fun h1 h2 h3=>⟨h1,by simp,fun x hx=>by simp at hx;subst hx;exact h2,[],_,rfl,h3⟩
   have dl:∀{z:Int},z≤1000000→(digits z.toNat).length<2^32:=fun h=>by
    rename_i z;have:=kG (n:=z.toNat) (by omega);omega
   unfold iS at hx
   rcases List.mem_append.1 hx with hx|hx
   ·simp only[List.mem_cons,List.not_mem_nil,or_false]at hx
    rcases hx with rfl|rfl|rfl|rfl
    ·exact one (by simp) (by omega) (by intro h;rw[h]at sQ;simp at sQ)
    ·refine⟨by simp,by simp,fun d hd=>?_,[digits boxes[n].id.toNat,boxes[n].number],(gH boxes[n]).1,rfl,by intro h;rw[h]at vz;simp at vz⟩;simp only[List.mem_cons,List.not_mem_nil,or_false]at hd
     rcases hd with rfl|rfl|rfl
     ·exact dl (by omega)
     ·omega
     ·omega
    ·exact one (by simp) (dl (by omega)) uI
    ·refine⟨by simp,by simp,fun d hd=>?_,[digits boxes[n].load.toNat],digits boxes[n].discharge.toNat,rfl,uI⟩;simp only[List.mem_cons,List.not_mem_nil,or_false]at hd
     rcases hd with rfl|rfl
     ·exact dl (by omega)
     ·exact dl (by omega)
   ·split at hx
    ·simp only[List.mem_cons,List.not_mem_nil,or_false]at hx;subst hx;exact one (by simp) (dl (by omega)) uI
    ·simp at hx
theorem Dt {c csp vv vsp r rsp f fsp t tsp:List (List PV)} {l1 l2 l3 l4 m1 m2 m3 m4:Int} {rows sp bF bsp:List (List PV)} {cl:List aM} {vl:List bq} {l:List aT} {boxes:List cE} {call:Int} {port ref t0:List UInt8} {e:Int} (ff:c=cl.map aM.enc) (lU:vv=vl.map bq.enc) (mj:cl.length<2^32) (rP:vl.length<2^32) (oc:∀x∈cl,x.b9.length<2^32) (rv:∀x∈vl,x.rows.length<2^32)
  (cq:rows=l.map aT.enc) (gN:bF=boxes.map cE.enc) (hl:l.length<2^15) (ph:boxes.length<2^15) (oC:∀b∈boxes,mw b) (bL:∀x∈l,kF x) (BB:ref.length<2^32) (hr:oW cl vl ref call port boxes l=(t0,e)):
  pC mx 48 [.agg [.sl c csp,.sl vv vsp,.int .i64 l1,.int .i64 l2,.int .i64 l3,.int .i64 l4,.sl r rsp,.sl f fsp,.sl t tsp,.int .i64 m1,.int .i64 m2,.int .i64 m3,.int .i64 m4],.str ref,.agg [.int .i64 call,.str port,.sl bF bsp,.sl rows sp]] (.ep [.str t0,.int .i64 e]):=by
 unfold oW at hr;refine pZ Vq ?_
 iterate 129 intro _
 intro aB aV aW bp bu ah aD;refine gK ?_;refine bX (by cbv) (vB ff lU mj rP oc rv cq gN (by omega) (by omega) oC bL rfl) (fun h=>?_) (fun h=>?_)<;>simp only[decide_eq_true_eq,decide_eq_false_iff_not]at h
 ·rw[if_neg (by simpa using h)]at hr;refine gK ?_;refine bX (by cbv) (qE (rows:=[]) (ls:=[]) rfl (by simp) (by simp) BB (by simp) rfl) (fun h'=>?_) (fun h'=>?_)<;>simp only[decide_eq_true_eq,decide_eq_false_iff_not,List.map_nil]at h'
  ·rw[if_neg (by simpa[lE]using h')]at hr;obtain⟨W,hW⟩:∃W,W=(du cl vl call port boxes l boxes.length).map bT:=⟨_,rfl⟩;have px:=e7 (c:=cl) (v:=vl) (call:=call) (port:=port) (boxes:=boxes) (l:=l) (n:=boxes.length);refine gK ?_;refine an (by cbv) (yY (ref:=ref) ff lU mj rP oc rv cq gN (by omega) (by omega) bL oC h hW) (fun h=>by first|rfl|cases h) ?_;refine gK ?_;refine an (by cbv) (yc (kind:=[66,65,89,80,76,78]) hW (by omega) (by simp) BB (E8 h (Nat.le_refl _)) (show yb [66,65,89,80,76,78] ref _=(t0,e) from hr)) (fun h=>by first|rfl|cases h) ?_
   refine gK ?_;refine aN ?_;rfl
  ·rw[if_pos (by simpa[lE]using h')]at hr
   cases hr
   refine gK ?_;refine aN ?_;rfl
 ·rw[if_pos h]at hr
  cases hr
  refine gK ?_;refine aN ?_;rfl
end Go.bW
end
section
open Go Go.Am Go.Proofs
attribute [local irreducible] Am.bl.holds bA fw bC dv
namespace Go.bW
variable {mx:Int}
open Classical
theorem It {c csp vv vsp r rsp f fsp t tsp:List (List PV)} {l1 l2 l3 l4 m1 m2 m3 m4:Int} {rows sp bF bsp RM BM:List (List PV)} {cl:List aM} {vl:List bq} {l:List aT} {boxes:List cE} {call:Int} {port ref t0:List UInt8} {e:Int} (ff:c=cl.map aM.enc) (lU:vv=vl.map bq.enc) (mj:cl.length<2^32) (rP:vl.length<2^32) (oc:∀x∈cl,x.b9.length<2^32) (rv:∀x∈vl,x.rows.length<2^32)
  (cq:rows=l.map aT.enc) (gN:bF=boxes.map cE.enc) (hl:l.length<2^15) (ph:boxes.length<2^15) (oC:∀b∈boxes,mw b) (bL:∀x∈l,kF x) (BB:ref.length<2^32) (Sz:RM=((List.range 12).map aT.mark).map aT.enc) (SA:BM=((List.range 12).map cE.mark).map cE.enc)
  (hr:oW cl vl ref call port boxes l=(t0,e))
  (h36:pC mx 36 [.agg [.sl c csp,.sl vv vsp,.int .i64 l1,.int .i64 l2,.int .i64 l3,.int .i64 l4,.sl r rsp,.sl f fsp,.sl t tsp,.int .i64 m1,.int .i64 m2,.int .i64 m3,.int .i64 m4],.str ref,.agg [.int .i64 call,.str port,.sl bF BM,.sl rows RM]] (.ep [.str t0,.int .i64 e]))
  (h38:pC mx 38 [.agg [.sl c csp,.sl vv vsp,.int .i64 l1,.int .i64 l2,.int .i64 l3,.int .i64 l4,.sl r rsp,.sl f fsp,.sl t tsp,.int .i64 m1,.int .i64 m2,.int .i64 m3,.int .i64 m4],.agg [.int .i64 call,.str port,.sl bF BM,.sl rows RM]] (.bool (decide (fO cl vl call port boxes l)))):
  pC mx 14 [.agg [.sl c csp,.sl vv vsp,.int .i64 l1,.int .i64 l2,.int .i64 l3,.int .i64 l4,.sl r rsp,.sl f fsp,.sl t tsp,.int .i64 m1,.int .i64 m2,.int .i64 m3,.int .i64 m4],.str ref,.agg [.int .i64 call,.str port,.sl bF bsp,.sl rows sp]] (.bool true):=by
 obtain⟨R,hR⟩:∃R,R=decide (fO cl vl call port boxes l):=⟨_,rfl⟩;rw[←hR]at h38;refine pZ Vt ?_
 iterate 129 intro _
 intro aB aV aW bp bu ah aD;refine gK ?_;refine an (by cbv) (VC cq gN (by omega) (by omega) Sz SA) (fun h=>by first|rfl|cases h) ?_;refine gK ?_;refine an (by cbv) h36 (fun h=>by first|rfl|cases h) ?_;refine gK ?_;refine an (by cbv) (Dt ff lU mj rP oc rv cq gN hl ph oC bL BB hr) (fun h=>by first|rfl|cases h) ?_;refine gK ?_;refine zhT ?_;refine dp ?_;refine zhT ?_;refine dp ?_
 cases R
 all_goals
  refine ao (by cbv) h38 (fun h=>by first|rfl|cases h) ?_;refine gK ?_;refine ao (by cbv) (vB ff lU mj rP oc rv cq gN (by omega) (by omega) oC bL hR) (fun h=>by first|rfl|cases h) ?_;refine gK ?_;refine ao (by cbv) (O2 cq gN (by omega) (by omega) Sz SA) (fun h=>by first|rfl|cases h) ?_;refine gK ?_;refine aN ?_;rfl
end Go.bW
end
section
open Go Go.Am Go.Proofs
attribute [local irreducible] Am.bl.holds bA fw bC dv
namespace Go.bW
variable {mx:Int}
open Classical
def K2:Prop:=∀{c csp vv vsp r rsp f fsp t tsp:List (List PV)} {l1 l2 l3 l4 m1 m2 m3 m4:Int} {rows sp bF bsp:List (List PV)} {cl:List aM} {vl:List bq} {l:List aT} {boxes:List cE} {call:Int} {port ref t0:List UInt8} {e:Int},c=cl.map aM.enc→vv=vl.map bq.enc→cl.length≤20→vl.length≤20→(∀x∈cl,x.b9.length≤12)→(∀x∈vl,x.rows.length≤40)→
  rows=l.map aT.enc→bF=boxes.map cE.enc→l.length≤30→boxes.length≤40→(∀b∈boxes,mw b)→(∀x∈l,kF x)→ref.length≤3000→port.length≤3000→Je call→
  (oW cl vl ref call port boxes l=(t0,e)→pC mx 36 [.agg [.sl c csp,.sl vv vsp,.int .i64 l1,.int .i64 l2,.int .i64 l3,.int .i64 l4,.sl r rsp,.sl f fsp,.sl t tsp,.int .i64 m1,.int .i64 m2,.int .i64 m3,.int .i64 m4],.str ref,.agg [.int .i64 call,.str port,.sl bF bsp,.sl rows sp]] (.ep [.str t0,.int .i64 e]))∧
  pC mx 38 [.agg [.sl c csp,.sl vv vsp,.int .i64 l1,.int .i64 l2,.int .i64 l3,.int .i64 l4,.sl r rsp,.sl f fsp,.sl t tsp,.int .i64 m1,.int .i64 m2,.int .i64 m3,.int .i64 m4],.agg [.int .i64 call,.str port,.sl bF bsp,.sl rows sp]] (.bool (decide (fO cl vl call port boxes l)))
theorem VW (hP:K2 (mx:=mx)) (K3:pC mx 12 [] (.bool true)) {c csp vv vsp r rsp f fsp t tsp:List (List PV)} {l1 l2 l3 l4 m1 m2 m3 m4:Int} {rows sp bF bsp:List (List PV)} {cl:List aM} {vl:List bq} {rl fl:List Row} {tl:List eb} {l:List aT} {boxes:List cE} {call:Int} {port ref:List UInt8} (h:xK c vv r f t cl vl rl fl tl)
  (cq:rows=l.map aT.enc) (gN:bF=boxes.map cE.enc) (oC:∀b∈boxes,mw b) (bL:∀x∈l,kF x) (lI:Je call):
  pC mx 3 [.agg [.sl c csp,.sl vv vsp,.int .i64 l1,.int .i64 l2,.int .i64 l3,.int .i64 l4,.sl r rsp,.sl f fsp,.sl t tsp,.int .i64 m1,.int .i64 m2,.int .i64 m3,.int .i64 m4],.str ref,.agg [.int .i64 call,.str port,.sl bF bsp,.sl rows sp]] (.bool true):=by
 obtain⟨C,hC⟩:∃C,C=(cl.map aM.gF).map aM.enc:=⟨_,rfl⟩;obtain⟨CM,hCM⟩:∃C,C=((List.range 12).map aM.mark).map aM.enc:=⟨_,rfl⟩;obtain⟨V,hV⟩:∃C,C=(vl.map bq.gF).map bq.enc:=⟨_,rfl⟩;obtain⟨VM,hVM⟩:∃C,C=((List.range 12).map bq.mark).map bq.enc:=⟨_,rfl⟩;obtain⟨RM,Sz⟩:∃C,C=((List.range 12).map Row.rJ).map Row.enc:=⟨_,rfl⟩;obtain⟨FM,hFM⟩:∃C,C=((List.range 12).map Row.rK).map Row.enc:=⟨_,rfl⟩;obtain⟨T,hT⟩:∃C,C=(tl.map eb.gF).map eb.enc:=⟨_,rfl⟩
 obtain⟨TM,hTM⟩:∃C,C=((List.range 12).map eb.mark).map eb.enc:=⟨_,rfl⟩;have hL:Bn C CM V VM RM FM T TM cl vl tl:=⟨hC,hCM,hV,hVM,Sz,hFM,hT,hTM⟩;obtain⟨SM,hSM⟩:∃C,C=((List.range 12).map aT.mark).map aT.enc:=⟨_,rfl⟩;obtain⟨BM,SA⟩:∃C,C=((List.range 12).map cE.mark).map cE.enc:=⟨_,rfl⟩;refine pZ aah ?_
 iterate 129 intro _
 intro aB aV aW bp bu ah aD;refine gK ?_;refine bX (by cbv) (VD h.c h.v cq gN rfl) (fun h'=>?_) (fun h'=>?_)<;>simp only[decide_eq_true_eq,decide_eq_false_iff_not]at h'
 ·obtain⟨⟨hf1,Ul,hf3,hf4⟩,hf5,hf6⟩:=h';refine gK ?_
  repeat' (first|refine rQ ?_|(refine vy (fun hc=>?_) (fun hc=>?_)<;>(try simp at hc)<;>(try(exfalso;omega))))
  all_goals try(refine an (by cbv) K3 (fun h=>by first|rfl|cases h) ?_;refine gK ?_;refine aN ?_;rfl)
  have px:ref.length≤3000∧port.length≤3000:=by omega
  obtain⟨⟨t0,e⟩,hwr⟩:∃x,oW (cl.map aM.gF) (vl.map bq.gF) ref call port boxes l=x:=⟨_,rfl⟩
  have gE:∀x∈cl.map aM.gF,x.b9.length≤12:=fun x hx=>by
   obtain⟨y,hy,rfl⟩:=List.mem_map.1 hx;obtain⟨i,hi,rfl⟩:=List.getElem_of_mem hy;exact(hf5 i hi).1
  have sP:∀x∈vl.map bq.gF,x.rows.length≤40:=fun x hx=>by
   obtain⟨y,hy,rfl⟩:=List.mem_map.1 hx;obtain⟨i,hi,rfl⟩:=List.getElem_of_mem hy;exact hf6 i hi
  refine an (by cbv) (C5 h hL) (fun h=>by first|rfl|cases h) ?_;refine gK ?_;have hp:=hP (csp:=CM) (vsp:=VM) (r:=r) (rsp:=RM) (f:=f) (fsp:=FM) (t:=T) (tsp:=TM) (l1:=l1) (l2:=l2) (l3:=l3) (l4:=l4) (m1:=m1) (m2:=m2) (m3:=m3) (m4:=m4) (sp:=SM) (bsp:=BM) (ref:=ref) (call:=call) (port:=port) (t0:=t0) (e:=e) hC hV (by simpa using hf1) (by simpa using Ul) gE sP cq gN hf4 hf3 oC bL px.1 px.2 lI;refine an (by cbv) (It hC hV (by simp;omega) (by simp;omega) (fun x hx=>by have:=gE x hx;omega) (fun x hx=>by have:=sP x hx;omega) cq gN (by omega) (by omega) oC bL (by omega) hSM SA hwr (hp.1 hwr) hp.2) (fun h=>by first|rfl|cases h) ?_
  refine gK ?_;refine an (by cbv) (C7 h hL) (fun h=>by first|rfl|cases h) ?_;refine gK ?_;refine an (by cbv) K3 (fun h=>by first|rfl|cases h) ?_;refine gK ?_;refine aN ?_;rfl
 ·refine gK ?_;refine an (by cbv) K3 (fun h=>by first|rfl|cases h) ?_;refine gK ?_;refine aN ?_;rfl
end Go.bW
end
