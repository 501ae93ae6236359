import Derived.Test.YtfaccbkibjkfjaaGreatDoorT17
import Derived.Test.YtfaccbkibjkfjaaGreatDoorT16
import Derived.Test.YtfaccbkibjkfjaaGreatDoorT12
import Derived.Test.YtfaccbkibjkfjaaGreatDoorT10
import Derived.Test.YtfaccbkibjkfjaaGreatDoorT11
import Derived.Test.YtfaccbkibjkfjaaGreatDoorT21
import Derived.Test.YtfaccbkibjkfjaaGreatDoorT09
import Derived.Test.YtfaccbkibjkfjaaGreatDoorT14
set_option linter.all false
set_option maxRecDepth 100000
set_option maxHeartbeats 1000000
section
open Go Go.Am Go.Proofs
attribute [local irreducible] Am.bp.holds bH fw bP ek
namespace Go.bt
variable {mx:Int}
open Classical
theorem agK {f:FuncId} {cs:List PV} {rows sp:List (List PV)} {l:List bw} {p:Nat→Bool} {r:Bool} (eS:rows=l.map bw.enc) (hl:l.length<2^32) (hf:∀k (h:k<l.length),pC mx f [.agg l[k].enc,.ptr cs] (.bool (p k))) (hr:r=decide (∃k,k<l.length∧p k=true)):
  pC mx 94 [.sl rows sp,.gM f [.ptr cs]] (.bool r):=by
 obtain⟨q,hq⟩:=eW.ex (fun k=>p k=true) l.length;have px:=Ho (mx:=mx) (sp:=sp) eS hl hf hq;have jr:=hq.iff;refine pZ UC ?_
 iterate 129 intro _
 intro zI aU aV bC bA ag aC;refine gK ?_;refine ao (by cbv) px (fun h=>by first|rfl|cases h) ?_;refine gK ?_;refine bp.af (fun h1=>?_) (fun h1=>?_)
 ·replace h1:=eE h1
  refine aX ?_;exact tr hr (jr.1 h1)
 ·replace h1:=eE h1
  refine aX ?_;exact fa hr (fun h=>by have:=jr.2 h;omega)
theorem age {x:bw} {cs:List PV} {call:Int} {port:List UInt8} {rows sp brows bsp:List (List PV)} (hcs:cs=x.enc) {r:Bool} (hr:r= !decide (lG x call)):pC mx 95 [.agg cs,.ptr [.int .i64 call,.str port,.sl brows bsp,.sl rows sp]] (.bool r):=by
 have xd:=acW (mx:=mx) (x:=x) (k:=call) hcs rfl;subst hcs;obtain⟨xid,num,size,high,cD,load,oz,cls,cK⟩:=x;obtain⟨B,hB⟩:∃B,B=decide (lG ⟨xid,num,size,high,cD,load,oz,cls,cK⟩ call):=⟨_,rfl⟩;rw[←hB]at xd hr
 change pC mx 66 [.agg [.int .i64 xid,.str num,.int .u8 size,.bool high,.int .i64 cD,.int .i64 load,.int .i64 oz,.int .u8 cls,.bool cK],.int .i64 call] (.bool B)at xd
 show pC mx 95 [.agg [.int .i64 xid,.str num,.int .u8 size,.bool high,.int .i64 cD,.int .i64 load,.int .i64 oz,.int .u8 cls,.bool cK],.ptr [.int .i64 call,.str port,.sl brows bsp,.sl rows sp]] (.bool r)
 clear hB
 refine pZ UD ?_
 iterate 129 intro _
 intro zI aU aV bC bA ag aC;refine gK ?_;refine cU (by cbv) xd (fun h=>?_) (fun h=>?_)
 ·refine gK ?_;refine aX ?_;rw[hr,h];rfl
 ·refine gK ?_;refine aX ?_;rw[hr,h];rfl
theorem aho {c csp vv vsp r rsp f fsp t tsp:List (List PV)} {l1 l2 l3 l4 m1 m2 m3 m4:Int} {rows sp brows bsp:List (List PV)} {cl:List aL} {vl:List bz} {l:List aH} {boxes:List bw} {call:Int} {port:List UInt8} {res:Bool} (jI:c=cl.map aL.enc) (pN:vv=vl.map bz.enc) (wU:cl.length<2^32) (Hn:vl.length<2^32) (CS:∀x∈cl,x.cq.length<2^32) (AE:∀x∈vl,x.rows.length<2^16)
  (eS:rows=l.map aH.enc) (jb:brows=boxes.map bw.enc) (hl:l.length<2^32) (lO:boxes.length<2^32) (vf:∀b∈boxes,og b) (bO:∀x∈l,kL x) (hr:res=decide (abJ cl vl call port boxes l)):
  pC mx 38 [.agg [.sl c csp,.sl vv vsp,.int .i64 l1,.int .i64 l2,.int .i64 l3,.int .i64 l4,.sl r rsp,.sl f fsp,.sl t tsp,.int .i64 m1,.int .i64 m2,.int .i64 m3,.int .i64 m4],.agg [.int .i64 call,.str port,.sl brows bsp,.sl rows sp]] (.bool res):=by
 have Gd:rows.length=l.length:=by simp[eS]
 have KD:brows.length=boxes.length:=by simp[jb]
 obtain⟨i,e,dD⟩:=Ck boxes;have jr:=dD.iff;have aa9:=agK (mx:=mx) (f:=95) (cs:=[.int .i64 call,.str port,.sl brows bsp,.sl rows sp]) (sp:=bsp) (p:=fun k=>if h:k<boxes.length then !decide (lG boxes[k] call)else false) (r:=decide (∃k,k<boxes.length∧(if h:k<boxes.length then !decide (lG boxes[k] call)else false)=true)) jb lO (fun k h=>age (x:=boxes[k]) rfl (by simp only[h,qcu])) rfl
 have hex:(∃k,k<boxes.length∧(if h:k<boxes.length then !decide (lG boxes[k] call)else false)=true)↔¬∀k,(h:k<boxes.length)→lG boxes[k] call:=by
  constructor
  ·rintro⟨k,hk,h⟩ h';simp only[hk,qcu]at h;simp[h' k hk]at h
  ·intro h
   refine qaC fun hn=>h fun k hk=>qaC fun ha=>hn ⟨k,hk,?_⟩
   simp only[hk,qcu];simp[ha]
 refine pZ Jw ?_
 iterate 129 intro _
 intro zI aU aV bC bA ag aC;refine gK ?_;refine bp.af (fun h1=>?_) (fun h1=>?_)
 ·replace h1:=eE h1
  refine aY ?_;refine aX ?_;exact fa hr (fun h=>by have:=h.1;omega)
 ·replace h1:=eE h1
  refine aY ?_;refine bp.af (fun h2=>?_) (fun h2=>?_)
  ·replace h2:=eE h2
   refine aY ?_;refine aX ?_;exact fa hr (fun h=>by have:=h.1;omega)
  ·replace h2:=eE h2
   refine aY ?_;refine cU (by cbv) (F9 (a:=0) (d:=0) rfl) (fun h=>?_) (fun h=>?_)<;>simp only[qae,qad]at h
   ·have agY:=h.1;refine gK ?_;refine bp.af (fun h3=>?_) (fun h3=>?_)
    ·replace h3:=eE h3
     refine aY ?_;refine aX ?_;exact fa hr (fun h=>by have:=h.2.2.1;omega)
    ·replace h3:=eE h3
     refine aY ?_;refine ao (by cbv) (Ka jb dD) (fun h=>by first|rfl|cases h) ?_;refine gK ?_;refine bp.af (fun h4=>?_) (fun h4=>?_)
     ·replace h4:=eE h4
      refine aY ?_;refine aX ?_;exact fa hr (fun h=>h4 (jr.2 h.2.2.2.1))
     ·replace h4:=eE h4
      have MN:wo boxes:=jr.1 h4;refine aY ?_;refine cU (by cbv) (Pb (fun hq=>Aj jI pN wU Hn CS AE hq) jI wU eS jb hl lO vf bO rfl) (fun h=>?_) (fun h=>?_)<;>simp only[qae,qad]at h
      ·have afx:=h;refine gK ?_;refine cU (by cbv) aa9 (fun h=>?_) (fun h=>?_)<;>simp only[qae,qad]at h
       ·refine gK ?_;refine aX ?_;exact fa hr (fun h'=>hex.1 h h'.2.2.2.2.2)
       ·refine gK ?_;refine aX ?_;refine tr hr ⟨by omega,agY,by omega,MN,afx,fun i hi=>qaC fun ha=>h (hex.2 fun h'=>ha (h' i hi))⟩
      ·refine gK ?_;refine aX ?_;exact fa hr (fun h'=>h h'.2.2.2.2.1)
   ·refine gK ?_;refine aX ?_;exact fa hr (fun h'=>h ⟨h'.2.1,by omega,by omega⟩)
theorem ab0 {rows sp D:List (List PV)} {tag:List UInt8} {l:List (List UInt8)} (eS:rows=strs l) (hD:D=l.map fun d=>[.sl [acp d] []]) (hl:l.length<2^32):pC mx 170 [.str tag,.sl rows sp] (.agg [.str tag,.sl D []]):=by
 have hlen:rows.length=l.length:=by simp[eS,strs]
 refine pZ NK ?_
 iterate 105 intro _
 intro yR
 iterate 10 intro _
 intro dF bJ bX _ _ df aw bu mz aI aQ aJ aP zI aU aV bC bA ag aC;refine gK ?_;refine acG ?_;refine ej ?_;refine bp.af (fun h1=>?_) (fun h1=>?_)
 ·have h0:0<l.length:=by rw[←aC,←ag]at h1;simp at h1;omega
  obtain⟨c_a,bj⟩:∃x,l[0]=x:=⟨_,rfl⟩
  have bG:aJ (Int.ofNat 0) rows 1:=by rw[←aP,eS];exact aO (enc:=acp) h0 rfl
  have aW:aI rows (Int.ofNat 0)=[.str c_a]:=by rw[←aQ,eS,strs,aN (enc:=acp) h0,bj];rfl
  refine aY ?_;refine ae bG ?_;rw[show aI rows 0=[.str c_a] from aW];refine gK ?_;refine ae ?_ ?_
  ·rw[←dF,←yR];simp[fS,aK,kE,aF]
   try(repeat' constructor)
  rw[show bJ [] [[.sl [[.str c_a]] []]]=D.take 1 by
   rw[←bX,dj,hD]
   cases l with
   |nil=>simp at h0
   |cons y ys=>simp at bj;simp[acp,bj]]
  refine gK ?_;refine ta ?_;rw[show bu .i64 (df 0 1)=Int.ofNat (0+1) by subst_vars;exact kY (v:=0) (by omega)];refine bQ [0,1,4,5,10,11,12] (nn [4,4,0,5,15,21]) (fun v σ_=>σ_.put (some 12) (.pv (.int .i64 (Int.ofNat (v+1))))|>.aq 21 (.rows 1 (D.take (v+1)) 0)) (l.length) (fun k=>True) ?_;intro v hv hk
  try dsimp only
  generalize hw:v+1=w;generalize dA:D.take w=cur;refine ej ?_;refine bp.af (fun hd=>?_) (fun hd=>?_)
  ·have aT:w<l.length:=by rw[←aC,←ag]at hd;simp at hd;omega
   obtain⟨c_b,fv⟩:∃x,l[w]=x:=⟨_,rfl⟩
   have gw:aJ (Int.ofNat w) rows 1:=by rw[←aP,eS];exact aO (enc:=acp) aT rfl
   have dV:aI rows (Int.ofNat w)=[.str c_b]:=by rw[←aQ,eS,strs,aN (enc:=acp) aT,fv];rfl
   have hDl:w<D.length:=by rw[hD];simpa using aT
   refine aY ?_;refine ae gw ?_;rw[dV];refine gK ?_;refine ae ?_ ?_
   ·rw[←dF,←dA]
    have bS:aK 1 (D.take w):=fun r hr=>by
     have:=qbf hr;rw[hD]at this;obtain⟨x,-,rfl⟩:=qaw.1 this;rfl
    simp[fS,kE,aF,bS];omega
   refine gK ?_;refine ta ⟨by omega,trivial,?_⟩;rw[wS mz aw (v:=w) (by omega)]
   rw[show bJ cur [[.sl [[.str c_b]] []]]=D.take (w+1) by
    rw[←bX,←dA,qan hDl,dj]
    congr 2
    subst hD;simp only[qcf];rw[fv]
    rfl]
   cbv
  ·have aT:l.length≤w:=by rw[←aC,←ag]at hd;simp at hd;omega
   refine aY ?_;refine wW rfl ?_;refine gK ?_;rw[show cur=D by rw[←dA];exact qbI (by rw[hD];simpa using aT)];refine aX ?_;rfl
 ·have h0:l=[]:=by
   rw[←aC,←ag]at h1;simp[eS,strs]at h1;exact h1
  subst h0;refine aY ?_;refine wW rfl ?_;refine gK ?_;refine aX ?_;subst hD;rfl
theorem ahp {n d:Int} (h:0≤n) (hd:d=48+n%10):UInt8.ofNat d.toNat=dig n:=by
 unfold dig
 congr 1
 omega
theorem aeJ {n:Int} {t:List UInt8} (h:0≤n∧n<1000) (ht:t=[dig (n/100),dig (n/10),dig n]):pC mx 261 [.int .i64 n,.int .i64 3] (.str t):=by
 obtain⟨d0,XG⟩:∃d,d=48+n%10:=⟨_,rfl⟩;obtain⟨n1,Zk⟩:∃m,m=n/10:=⟨_,rfl⟩;obtain⟨d1,hd1⟩:∃d,d=48+n1%10:=⟨_,rfl⟩;obtain⟨n2,hn2⟩:∃m,m=n1/10:=⟨_,rfl⟩;obtain⟨d2,um⟩:∃d,d=48+n2%10:=⟨_,rfl⟩;obtain⟨n3,hn3⟩:∃m,m=n2/10:=⟨_,rfl⟩;refine pZ NL ?_
 iterate 81 intro _
 intro ahq eV agf nJ EB
 iterate 11 intro _
 intro yx aeK ac0 _ Ab _ tV Ci _ yy J5 _ _ _ _ oZ sg _ _ _ _ _ cP cY df aw bu mz _ _ _ aP zI aU aV bC bA ag aC
 have zc:∀x y,df x y=x+y:=fun _ _=>by rw[←aw];rfl
 have fu:∀x y,cP x y=x-y:=fun _ _=>by rw[←cY];rfl
 have hmul:∀x y,tV x y=x*y:=fun _ _=>by rw[←Ci];rfl
 have aaZ:∀x y,0≤x→yy x y=x/y:=fun _ _ h=>by rw[←J5];exact qbj h
 have Vp:∀x y,0≤x→oZ x y=x%y:=fun _ _ h=>by rw[←sg];exact qa8 h
 have hW:∀x,-9223372036854775808≤x→x<9223372036854775808→bu .i64 x=x:=fun _ h1 h2=>by rw[←mz];exact dy h1 h2
 have YG:∀x,0≤x→x<256→bu .u8 x=x:=fun _ h1 h2=>by rw[←mz];exact Zx h1 h2
 have wd:∀x d,d=48+x%10→0≤x→x<1000→bu .u8 (bu .i64 (df 48 (oZ x 10)))=d:=fun x d hd h1 h2=>by subst hd;rw[Vp _ _ h1,zc,hW,YG]<;>omega
 refine gK ?_;refine ae (by rw[←ahq];simp[aF]) ?_;rw[show eV 3 [PV.int IntKind.u8 0]=[[.int .u8 0],[.int .u8 0],[.int .u8 0]] by rw[←agf];rfl];refine gK ?_;rw[show bu .i64 (cP 3 1)=2 by rw[fu,hW]<;>omega];refine acG ?_;refine ej ?_;refine bp.af (fun hx=>?_) (fun hx=>?_)
 rotate_left
 ·exfalso;rw[←bC]at hx;simp at hx
 clear hx
 refine aY ?_;refine ae (by rw[←Ab];simp) ?_;refine gK ?_;rw[wd n d0 XG (by omega) (by omega)];refine ae (by rw[←aP];simp[aF]) ?_;refine gK ?_;refine ae (by rw[←Ab];simp) ?_;rw[show nJ [[.int .u8 0],[.int .u8 0],[.int .u8 0]] 2 0 [.int .u8 d0]=[[.int .u8 0],[.int .u8 0],[.int .u8 d0]] by rw[←EB];rfl];rw[show bu .i64 (yy n 10)=n1 by rw[aaZ _ _ (by omega),hW]<;>omega];refine gK ?_;refine ta ?_;rw[show bu .i64 (cP 2 1)=1 by rw[fu,hW]<;>omega]
 refine acG ?_;refine ej ?_;refine bp.af (fun hx=>?_) (fun hx=>?_)
 rotate_left
 ·exfalso;rw[←bC]at hx;simp at hx
 clear hx
 refine aY ?_;refine ae (by rw[←Ab];simp) ?_;refine gK ?_;rw[wd n1 d1 hd1 (by omega) (by omega)];refine ae (by rw[←aP];simp[aF]) ?_;refine gK ?_;refine ae (by rw[←Ab];simp) ?_;rw[show nJ [[.int .u8 0],[.int .u8 0],[.int .u8 d0]] 1 0 [.int .u8 d1]=[[.int .u8 0],[.int .u8 d1],[.int .u8 d0]] by rw[←EB];rfl];rw[show bu .i64 (yy n1 10)=n2 by rw[aaZ _ _ (by omega),hW]<;>omega];refine gK ?_;refine ta ?_;rw[show bu .i64 (cP 1 1)=0 by rw[fu,hW]<;>omega]
 refine acG ?_;refine ej ?_;refine bp.af (fun hx=>?_) (fun hx=>?_)
 rotate_left
 ·exfalso;rw[←bC]at hx;simp at hx
 clear hx
 refine aY ?_;refine ae (by rw[←Ab];simp) ?_;refine gK ?_;rw[wd n2 d2 um (by omega) (by omega)];refine ae (by rw[←aP];simp[aF]) ?_;refine gK ?_;refine ae (by rw[←Ab];simp) ?_;rw[show nJ [[.int .u8 0],[.int .u8 d1],[.int .u8 d0]] 0 0 [.int .u8 d2]=[[.int .u8 d2],[.int .u8 d1],[.int .u8 d0]] by rw[←EB];rfl];rw[show bu .i64 (yy n2 10)=n3 by rw[aaZ _ _ (by omega),hW]<;>omega];refine gK ?_;refine ta ?_
 rw[show bu .i64 (cP 0 1)=(-1) by rw[fu,hW]<;>omega];refine acG ?_;refine ej ?_;refine bp.af (fun hx=>?_) (fun hx=>?_)
 ·exfalso;rw[←bC]at hx;simp at hx
 clear hx
 refine aY ?_;refine wW rfl ?_;refine gK ?_;refine ae (by rw[←aeK];intro r hr;simp at hr;rcases hr with rfl|rfl|rfl<;>exact⟨_,rfl⟩) ?_;rw[show yx [[.int .u8 d2],[.int .u8 d1],[.int .u8 d0]]=t by rw[←ac0,ht];simp only[aF,qaj,qaF];rw[ahp (n:=n/100) (d:=d2) (by omega) (by omega),ahp (n:=n/10) (d:=d1) (by omega) (by omega),ahp (n:=n) (d:=d0) (by omega) (by omega)]];refine gK ?_;refine aX ?_
 rfl
theorem ada {n:Int} {t:List UInt8} (h:0≤n∧n<1000) (ht:t=[dig (n/10),dig n]):pC mx 261 [.int .i64 n,.int .i64 2] (.str t):=by
 obtain⟨d0,XG⟩:∃d,d=48+n%10:=⟨_,rfl⟩;obtain⟨n1,Zk⟩:∃m,m=n/10:=⟨_,rfl⟩;obtain⟨d1,hd1⟩:∃d,d=48+n1%10:=⟨_,rfl⟩;obtain⟨n2,hn2⟩:∃m,m=n1/10:=⟨_,rfl⟩;refine pZ NL ?_
 iterate 81 intro _
 intro ahq eV agf nJ EB
 iterate 11 intro _
 intro yx aeK ac0 _ Ab _ tV Ci _ yy J5 _ _ _ _ oZ sg _ _ _ _ _ cP cY df aw bu mz _ _ _ aP zI aU aV bC bA ag aC
 have zc:∀x y,df x y=x+y:=fun _ _=>by rw[←aw];rfl
 have fu:∀x y,cP x y=x-y:=fun _ _=>by rw[←cY];rfl
 have hmul:∀x y,tV x y=x*y:=fun _ _=>by rw[←Ci];rfl
 have aaZ:∀x y,0≤x→yy x y=x/y:=fun _ _ h=>by rw[←J5];exact qbj h
 have Vp:∀x y,0≤x→oZ x y=x%y:=fun _ _ h=>by rw[←sg];exact qa8 h
 have hW:∀x,-9223372036854775808≤x→x<9223372036854775808→bu .i64 x=x:=fun _ h1 h2=>by rw[←mz];exact dy h1 h2
 have YG:∀x,0≤x→x<256→bu .u8 x=x:=fun _ h1 h2=>by rw[←mz];exact Zx h1 h2
 have wd:∀x d,d=48+x%10→0≤x→x<1000→bu .u8 (bu .i64 (df 48 (oZ x 10)))=d:=fun x d hd h1 h2=>by subst hd;rw[Vp _ _ h1,zc,hW,YG]<;>omega
 refine gK ?_;refine ae (by rw[←ahq];simp[aF]) ?_;rw[show eV 2 [PV.int IntKind.u8 0]=[[.int .u8 0],[.int .u8 0]] by rw[←agf];rfl];refine gK ?_;rw[show bu .i64 (cP 2 1)=1 by rw[fu,hW]<;>omega];refine acG ?_;refine ej ?_;refine bp.af (fun hx=>?_) (fun hx=>?_)
 rotate_left
 ·exfalso;rw[←bC]at hx;simp at hx
 clear hx
 refine aY ?_;refine ae (by rw[←Ab];simp) ?_;refine gK ?_;rw[wd n d0 XG (by omega) (by omega)];refine ae (by rw[←aP];simp[aF]) ?_;refine gK ?_;refine ae (by rw[←Ab];simp) ?_;rw[show nJ [[.int .u8 0],[.int .u8 0]] 1 0 [.int .u8 d0]=[[.int .u8 0],[.int .u8 d0]] by rw[←EB];rfl];rw[show bu .i64 (yy n 10)=n1 by rw[aaZ _ _ (by omega),hW]<;>omega];refine gK ?_;refine ta ?_;rw[show bu .i64 (cP 1 1)=0 by rw[fu,hW]<;>omega]
 refine acG ?_;refine ej ?_;refine bp.af (fun hx=>?_) (fun hx=>?_)
 rotate_left
 ·exfalso;rw[←bC]at hx;simp at hx
 clear hx
 refine aY ?_;refine ae (by rw[←Ab];simp) ?_;refine gK ?_;rw[wd n1 d1 hd1 (by omega) (by omega)];refine ae (by rw[←aP];simp[aF]) ?_;refine gK ?_;refine ae (by rw[←Ab];simp) ?_;rw[show nJ [[.int .u8 0],[.int .u8 d0]] 0 0 [.int .u8 d1]=[[.int .u8 d1],[.int .u8 d0]] by rw[←EB];rfl];rw[show bu .i64 (yy n1 10)=n2 by rw[aaZ _ _ (by omega),hW]<;>omega];refine gK ?_;refine ta ?_;rw[show bu .i64 (cP 0 1)=(-1) by rw[fu,hW]<;>omega]
 refine acG ?_;refine ej ?_;refine bp.af (fun hx=>?_) (fun hx=>?_)
 ·exfalso;rw[←bC]at hx;simp at hx
 clear hx
 refine aY ?_;refine wW rfl ?_;refine gK ?_;refine ae (by rw[←aeK];intro r hr;simp at hr;rcases hr with rfl|rfl<;>exact⟨_,rfl⟩) ?_;rw[show yx [[.int .u8 d1],[.int .u8 d0]]=t by rw[←ac0,ht];simp only[aF,qaj,qaF];rw[ahp (n:=n/10) (d:=d1) (by omega) (by omega),ahp (n:=n) (d:=d0) (by omega) (by omega)]];refine gK ?_;refine aX ?_;rfl
abbrev Iso:=List UInt8×Int×Bool×Bool
def air (x:Iso):List PV:=[.str x.1,.int .u8 x.2.1,.bool x.2.2.1,.bool x.2.2.2]
def ab1:List Iso:=[([50,50,71,49],20,false,false),([50,50,82,49],20,false,true),([52,50,71,49],40,false,false),([52,50,82,49],40,false,true),([52,53,71,49],40,true,false),([52,53,82,49],40,true,true)]
def adG (size:Int) (high cK:Bool):List UInt8×Int:=
 if size=20∧high=false then(if cK then [50,50,82,49]else [50,50,71,49],0)
 else if size=40 then(if high then(if cK then [52,53,82,49]else [52,53,71,49])else(if cK then [52,50,82,49]else [52,50,71,49]),0)
 else([],32)
theorem ais {v:Nat} (hv:v<ab1.length):adG ab1[v].2.1 ab1[v].2.2.1 ab1[v].2.2.2=(ab1[v].1,0):=by
 have:∀v,(h:v<ab1.length)→adG ab1[v].2.1 ab1[v].2.2.1 ab1[v].2.2.2=(ab1[v].1,0):=by
  intro v h
  match v,h with
  |0,_=>rfl
  |1,_=>rfl
  |2,_=>rfl
  |3,_=>rfl
  |4,_=>rfl
  |5,_=>rfl
  |v+6,h=>exact absurd h (by simp[ab1])
 exact this v hv
theorem ahr {size:Int} {high cK:Bool} (h:∀v,(hv:v<ab1.length)→¬(ab1[v].2.1=size∧ab1[v].2.2.1=high∧ab1[v].2.2.2=cK)):adG size high cK=([],32):=by
 have h0:=h 0 (by simp[ab1]);have h1:=h 1 (by simp[ab1]);have h2:=h 2 (by simp[ab1]);have h3:=h 3 (by simp[ab1]);have h4:=h 4 (by simp[ab1]);have h5:=h 5 (by simp[ab1]);simp only[ab1,qci,List.getElem_cons_succ]at h0 h1 h2 h3 h4 h5;unfold adG
 cases high<;>cases cK<;>simp at h0 h1 h2 h3 h4 h5 ⊢ <;>(repeat' split)<;>simp_all<;>omega
theorem ait {size:Int} {high cK:Bool} {t:List UInt8} {e:Int} (hr:adG size high cK=(t,e)):pC mx 262 [.agg [.int .u8 size,.bool high,.bool cK]] (.eN [.str t,.int .i64 e]):=by
 obtain⟨R,hR⟩:∃R,R=ab1.map air:=⟨_,rfl⟩
 have hR':R=[[PV.str [50,50,71,49],PV.int IntKind.u8 20,PV.bool false,PV.bool false],[PV.str [50,50,82,49],PV.int IntKind.u8 20,PV.bool false,PV.bool true],[PV.str [52,50,71,49],PV.int IntKind.u8 40,PV.bool false,PV.bool false],[PV.str [52,50,82,49],PV.int IntKind.u8 40,PV.bool false,PV.bool true],[PV.str [52,53,71,49],PV.int IntKind.u8 40,PV.bool true,PV.bool false],[PV.str [52,53,82,49],PV.int IntKind.u8 40,PV.bool true,PV.bool true]]:=by rw[hR];rfl
 have hlen:R.length=ab1.length:=by simp[hR]
 have hl6:ab1.length=6:=rfl;refine pZ NN ?_
 iterate 86 intro _
 intro Kl Sv
 iterate 34 intro _
 intro aw _ mz aI aQ aJ aP zI aU aV bC bA ag aC;refine gK ?_;rw[←hR'];refine bQ [1,6,7,8] [none,some 1] (fun v σ_=>σ_.put (some 8) (.pv (.int .i64 (Int.ofNat v)))) (ab1.length) (fun k=>(∀h:k<ab1.length,¬(ab1[k].2.1=size∧ab1[k].2.2.1=high∧ab1[k].2.2.2=cK))) ?_;intro v hv hk;refine ej ?_;refine bp.af (fun hd=>?_) (fun hd=>?_)
 ·have aT:v<ab1.length:=by rw[←aC,←ag]at hd;simp only[ade,X5,qae,qbG]at hd;omega
  have pY:=ais aT;obtain⟨⟨t1,sz,hg,rf⟩,hx⟩:∃x,ab1[v]=x:=⟨_,rfl⟩;rw[hx]at pY;dsimp only at pY
  have ec:aJ (Int.ofNat v) R 4:=by rw[←aP,hR];exact aO (enc:=air) aT rfl
  have bK:aI R (Int.ofNat v)=[.str t1,.int .u8 sz,.bool hg,.bool rf]:=by rw[←aQ,hR,aN (enc:=air) aT,hx];rfl
  refine aY ?_;refine ae ec ?_;rw[bK];refine gK ?_;refine bp.af (fun he=>?_) (fun he=>?_)
  ·rw[←Sv]at he;simp[JK]at he;refine aY ?_;refine ae (by rw[←Kl];simp[aR]) ?_;refine gK ?_;refine dS ?_;rw[he.1,he.2.1,he.2.2,hr]at pY;obtain⟨rfl,rfl⟩:=qcc pY;rfl
  ·rw[←Sv]at he;simp[JK]at he;refine aY ?_;refine ae (by rw[←Kl];simp[aR]) ?_;refine gK ?_;refine ta ⟨aT,fun _ h=>?_,?_⟩
   ·rw[hx]at h;exact he h.1 h.2.1 h.2.2
   rw[wS mz aw (v:=v) (by omega)]
   cbv
 ·have aT:v=ab1.length:=by rw[←aC,←ag]at hd;simp only[ade,X5,qad,qbG]at hd;omega
  refine aY ?_;refine wW rfl ?_;refine gK ?_;refine aX ?_;rw[ahr (fun k eR=>hk k (by omega) eR)]at hr;obtain⟨rfl,rfl⟩:=qcc hr;rfl
theorem afk {x:bw} {cs:List PV} (hcs:cs=x.enc) {t:List UInt8} {e:Int} (hr:aaU x=(t,e)):pC mx 172 [.agg cs] (.eN [.str t,.int .i64 e]):=by
 subst hcs;obtain⟨id,num,size,high,cD,load,oz,cls,cK⟩:=x;show pC mx 172 [.agg [.int .i64 id,.str num,.int .u8 size,.bool high,.int .i64 cD,.int .i64 load,.int .i64 oz,.int .u8 cls,.bool cK]] (.eN [.str t,.int .i64 e]);obtain⟨⟨t1,e1⟩,h1⟩:∃x,adG size high cK=x:=⟨_,rfl⟩
 have mW:(e1=0∧(t,e)=(t1,0))∨(e1≠0∧(t,e)=([],60)):=by
  rw[←hr];unfold adG at h1;unfold aaU;dsimp only
  (repeat' split at h1)<;>(try(obtain⟨rfl,rfl⟩:=qcc h1))<;>simp_all
 refine pZ NP ?_
 iterate 129 intro _
 intro zI aU aV bC bA ag aC;refine gK ?_;refine ao (by cbv) (ait h1) (fun h=>by first|rfl|cases h) ?_;refine gK ?_
 rcases mW with⟨h2,h3⟩|⟨h2,h3⟩
 ·obtain⟨rfl,rfl⟩:=qcc h3;subst h2;refine bp.af (fun hc=>by exfalso;(first|rw[←aC]at hc|rw[←bC]at hc|(rw[←aV]at hc;first|rw[←bA]at hc|rw[←aU]at hc)|rw[←bA]at hc|rw[←aU]at hc);simp at hc;skip) (fun _=>?_);refine aY ?_;refine aX ?_;rfl
 ·obtain⟨rfl,rfl⟩:=qcc h3;refine bp.af (fun h4=>?_) (fun h4=>?_)
  ·refine aY ?_;refine aX ?_;rfl
  ·replace h4:=eE h4
   exact absurd h4 h2
theorem afj {c csp vv vsp r rsp f fsp t tsp:List (List PV)} {l1 l2 l3 l4 m1 m2 m3 m4:Int} {cl:List aL} {vl:List bz} {x:Slot} {t0:List UInt8} {e:Int} (jI:c=cl.map aL.enc) (pN:vv=vl.map bz.enc) (wU:cl.length<2^32) (Hn:vl.length<2^32) (CS:∀x∈cl,x.cq.length<2^32) (AE:∀x∈vl,x.rows.length<2^16) (hx:0≤x.half∧x.half<256)
  (hr:YX cl vl x=(t0,e)):pC mx 171 [.agg [.sl c csp,.sl vv vsp,.int .i64 l1,.int .i64 l2,.int .i64 l3,.int .i64 l4,.sl r rsp,.sl f fsp,.sl t tsp,.int .i64 m1,.int .i64 m2,.int .i64 m3,.int .i64 m4],.agg [.int .i64 x.column,.int .i64 x.tier,.int .u8 x.half]] (.eN [.str t0,.int .i64 e]):=by
 have hlen:c.length=cl.length:=by simp[jI]
 unfold YX at hr;refine pZ NM ?_
 iterate 78 intro _
 intro Ga vU Gb
 iterate 12 intro _
 intro I9 _ afl afm _ _ _ _ Ab _ tV Ci _ yy J5 _ _ _ _ oZ sg _ _ _ _ _ cP cY df aw bu mz aI aQ aJ aP zI aU aV bC bA ag aC;refine gK ?_;refine cU (by cbv) (Aj jI pN wU Hn CS AE rfl) (fun h=>?_) (fun h=>?_)<;>simp only[qae,qad]at h
 ·have kN:=h;rw[qai (by simpa using kN)]at hr
  have hcs:(¬fy cl x 20∧¬fy cl x 40)∨fy cl x 20∨(¬fy cl x 20∧fy cl x 40):=by
   by_cases h1:fy cl x 20<;>by_cases h2:fy cl x 40<;>simp[h1,h2]
  rcases hcs with⟨h20,h40⟩|hcs
  ·rw[qao ⟨h20,h40⟩]at hr
   cases hr
   refine gK ?_;refine ao (by cbv) (Gf (size:=20) (res:=false) jI wU (qa4 h20).symm) (fun h=>by first|rfl|cases h) ?_;refine gK ?_;refine ao (by cbv) (Gf (size:=40) (res:=false) jI wU (qa4 h40).symm) (fun h=>by first|rfl|cases h) ?_;refine gK ?_;refine aX ?_;rfl
  ·have hn40:¬(¬fy cl x 20∧¬fy cl x 40):=by
    rintro⟨h1,h2⟩
    rcases hcs with h|h
    ·exact h1 h
    ·exact h2 h.2
   rw[qai hn40]at hr
   have ec:0≤x.column∧x.column<cl.length∧0≤x.tier∧(∀h:x.column.toNat<cl.length,x.tier<cl[x.column.toNat].dv)∧(x.half=0∨x.half=1∨x.half=2):=by
    rcases hcs with h|h
    ·exact⟨h.1.1,h.1.2.1,h.1.2.2.1,h.1.2.2.2,by have:=h.2;omega⟩
    ·exact⟨h.2.1.1,h.2.1.2.1,h.2.1.2.2.1,h.2.1.2.2.2,by have:=h.2.2;omega⟩
   obtain⟨n,hn⟩:∃n:Nat,x.column=Int.ofNat n:=⟨x.column.toNat,by simp;omega⟩;obtain⟨xc,xt,xh⟩:=x;dsimp only at hn ec hcs hr hx ⊢;subst hn
   have uF:n<cl.length:=by have:=ec.2.1;simpa using this
   obtain⟨-,-,ht0,ht1,ajp⟩:=ec;have htn:=ht1 (by simpa using uF);simp only[qcb,qbG]at htn hr;have Ie:=(kN.2.1 n uF).1;obtain⟨gI,bj⟩:∃x,cl[n]=x:=⟨_,rfl⟩
   have bG:aJ (Int.ofNat n) c 12:=by rw[←aP,jI];exact aO (enc:=aL.enc) uF rfl
   obtain⟨⟨dU,jE,gJ,eI,eB,kx,ky,ia,dw,kz,pn,po,pq⟩,bW⟩:∃y,gI=y:=⟨_,rfl⟩;subst bW
   have aW:aI c (Int.ofNat n)=[.int .i64 dU,.int .i64 jE,.bool gJ,.int .i64 eI,.int .i64 eB,.int .i64 kx,.int .i64 ky,.int .i64 ia,.sl (ints dw) kz,.int .i64 pn,.int .i64 po,.int .i64 pq]:=by rw[←aQ,jI,aN (enc:=aL.enc) uF,bj];rfl
   obtain⟨wV,gL⟩:∃p,p=ints dw:=⟨_,rfl⟩;rw[←gL]at aW;rw[bj]at htn Ie;rw[qag uF,bj]at hr;obtain⟨-,ajq,bK,ahs,-⟩:=Ie;unfold In at ajq bK ahs;dsimp only at htn hr ajq bK ahs;obtain⟨N,hN⟩:∃N:Int,(if xh=0 then 2 else if xh=1 then 1 else 3)=N:=⟨_,rfl⟩
   have hNN:(xh=0∧N=2)∨(xh=1∧N=1)∨(xh=2∧N=3):=by
    rcases ajp with h|h|h
    ·left;exact⟨h,by rw[←hN,qao h]⟩
    ·right;left;exact⟨h,by rw[←hN,qai (by omega),qao h]⟩
    ·right;right;exact⟨h,by rw[←hN,qai (by omega),qai (by omega)]⟩
   rw[hN]at hr
   clear hN
   obtain⟨q,hq⟩:∃q,q=4*dU+N:=⟨_,rfl⟩
   obtain⟨D,hD⟩:∃D:Int,D=if gJ=true then 80 else 0:=⟨_,rfl⟩
   obtain⟨tt,Iw⟩:∃t,t=(2*(xt+1)+D)%100:=⟨_,rfl⟩;rw[←hD,←hq,←Iw]at hr;obtain⟨t1,ht1⟩:∃t,t=[dig (q/100),dig (q/10),dig q]:=⟨_,rfl⟩;obtain⟨t2,ht2⟩:∃t,t=[dig (jE/10),dig jE]:=⟨_,rfl⟩;obtain⟨t3,ht3⟩:∃t,t=[dig (tt/10),dig tt]:=⟨_,rfl⟩
   have ht0:t0=t1++t2++t3:=by rw[ht1,ht2,ht3];exact(qcc hr).1.symm
   have he0:e=0:=(qcc hr).2.symm;subst he0
   have zc:∀x y,df x y=x+y:=fun _ _=>by rw[←aw];rfl
   have fu:∀x y,cP x y=x-y:=fun _ _=>by rw[←cY];rfl
   have hmul:∀x y,tV x y=x*y:=fun _ _=>by rw[←Ci];rfl
   have aaZ:∀x y,0≤x→yy x y=x/y:=fun _ _ h=>by rw[←J5];exact qbj h
   have Vp:∀x y,0≤x→oZ x y=x%y:=fun _ _ h=>by rw[←sg];exact qa8 h
   have hW:∀x,-9223372036854775808≤x→x<9223372036854775808→bu .i64 x=x:=fun _ h1 h2=>by rw[←mz];exact dy h1 h2
   have YG:∀x,0≤x→x<256→bu .u8 x=x:=fun _ h1 h2=>by rw[←mz];exact Zx h1 h2
   rcases hcs with h20|⟨h20,h40⟩
   rotate_left
   ·refine gK ?_;refine ao (by cbv) (Gf (x:=⟨Int.ofNat n,xt,xh⟩) (size:=20) (res:=false) jI wU (qa4 h20).symm) (fun h=>by first|rfl|cases h) ?_;refine gK ?_;refine ao (by cbv) (Gf (x:=⟨Int.ofNat n,xt,xh⟩) (size:=40) (res:=true) jI wU (qbT h40).symm) (fun h=>by first|rfl|cases h) ?_;refine gK ?_;refine ae bG ?_;rw[aW];obtain⟨w,hw⟩:∃w,w=2*(xt+1)+D:=⟨_,rfl⟩;rw[←hw]at Iw;obtain⟨t12,agh⟩:∃t,t=t1++t2:=⟨_,rfl⟩
    cases gJ
    all_goals
     refine gK ?_;simp only[qaP,qaW,qax]at hD
     first|rw[show bu .i64 (df (bu .i64 (tV 2 (bu .i64 (df xt 1)))) 80)=w by simp(disch:=omega) only[zc,hmul,hW];omega]|rw[show bu .i64 (tV 2 (bu .i64 (df xt 1)))=w by simp(disch:=omega) only[zc,hmul,hW];omega]
     refine ae (by rw[←Ga];exact⟨by omega,by omega⟩) ?_
     rcases hNN with⟨rfl,rfl⟩|⟨rfl,rfl⟩|⟨rfl,rfl⟩
     all_goals
      first|rw[show vU 0 1=0 by rw[←Gb];rfl]|rw[show vU 1 1=1 by rw[←Gb];rfl]|rw[show vU 2 1=2 by rw[←Gb];rfl]
      refine gK ?_
      first|rw[show bu .i64 (df (bu .i64 (tV 4 dU)) 2)=q by simp(disch:=omega) only[zc,hmul,hW];omega]|rw[show bu .i64 (df (bu .i64 (tV 4 dU)) 1)=q by simp(disch:=omega) only[zc,hmul,hW];omega]|rw[show bu .i64 (df (bu .i64 (tV 4 dU)) 3)=q by simp(disch:=omega) only[zc,hmul,hW];omega]
      refine bF (by cbv) (aeJ ⟨by omega,by omega⟩ ht1) (fun h=>by first|rfl|cases h) ?_;refine gK ?_;refine bF (by cbv) (ada ⟨by omega,by omega⟩ ht2) (fun h=>by first|rfl|cases h) ?_;refine gK ?_;refine ae (by rw[←afl,X9,ht1,ht2];simp) ?_;rw[show I9 t1 t2=t12 by rw[←afm,agh];rfl];refine gK ?_;refine ae (by rw[←Ab];simp) ?_;rw[show oZ w 100=tt by rw[Vp _ _ (by omega),Iw]];refine gK ?_;refine bF (by cbv) (ada ⟨by omega,by omega⟩ ht3) (fun h=>by first|rfl|cases h) ?_
      refine gK ?_;refine ae (by rw[←afl,X9,agh,ht1,ht2,ht3];simp) ?_;rw[show I9 t12 t3=t0 by rw[←afm,ht0,agh];rfl];refine gK ?_;refine aX ?_;rfl
   ·refine gK ?_;refine ao (by cbv) (Gf (x:=⟨Int.ofNat n,xt,xh⟩) (size:=20) (res:=true) jI wU (qbT h20).symm) (fun h=>by first|rfl|cases h) ?_;refine gK ?_;refine ae bG ?_;rw[aW];obtain⟨w,hw⟩:∃w,w=2*(xt+1)+D:=⟨_,rfl⟩;rw[←hw]at Iw;obtain⟨t12,agh⟩:∃t,t=t1++t2:=⟨_,rfl⟩
    cases gJ
    all_goals
     refine gK ?_;simp only[qaP,qaW,qax]at hD
     first|rw[show bu .i64 (df (bu .i64 (tV 2 (bu .i64 (df xt 1)))) 80)=w by simp(disch:=omega) only[zc,hmul,hW];omega]|rw[show bu .i64 (tV 2 (bu .i64 (df xt 1)))=w by simp(disch:=omega) only[zc,hmul,hW];omega]
     refine ae (by rw[←Ga];exact⟨by omega,by omega⟩) ?_
     rcases hNN with⟨rfl,rfl⟩|⟨rfl,rfl⟩|⟨rfl,rfl⟩
     all_goals
      first|rw[show vU 0 1=0 by rw[←Gb];rfl]|rw[show vU 1 1=1 by rw[←Gb];rfl]|rw[show vU 2 1=2 by rw[←Gb];rfl]
      refine gK ?_
      first|rw[show bu .i64 (df (bu .i64 (tV 4 dU)) 2)=q by simp(disch:=omega) only[zc,hmul,hW];omega]|rw[show bu .i64 (df (bu .i64 (tV 4 dU)) 1)=q by simp(disch:=omega) only[zc,hmul,hW];omega]|rw[show bu .i64 (df (bu .i64 (tV 4 dU)) 3)=q by simp(disch:=omega) only[zc,hmul,hW];omega]
      refine bF (by cbv) (aeJ ⟨by omega,by omega⟩ ht1) (fun h=>by first|rfl|cases h) ?_;refine gK ?_;refine bF (by cbv) (ada ⟨by omega,by omega⟩ ht2) (fun h=>by first|rfl|cases h) ?_;refine gK ?_;refine ae (by rw[←afl,X9,ht1,ht2];simp) ?_;rw[show I9 t1 t2=t12 by rw[←afm,agh];rfl];refine gK ?_;refine ae (by rw[←Ab];simp) ?_;rw[show oZ w 100=tt by rw[Vp _ _ (by omega),Iw]];refine gK ?_;refine bF (by cbv) (ada ⟨by omega,by omega⟩ ht3) (fun h=>by first|rfl|cases h) ?_
      refine gK ?_;refine ae (by rw[←afl,X9,agh,ht1,ht2,ht3];simp) ?_;rw[show I9 t12 t3=t0 by rw[←afm,ht0,agh];rfl];refine gK ?_;refine aX ?_;rfl
 ·rw[qao h]at hr
  cases hr
  refine gK ?_;refine aX ?_;rfl
def ag9:Prop:=∀{n:Nat} {t:List UInt8},n<2^40→t=digits n→pC mx 32 [.int .i64 (Int.ofNat n)] (.str t)
theorem aga (hI:ag9 (mx:=mx)) {c csp vv vsp r rsp f fsp t tsp:List (List PV)} {l1 l2 l3 l4 m1 m2 m3 m4:Int} {rows sp brows bsp W:List (List PV)} {cl:List aL} {vl:List bz} {l:List aH} {boxes:List bw} {call:Int} {port ref:List UInt8} (jI:c=cl.map aL.enc) (pN:vv=vl.map bz.enc) (wU:cl.length<2^32) (Hn:vl.length<2^32) (CS:∀x∈cl,x.cq.length<2^32) (AE:∀x∈vl,x.rows.length<2^16)
  (eS:rows=l.map aH.enc) (jb:brows=boxes.map bw.enc) (hl:l.length<2^20) (lO:boxes.length<2^20) (bO:∀x∈l,kL x) (vf:∀b∈boxes,og b) (hS:abJ cl vl call port boxes l) (hW:W=(aaT cl vl call port boxes l boxes.length).map Ug):
  pC mx 86 [.agg [.sl c csp,.sl vv vsp,.int .i64 l1,.int .i64 l2,.int .i64 l3,.int .i64 l4,.sl r rsp,.sl f fsp,.sl t tsp,.int .i64 m1,.int .i64 m2,.int .i64 m3,.int .i64 m4],.str ref,.agg [.int .i64 call,.str port,.sl brows bsp,.sl rows sp]] (.agg [.str abH,.str ref,.sl W []]):=by
 have Gd:rows.length=l.length:=by simp[eS]
 have KD:brows.length=boxes.length:=by simp[jb]
 obtain⟨k,hk⟩:∃k:Nat,call=Int.ofNat k:=⟨call.toNat,by have:=hS.1;simp;omega⟩;obtain⟨px,agY,E6,agb,afx,haboard⟩:=hS;obtain⟨kd,hkd⟩:∃x,x=digits k:=⟨_,rfl⟩;subst hk;refine pZ Jy ?_
 iterate 105 intro _
 intro yR
 iterate 10 intro _
 intro dF bJ bX _ _ df aw bu mz aI aQ aJ aP zI aU aV bC bA ag aC;refine gK ?_;refine bF (by cbv) (hI (n:=k) (by have:=px.2;simp at this;omega) hkd) (fun h=>by first|rfl|cases h) ?_;refine gK ?_;refine bF (by cbv) (ab0 (l:=[kd,port]) rfl rfl (by simp)) (fun h=>by first|rfl|cases h) ?_;refine gK ?_;refine acG ?_;refine ej ?_;refine bp.af (fun h1=>?_) (fun h1=>?_)
 ·have h0:0<boxes.length:=by rw[←aC,←ag]at h1;simp at h1;omega
  obtain⟨gI,bj⟩:∃x,boxes[0]=x:=⟨_,rfl⟩
  have bG:aJ (Int.ofNat 0) brows 9:=by rw[←aP,jb];exact aO (enc:=bw.enc) h0 rfl
  obtain⟨⟨iN,fO,eZ,Ut,eG,eA,gi,jl,dI⟩,bW⟩:∃y,gI=y:=⟨_,rfl⟩;subst bW
  have aW:aI brows (Int.ofNat 0)=[.int .i64 iN,.str fO,.int .u8 eZ,.bool Ut,.int .i64 eG,.int .i64 eA,.int .i64 gi,.int .u8 jl,.bool dI]:=by rw[←aQ,jb,aN (enc:=bw.enc) h0,bj];rfl
  have adO:0<l.length:=by omega
  obtain⟨Ac,fv⟩:∃x,l[0]=x:=⟨_,rfl⟩
  have gw:aJ (Int.ofNat 0) rows 4:=by rw[←aP,eS];exact aO (enc:=aH.enc) adO rfl
  obtain⟨⟨Kk,⟨Ge,Ah,Ai⟩⟩,jF⟩:∃y,Ac=y:=⟨_,rfl⟩;subst jF
  have dV:aI rows (Int.ofNat 0)=[.int .i64 Kk,.int .i64 Ge,.int .i64 Ah,.int .u8 Ai]:=by rw[←aQ,eS,aN (enc:=aH.enc) adO,fv];rfl
  have afG:=(agb.2 0 h0 h0).1;have afH:=bO _ (qaf adO);rw[bj]at afG;rw[fv]at afH;obtain⟨⟨aha,afI⟩,-,-,⟨ahb,aeB⟩,⟨ahc,afJ,hdi⟩,afK⟩:=afG;dsimp only at aha afI ahb aeB ahc afJ hdi afK;have afL:=vf _ (qaf h0);rw[bj]at afL;have afX:=afL.2.1.1;dsimp only at afX
  have hkm:eG≤40000:=by unfold most at aeB;(repeat' split at aeB)<;>omega
  obtain⟨nid,ahd⟩:∃n:Nat,iN=Int.ofNat n:=⟨iN.toNat,by simp;omega⟩;obtain⟨nki,ahe⟩:∃n:Nat,eG=Int.ofNat n:=⟨eG.toNat,by simp;omega⟩;obtain⟨nlo,ahf⟩:∃n:Nat,eA=Int.ofNat n:=⟨eA.toNat,by simp;omega⟩;obtain⟨ndi,ahg⟩:∃n:Nat,gi=Int.ofNat n:=⟨gi.toNat,by simp;omega⟩;obtain⟨ncl,ahh⟩:∃n:Nat,jl=Int.ofNat n:=⟨jl.toNat,by simp;omega⟩;subst ahd ahe ahf ahg ahh;simp only[qbG]at afI hkm afJ hdi afK
  obtain⟨tid,aeC⟩:∃x,x=digits nid:=⟨_,rfl⟩;obtain⟨tki,aeD⟩:∃x,x=digits nki:=⟨_,rfl⟩;obtain⟨tlo,aeE⟩:∃x,x=digits nlo:=⟨_,rfl⟩;obtain⟨tdi,aeF⟩:∃x,x=digits ndi:=⟨_,rfl⟩;obtain⟨tcl,afM⟩:∃x,x=digits ncl:=⟨_,rfl⟩;obtain⟨⟨nm,e1⟩,Y8⟩:∃x,YX cl vl ⟨Ge,Ah,Ai⟩=x:=⟨_,rfl⟩;obtain⟨⟨cd,e2⟩,hcd⟩:∃x,aaU ⟨Int.ofNat nid,fO,eZ,Ut,Int.ofNat nki,Int.ofNat nlo,Int.ofNat ndi,Int.ofNat ncl,dI⟩=x:=⟨_,rfl⟩;refine aY ?_;refine ae bG ?_
  rw[show aI brows 0=_ from aW];refine gK ?_;refine ae gw ?_;rw[show aI rows 0=_ from dV];refine gK ?_;refine bF (by cbv) (afj (x:=⟨Ge,Ah,Ai⟩) jI pN wU Hn CS AE afH.2.2.2 Y8) (fun h=>by first|rfl|cases h) ?_;refine gK ?_;refine ao (by cbv) (afk (cs:=[.int .i64 (Int.ofNat nid),.str fO,.int .u8 eZ,.bool Ut,.int .i64 (Int.ofNat nki),.int .i64 (Int.ofNat nlo),.int .i64 (Int.ofNat ndi),.int .u8 (Int.ofNat ncl),.bool dI]) rfl hcd) (fun h=>by first|rfl|cases h) ?_
  refine gK ?_;refine bF (by cbv) (ab0 (l:=[nm]) rfl rfl (by simp)) (fun h=>by first|rfl|cases h) ?_;refine gK ?_;refine bF (by cbv) (hI (n:=nid) (by omega) aeC) (fun h=>by first|rfl|cases h) ?_;refine gK ?_;refine bF (by cbv) (ab0 (l:=[tid,fO,cd]) rfl rfl (by simp)) (fun h=>by first|rfl|cases h) ?_;refine gK ?_;refine bF (by cbv) (hI (n:=nki) (by omega) aeD) (fun h=>by first|rfl|cases h) ?_;refine gK ?_
  refine bF (by cbv) (ab0 (l:=[tki]) rfl rfl (by simp)) (fun h=>by first|rfl|cases h) ?_;refine gK ?_;refine bF (by cbv) (hI (n:=nlo) (by omega) aeE) (fun h=>by first|rfl|cases h) ?_;refine gK ?_;refine bF (by cbv) (hI (n:=ndi) (by omega) aeF) (fun h=>by first|rfl|cases h) ?_;refine gK ?_;refine bF (by cbv) (ab0 (l:=[tlo,tdi]) rfl rfl (by simp)) (fun h=>by first|rfl|cases h) ?_;refine gK ?_;have Sx:=acJ (c:=cl) (v:=vl) (call:=Int.ofNat k) (port:=port) (boxes:=boxes) (l:=l) (n:=0) h0 adO
  rw[bj,fv]at Sx;obtain⟨z,hz⟩:∃z,z=(aaT cl vl (Int.ofNat k) port boxes l (0+1)).map Ug:=⟨_,rfl⟩;obtain⟨c4,Zc⟩:∃x,x=bJ [[.str [86,79,89],.sl [[.sl [[.str kd]] []],[.sl [[.str port]] []]] []]] [[.str [76,79,67],.sl [[.sl [[.str nm]] []]] []],[.str [69,81,68],.sl [[.sl [[.str tid]] []],[.sl [[.str fO]] []],[.sl [[.str cd]] []]] []],[.str [77,69,65],.sl [[.sl [[.str tki]] []]] []],[.str [82,70,70],.sl [[.sl [[.str tlo]] []],[.sl [[.str tdi]] []]] []]]:=⟨_,rfl⟩
  have adP:c4=(aaT cl vl (Int.ofNat k) port boxes l 0).map Ug++[[.str [76,79,67],.sl [[.sl [[.str nm]] []]] []],[.str [69,81,68],.sl [[.sl [[.str tid]] []],[.sl [[.str fO]] []],[.sl [[.str cd]] []]] []],[.str [77,69,65],.sl [[.sl [[.str tki]] []]] []],[.str [82,70,70],.sl [[.sl [[.str tlo]] []],[.sl [[.str tdi]] []]] []]]:=by rw[Zc,←bX,dj];congr 1;simp[aaT,Ug,acw,acp,hkd]
  refine ae ?_ ?_
  ·first|rw[←dF,←yR]|rw[←dF]
   refine⟨?_,by rw[aeg];right;simp⟩;rw[Ya];exact⟨by simp,by simp,by simp[fS,kE],fun r hr=>by simp at hr;subst hr;rfl⟩
  rw[←Zc];refine gK ?_;refine bp.af (fun uy=>?_) (fun uy=>?_)
  ·replace uy:=eE uy
   refine aY ?_;rw[show bu .i64 (Int.ofNat ncl)=Int.ofNat ncl by rw[←mz];simp only[n9];rw[dy]<;>simp<;>omega];refine bF (by cbv) (hI (n:=ncl) (by omega) afM) (fun h=>by first|rfl|cases h) ?_;refine gK ?_;refine bF (by cbv) (ab0 (l:=[tcl]) rfl rfl (by simp)) (fun h=>by first|rfl|cases h) ?_;refine gK ?_;refine ae ?_ ?_
   ·rw[←dF]
    have h4l:c4.length=(aaT cl vl (Int.ofNat k) port boxes l 0).length+4:=by rw[adP];simp
    have h4n:=acs (c:=cl) (v:=vl) (call:=Int.ofNat k) (port:=port) (boxes:=boxes) (l:=l) (n:=0);rw[Ya]
    exact⟨by rw[h4l];simp only[qaq,qaD];omega,by rw[h4l];simp only[qaq,qaD];omega,by simp[fS,kE],fun r hr=>by
     rw[adP]at hr
     rcases qav.1 hr with h|h
     ·exact Kh (enc:=Ug) (n:=2) (fun _=>rfl) _ r h
     ·simp at h
      rcases h with rfl|rfl|rfl|rfl<;>rfl⟩
   rw[show bJ c4 [[.str [68,71,83],.sl [[.sl [[.str tcl]] []]] []]]=z by
    rw[←bX,dj,hz,adP,Sx,qaX,qaR]
    congr 1
    simp only[abD,Y8,hcd];rw[qao (by simpa using uy)]
    simp[Ug,acw,acp,aeC,aeD,aeE,aeF,afM]]
   refine gK ?_;refine ta ?_;rw[show bu .i64 (df 0 1)=Int.ofNat (0+1) by subst_vars;exact kY (v:=0) (by omega),hz];refine bQ [3,5,6,7,25,26,27] (nn [3,3,1,5,0,6,0,7,67,75]) (fun v σ_=>σ_.put (some 27) (.pv (.int .i64 (Int.ofNat (v+1))))|>.aq 7 (.cells [.pv (.str [66,65,89,80,76,78]),.pv (.str ref),.c8 75 0])|>.aq 75 (.rows 2 ((aaT cl vl (Int.ofNat k) port boxes l (v+1)).map Ug) 0)) ((boxes.length-1)) (fun k=>True) ?_
   intro v hv hk
   try dsimp only
   generalize hw:v+1=w;generalize dA:(aaT cl vl (Int.ofNat k) port boxes l w).map Ug=cur;refine ej ?_;refine bp.af (fun hd=>?_) (fun hd=>?_)
   ·have aT:w<boxes.length:=by rw[←aC,←ag]at hd;simp at hd;omega
    have ahl:=acs (c:=cl) (v:=vl) (call:=Int.ofNat k) (port:=port) (boxes:=boxes) (l:=l) (n:=w)
    have ajm:cur.length≤1+5*w:=by rw[←dA];simpa using ahl
    have agc:aK 2 cur:=by rw[←dA];exact Kh (enc:=Ug) (fun _=>rfl) _
    obtain⟨x_c,wx⟩:∃x,boxes[w]=x:=⟨_,rfl⟩
    have Cm:aJ (Int.ofNat w) brows 9:=by rw[←aP,jb];exact aO (enc:=bw.enc) aT rfl
    obtain⟨⟨agd,acZ,adB,adC,acE,adD,aeG,aeH,acN⟩,ahm⟩:∃y,x_c=y:=⟨_,rfl⟩;subst ahm
    have wy:aI brows (Int.ofNat w)=[.int .i64 agd,.str acZ,.int .u8 adB,.bool adC,.int .i64 acE,.int .i64 adD,.int .i64 aeG,.int .u8 aeH,.bool acN]:=by rw[←aQ,jb,aN (enc:=bw.enc) aT,wx];rfl
    have adO:w<l.length:=by omega
    obtain⟨x_d,acq⟩:∃x,l[w]=x:=⟨_,rfl⟩
    have acX:aJ (Int.ofNat w) rows 4:=by rw[←aP,eS];exact aO (enc:=aH.enc) adO rfl
    obtain⟨⟨ahn,⟨aeI,adE,adF⟩⟩,adg⟩:∃y,x_d=y:=⟨_,rfl⟩;subst adg
    have acr:aI rows (Int.ofNat w)=[.int .i64 ahn,.int .i64 aeI,.int .i64 adE,.int .u8 adF]:=by rw[←aQ,eS,aN (enc:=aH.enc) adO,acq];rfl
    have afG:=(agb.2 w aT aT).1;have afH:=bO _ (qaf adO);rw[wx]at afG;rw[acq]at afH;obtain⟨⟨aha,afI⟩,-,-,⟨ahb,aeB⟩,⟨ahc,afJ,hdi⟩,afK⟩:=afG;dsimp only at aha afI ahb aeB ahc afJ hdi afK;have afL:=vf _ (qaf aT);rw[wx]at afL;have afX:=afL.2.1.1;dsimp only at afX
    have hkm:acE≤40000:=by unfold most at aeB;(repeat' split at aeB)<;>omega
    obtain⟨nid,ahd⟩:∃n:Nat,agd=Int.ofNat n:=⟨agd.toNat,by simp;omega⟩;obtain⟨nki,ahe⟩:∃n:Nat,acE=Int.ofNat n:=⟨acE.toNat,by simp;omega⟩;obtain⟨nlo,ahf⟩:∃n:Nat,adD=Int.ofNat n:=⟨adD.toNat,by simp;omega⟩;obtain⟨ndi,ahg⟩:∃n:Nat,aeG=Int.ofNat n:=⟨aeG.toNat,by simp;omega⟩;obtain⟨ncl,ahh⟩:∃n:Nat,aeH=Int.ofNat n:=⟨aeH.toNat,by simp;omega⟩;subst ahd ahe ahf ahg ahh;simp only[qbG]at afI hkm afJ hdi afK
    obtain⟨tid,aeC⟩:∃x,x=digits nid:=⟨_,rfl⟩;obtain⟨tki,aeD⟩:∃x,x=digits nki:=⟨_,rfl⟩;obtain⟨tlo,aeE⟩:∃x,x=digits nlo:=⟨_,rfl⟩;obtain⟨tdi,aeF⟩:∃x,x=digits ndi:=⟨_,rfl⟩;obtain⟨tcl,afM⟩:∃x,x=digits ncl:=⟨_,rfl⟩;obtain⟨⟨nm,e1⟩,Y8⟩:∃x,YX cl vl ⟨aeI,adE,adF⟩=x:=⟨_,rfl⟩;obtain⟨⟨cd,e2⟩,hcd⟩:∃x,aaU ⟨Int.ofNat nid,acZ,adB,adC,Int.ofNat nki,Int.ofNat nlo,Int.ofNat ndi,Int.ofNat ncl,acN⟩=x:=⟨_,rfl⟩;refine aY ?_
    refine ae Cm ?_;rw[wy];refine gK ?_;refine ae acX ?_;rw[acr];refine gK ?_;refine bF (by cbv) (afj (x:=⟨aeI,adE,adF⟩) jI pN wU Hn CS AE afH.2.2.2 Y8) (fun h=>by first|rfl|cases h) ?_;refine gK ?_;refine ao (by cbv) (afk (cs:=[.int .i64 (Int.ofNat nid),.str acZ,.int .u8 adB,.bool adC,.int .i64 (Int.ofNat nki),.int .i64 (Int.ofNat nlo),.int .i64 (Int.ofNat ndi),.int .u8 (Int.ofNat ncl),.bool acN]) rfl hcd) (fun h=>by first|rfl|cases h) ?_
    refine gK ?_;refine bF (by cbv) (ab0 (l:=[nm]) rfl rfl (by simp)) (fun h=>by first|rfl|cases h) ?_;refine gK ?_;refine bF (by cbv) (hI (n:=nid) (by omega) aeC) (fun h=>by first|rfl|cases h) ?_;refine gK ?_;refine bF (by cbv) (ab0 (l:=[tid,acZ,cd]) rfl rfl (by simp)) (fun h=>by first|rfl|cases h) ?_;refine gK ?_;refine bF (by cbv) (hI (n:=nki) (by omega) aeD) (fun h=>by first|rfl|cases h) ?_;refine gK ?_
    refine bF (by cbv) (ab0 (l:=[tki]) rfl rfl (by simp)) (fun h=>by first|rfl|cases h) ?_;refine gK ?_;refine bF (by cbv) (hI (n:=nlo) (by omega) aeE) (fun h=>by first|rfl|cases h) ?_;refine gK ?_;refine bF (by cbv) (hI (n:=ndi) (by omega) aeF) (fun h=>by first|rfl|cases h) ?_;refine gK ?_;refine bF (by cbv) (ab0 (l:=[tlo,tdi]) rfl rfl (by simp)) (fun h=>by first|rfl|cases h) ?_;refine gK ?_;have Sx:=acJ (c:=cl) (v:=vl) (call:=Int.ofNat k) (port:=port) (boxes:=boxes) (l:=l) (n:=w) aT adO
    rw[wx,acq]at Sx;obtain⟨z,hz⟩:∃z,z=(aaT cl vl (Int.ofNat k) port boxes l (w+1)).map Ug:=⟨_,rfl⟩;obtain⟨c4,Zc⟩:∃x,x=bJ cur [[.str [76,79,67],.sl [[.sl [[.str nm]] []]] []],[.str [69,81,68],.sl [[.sl [[.str tid]] []],[.sl [[.str acZ]] []],[.sl [[.str cd]] []]] []],[.str [77,69,65],.sl [[.sl [[.str tki]] []]] []],[.str [82,70,70],.sl [[.sl [[.str tlo]] []],[.sl [[.str tdi]] []]] []]]:=⟨_,rfl⟩
    have adP:c4=(aaT cl vl (Int.ofNat k) port boxes l w).map Ug++[[.str [76,79,67],.sl [[.sl [[.str nm]] []]] []],[.str [69,81,68],.sl [[.sl [[.str tid]] []],[.sl [[.str acZ]] []],[.sl [[.str cd]] []]] []],[.str [77,69,65],.sl [[.sl [[.str tki]] []]] []],[.str [82,70,70],.sl [[.sl [[.str tlo]] []],[.sl [[.str tdi]] []]] []]]:=by rw[Zc,←bX,dj];rw[←dA]
    refine ae ?_ ?_
    ·first|rw[←dF,←yR]|rw[←dF]
     skip
     rw[Ya];exact⟨by simp;omega,by simp;omega,by simp[fS,kE],agc⟩
    rw[←Zc];refine gK ?_;refine bp.af (fun uy=>?_) (fun uy=>?_)
    ·replace uy:=eE uy
     refine aY ?_;rw[show bu .i64 (Int.ofNat ncl)=Int.ofNat ncl by rw[←mz];simp only[n9];rw[dy]<;>simp<;>omega];refine bF (by cbv) (hI (n:=ncl) (by omega) afM) (fun h=>by first|rfl|cases h) ?_;refine gK ?_;refine bF (by cbv) (ab0 (l:=[tcl]) rfl rfl (by simp)) (fun h=>by first|rfl|cases h) ?_;refine gK ?_;refine ae ?_ ?_
     ·rw[←dF]
      have h4l:c4.length=(aaT cl vl (Int.ofNat k) port boxes l w).length+4:=by rw[adP];simp
      have h4n:=acs (c:=cl) (v:=vl) (call:=Int.ofNat k) (port:=port) (boxes:=boxes) (l:=l) (n:=w);rw[Ya]
      exact⟨by rw[h4l];simp only[qaq,qaD];omega,by rw[h4l];simp only[qaq,qaD];omega,by simp[fS,kE],fun r hr=>by
       rw[adP]at hr
       rcases qav.1 hr with h|h
       ·exact Kh (enc:=Ug) (n:=2) (fun _=>rfl) _ r h
       ·simp at h
        rcases h with rfl|rfl|rfl|rfl<;>rfl⟩
     rw[show bJ c4 [[.str [68,71,83],.sl [[.sl [[.str tcl]] []]] []]]=z by
      rw[←bX,dj,hz,adP,Sx,qaX,qaR]
      congr 1
      simp only[abD,Y8,hcd];rw[qao (by simpa using uy)]
      simp[Ug,acw,acp,aeC,aeD,aeE,aeF,afM]]
     refine gK ?_;refine ta ⟨by omega,trivial,?_⟩;rw[wS mz aw (v:=w) (by omega)];rw[←hz]
     cbv
    ·replace uy:=eE uy
     refine aY ?_
     rw[show c4=z by
      rw[hz,adP,Sx,qaX]
      congr 1
      simp only[abD,Y8,hcd];rw[qai (by simpa using uy)]
      simp[Ug,acw,acp,aeC,aeD,aeE,aeF]]
     refine ta ⟨by omega,trivial,?_⟩;rw[wS mz aw (v:=w) (by omega)];rw[←hz]
     cbv
   ·have aT:boxes.length≤w:=by rw[←aC,←ag]at hd;simp at hd;omega
    have hwn:w=boxes.length:=by omega
    refine aY ?_;refine wW rfl ?_;refine gK ?_;rw[show cur=W by rw[←dA,hW,hwn]];refine aX ?_;rfl
  ·replace uy:=eE uy
   refine aY ?_
   rw[show c4=z by
    rw[hz,adP,Sx,qaX]
    congr 1
    simp only[abD,Y8,hcd];rw[qai (by simpa using uy)]
    simp[Ug,acw,acp,aeC,aeD,aeE,aeF]]
   refine ta ?_;rw[show bu .i64 (df 0 1)=Int.ofNat (0+1) by subst_vars;exact kY (v:=0) (by omega),hz];refine bQ [3,5,6,7,25,26,27] (nn [3,3,1,5,0,6,0,7,67,75]) (fun v σ_=>σ_.put (some 27) (.pv (.int .i64 (Int.ofNat (v+1))))|>.aq 7 (.cells [.pv (.str [66,65,89,80,76,78]),.pv (.str ref),.c8 75 0])|>.aq 75 (.rows 2 ((aaT cl vl (Int.ofNat k) port boxes l (v+1)).map Ug) 0)) ((boxes.length-1)) (fun k=>True) ?_
   intro v hv hk
   try dsimp only
   generalize hw:v+1=w;generalize dA:(aaT cl vl (Int.ofNat k) port boxes l w).map Ug=cur;refine ej ?_;refine bp.af (fun hd=>?_) (fun hd=>?_)
   ·have aT:w<boxes.length:=by rw[←aC,←ag]at hd;simp at hd;omega
    have ahl:=acs (c:=cl) (v:=vl) (call:=Int.ofNat k) (port:=port) (boxes:=boxes) (l:=l) (n:=w)
    have ajm:cur.length≤1+5*w:=by rw[←dA];simpa using ahl
    have agc:aK 2 cur:=by rw[←dA];exact Kh (enc:=Ug) (fun _=>rfl) _
    obtain⟨x_c,wx⟩:∃x,boxes[w]=x:=⟨_,rfl⟩
    have Cm:aJ (Int.ofNat w) brows 9:=by rw[←aP,jb];exact aO (enc:=bw.enc) aT rfl
    obtain⟨⟨agd,acZ,adB,adC,acE,adD,aeG,aeH,acN⟩,ahm⟩:∃y,x_c=y:=⟨_,rfl⟩;subst ahm
    have wy:aI brows (Int.ofNat w)=[.int .i64 agd,.str acZ,.int .u8 adB,.bool adC,.int .i64 acE,.int .i64 adD,.int .i64 aeG,.int .u8 aeH,.bool acN]:=by rw[←aQ,jb,aN (enc:=bw.enc) aT,wx];rfl
    have adO:w<l.length:=by omega
    obtain⟨x_d,acq⟩:∃x,l[w]=x:=⟨_,rfl⟩
    have acX:aJ (Int.ofNat w) rows 4:=by rw[←aP,eS];exact aO (enc:=aH.enc) adO rfl
    obtain⟨⟨ahn,⟨aeI,adE,adF⟩⟩,adg⟩:∃y,x_d=y:=⟨_,rfl⟩;subst adg
    have acr:aI rows (Int.ofNat w)=[.int .i64 ahn,.int .i64 aeI,.int .i64 adE,.int .u8 adF]:=by rw[←aQ,eS,aN (enc:=aH.enc) adO,acq];rfl
    have afG:=(agb.2 w aT aT).1;have afH:=bO _ (qaf adO);rw[wx]at afG;rw[acq]at afH;obtain⟨⟨aha,afI⟩,-,-,⟨ahb,aeB⟩,⟨ahc,afJ,hdi⟩,afK⟩:=afG;dsimp only at aha afI ahb aeB ahc afJ hdi afK;have afL:=vf _ (qaf aT);rw[wx]at afL;have afX:=afL.2.1.1;dsimp only at afX
    have hkm:acE≤40000:=by unfold most at aeB;(repeat' split at aeB)<;>omega
    obtain⟨nid,ahd⟩:∃n:Nat,agd=Int.ofNat n:=⟨agd.toNat,by simp;omega⟩;obtain⟨nki,ahe⟩:∃n:Nat,acE=Int.ofNat n:=⟨acE.toNat,by simp;omega⟩;obtain⟨nlo,ahf⟩:∃n:Nat,adD=Int.ofNat n:=⟨adD.toNat,by simp;omega⟩;obtain⟨ndi,ahg⟩:∃n:Nat,aeG=Int.ofNat n:=⟨aeG.toNat,by simp;omega⟩;obtain⟨ncl,ahh⟩:∃n:Nat,aeH=Int.ofNat n:=⟨aeH.toNat,by simp;omega⟩;subst ahd ahe ahf ahg ahh;simp only[qbG]at afI hkm afJ hdi afK
    obtain⟨tid,aeC⟩:∃x,x=digits nid:=⟨_,rfl⟩;obtain⟨tki,aeD⟩:∃x,x=digits nki:=⟨_,rfl⟩;obtain⟨tlo,aeE⟩:∃x,x=digits nlo:=⟨_,rfl⟩;obtain⟨tdi,aeF⟩:∃x,x=digits ndi:=⟨_,rfl⟩;obtain⟨tcl,afM⟩:∃x,x=digits ncl:=⟨_,rfl⟩;obtain⟨⟨nm,e1⟩,Y8⟩:∃x,YX cl vl ⟨aeI,adE,adF⟩=x:=⟨_,rfl⟩;obtain⟨⟨cd,e2⟩,hcd⟩:∃x,aaU ⟨Int.ofNat nid,acZ,adB,adC,Int.ofNat nki,Int.ofNat nlo,Int.ofNat ndi,Int.ofNat ncl,acN⟩=x:=⟨_,rfl⟩;refine aY ?_
    refine ae Cm ?_;rw[wy];refine gK ?_;refine ae acX ?_;rw[acr];refine gK ?_;refine bF (by cbv) (afj (x:=⟨aeI,adE,adF⟩) jI pN wU Hn CS AE afH.2.2.2 Y8) (fun h=>by first|rfl|cases h) ?_;refine gK ?_;refine ao (by cbv) (afk (cs:=[.int .i64 (Int.ofNat nid),.str acZ,.int .u8 adB,.bool adC,.int .i64 (Int.ofNat nki),.int .i64 (Int.ofNat nlo),.int .i64 (Int.ofNat ndi),.int .u8 (Int.ofNat ncl),.bool acN]) rfl hcd) (fun h=>by first|rfl|cases h) ?_
    refine gK ?_;refine bF (by cbv) (ab0 (l:=[nm]) rfl rfl (by simp)) (fun h=>by first|rfl|cases h) ?_;refine gK ?_;refine bF (by cbv) (hI (n:=nid) (by omega) aeC) (fun h=>by first|rfl|cases h) ?_;refine gK ?_;refine bF (by cbv) (ab0 (l:=[tid,acZ,cd]) rfl rfl (by simp)) (fun h=>by first|rfl|cases h) ?_;refine gK ?_;refine bF (by cbv) (hI (n:=nki) (by omega) aeD) (fun h=>by first|rfl|cases h) ?_;refine gK ?_
    refine bF (by cbv) (ab0 (l:=[tki]) rfl rfl (by simp)) (fun h=>by first|rfl|cases h) ?_;refine gK ?_;refine bF (by cbv) (hI (n:=nlo) (by omega) aeE) (fun h=>by first|rfl|cases h) ?_;refine gK ?_;refine bF (by cbv) (hI (n:=ndi) (by omega) aeF) (fun h=>by first|rfl|cases h) ?_;refine gK ?_;refine bF (by cbv) (ab0 (l:=[tlo,tdi]) rfl rfl (by simp)) (fun h=>by first|rfl|cases h) ?_;refine gK ?_;have Sx:=acJ (c:=cl) (v:=vl) (call:=Int.ofNat k) (port:=port) (boxes:=boxes) (l:=l) (n:=w) aT adO
    rw[wx,acq]at Sx;obtain⟨z,hz⟩:∃z,z=(aaT cl vl (Int.ofNat k) port boxes l (w+1)).map Ug:=⟨_,rfl⟩;obtain⟨c4,Zc⟩:∃x,x=bJ cur [[.str [76,79,67],.sl [[.sl [[.str nm]] []]] []],[.str [69,81,68],.sl [[.sl [[.str tid]] []],[.sl [[.str acZ]] []],[.sl [[.str cd]] []]] []],[.str [77,69,65],.sl [[.sl [[.str tki]] []]] []],[.str [82,70,70],.sl [[.sl [[.str tlo]] []],[.sl [[.str tdi]] []]] []]]:=⟨_,rfl⟩
    have adP:c4=(aaT cl vl (Int.ofNat k) port boxes l w).map Ug++[[.str [76,79,67],.sl [[.sl [[.str nm]] []]] []],[.str [69,81,68],.sl [[.sl [[.str tid]] []],[.sl [[.str acZ]] []],[.sl [[.str cd]] []]] []],[.str [77,69,65],.sl [[.sl [[.str tki]] []]] []],[.str [82,70,70],.sl [[.sl [[.str tlo]] []],[.sl [[.str tdi]] []]] []]]:=by rw[Zc,←bX,dj];rw[←dA]
    refine ae ?_ ?_
    ·first|rw[←dF,←yR]|rw[←dF]
     skip
     rw[Ya];exact⟨by simp;omega,by simp;omega,by simp[fS,kE],agc⟩
    rw[←Zc];refine gK ?_;refine bp.af (fun uy=>?_) (fun uy=>?_)
    ·replace uy:=eE uy
     refine aY ?_;rw[show bu .i64 (Int.ofNat ncl)=Int.ofNat ncl by rw[←mz];simp only[n9];rw[dy]<;>simp<;>omega];refine bF (by cbv) (hI (n:=ncl) (by omega) afM) (fun h=>by first|rfl|cases h) ?_;refine gK ?_;refine bF (by cbv) (ab0 (l:=[tcl]) rfl rfl (by simp)) (fun h=>by first|rfl|cases h) ?_;refine gK ?_;refine ae ?_ ?_
     ·rw[←dF]
      have h4l:c4.length=(aaT cl vl (Int.ofNat k) port boxes l w).length+4:=by rw[adP];simp
      have h4n:=acs (c:=cl) (v:=vl) (call:=Int.ofNat k) (port:=port) (boxes:=boxes) (l:=l) (n:=w);rw[Ya]
      exact⟨by rw[h4l];simp only[qaq,qaD];omega,by rw[h4l];simp only[qaq,qaD];omega,by simp[fS,kE],fun r hr=>by
       rw[adP]at hr
       rcases qav.1 hr with h|h
       ·exact Kh (enc:=Ug) (n:=2) (fun _=>rfl) _ r h
       ·simp at h
        rcases h with rfl|rfl|rfl|rfl<;>rfl⟩
     rw[show bJ c4 [[.str [68,71,83],.sl [[.sl [[.str tcl]] []]] []]]=z by
      rw[←bX,dj,hz,adP,Sx,qaX,qaR]
      congr 1
      simp only[abD,Y8,hcd];rw[qao (by simpa using uy)]
      simp[Ug,acw,acp,aeC,aeD,aeE,aeF,afM]]
     refine gK ?_;refine ta ⟨by omega,trivial,?_⟩;rw[wS mz aw (v:=w) (by omega)];rw[←hz]
     cbv
    ·replace uy:=eE uy
     refine aY ?_
     rw[show c4=z by
      rw[hz,adP,Sx,qaX]
      congr 1
      simp only[abD,Y8,hcd];rw[qai (by simpa using uy)]
      simp[Ug,acw,acp,aeC,aeD,aeE,aeF]]
     refine ta ⟨by omega,trivial,?_⟩;rw[wS mz aw (v:=w) (by omega)];rw[←hz]
     cbv
   ·have aT:boxes.length≤w:=by rw[←aC,←ag]at hd;simp at hd;omega
    have hwn:w=boxes.length:=by omega
    refine aY ?_;refine wW rfl ?_;refine gK ?_;rw[show cur=W by rw[←dA,hW,hwn]];refine aX ?_;rfl
 ·have h0:boxes.length=0:=by rw[←aC,←ag]at h1;simp only[ade,X5,qad]at h1;omega
  refine aY ?_;refine wW rfl ?_;refine gK ?_;refine aX ?_;rw[hW,h0];simp[aaT,Ug,acw,acp,hkd,abH]
theorem agL {y:List UInt8}:pC mx 196 [.sl [[.str y]] []] (.sl [[.str y]] []):=by
 refine pZ NW ?_
 iterate 105 intro _
 intro yR
 iterate 10 intro _
 intro dF bJ bX
 iterate 10 intro _
 intro zI aU aV bC bA ag aC;refine gK ?_;refine ae (by rw[←yR,aeg,←bX];right;simp) ?_;refine gK ?_;refine ae (by first|(rw[←dF,←yR];simp[aF,fS,kE])|(rw[←dF];simp[aF,fS,kE,AV.one])|(rw[←dF];exact⟨by simp,by simp,by intro r hr;simp at hr;subst hr;exact⟨rfl,by simp[AV.one]⟩,by intro r hr;cases hr⟩)) ?_;rw[show bJ [] [[.str y]]=[[.str y]] by rw[←bX];rfl];refine gK ?_;refine aX ?_;rfl
theorem agM {x y:List UInt8} {r:Bool} (hr:r=decide (x=y)):pC mx 185 [.sl [[.str x]] [],.sl [[.str y]] []] (.bool r):=by
 refine pZ NQ ?_
 iterate 115 intro _
 intro l8 _ _ _ _ _ df aw bu mz aI aQ aJ aP zI aU aV bC bA ag aC
 have h01:∀y:List UInt8,l8 [[.str y]]=1:=fun y=>by rw[←ag];rfl
 have aht:∀y:List UInt8,aJ 0 [[.str y]] 1:=fun y=>by rw[←aP];simp[aF]
 have WX:∀y:List UInt8,aI [[.str y]] 0=[.str y]:=fun y=>by rw[←aQ];rfl
 refine gK ?_;rw[h01,h01];refine Pk ?_;refine aY ?_;rw[h01];refine acG ?_;refine ej ?_;refine MP ?_;refine aY ?_;refine ae (aht x) ?_;rw[WX];refine gK ?_;refine ae (aht y) ?_;rw[WX];refine gK ?_;refine bp.af (fun h1=>?_) (fun h1=>?_)
 ·rw[←aV,←aU]at h1;simp at h1;refine aY ?_;refine dS ?_;exact fa hr h1
 ·rw[←aV,←aU]at h1;simp at h1;refine aY ?_;refine ta ?_;rw[show bu .i64 (df 0 1)=1 by rw[←mz,←aw];rfl];refine acG ?_;refine ej ?_;refine Pk ?_;refine aY ?_;refine wW rfl ?_;refine gK ?_;refine aX ?_;exact tr hr h1
theorem agi {D sp:List (List PV)} {l:List (List UInt8)} {x:List UInt8} (hD:D=(l++[x]).map aeP) (hx:x≠[]) (hl:l.length<2^20):pC mx 97 [.sl D sp] (.sl D []):=by
 obtain⟨n,hn⟩:∃n,n=l.length:=⟨_,rfl⟩;rw[←hn]at hl
 have hlen:D.length=n+1:=by simp[hD,hn]
 have ajs:aK 1 D:=by rw[hD];exact Kh (enc:=aeP) (fun _=>rfl) _
 have htk:∀v,aK 1 (D.take v):=fun v r hr=>ajs r (qbf hr)
 have hdr:∀v,(h:v<D.length)→∃y,D[v]=[.sl [[.str y]] []]:=fun v h=>by
  have h':v<(l++[x]).length:=by simp;omega
  refine⟨(l++[x])[v],?_⟩
  have:D[v]? =some (aeP (l++[x])[v]):=by rw[hD,qbO,qag h'];rfl
  rw[qag h]at this;exact qa9 this
 refine pZ UI ?_
 iterate 94 intro _
 intro kK _ _ _ _ _ _ _ _ tV Ci _ yy J5 eo _ _ _ oZ sg uP l8 dF bJ bX cP cY df aw bu mz aI aQ aJ aP zI aU aV bC bA ag aC
 have zc:∀x y,df x y=x+y:=fun _ _=>by rw[←aw];rfl
 have fu:∀x y,cP x y=x-y:=fun _ _=>by rw[←cY];rfl
 have hmul:∀x y,tV x y=x*y:=fun _ _=>by rw[←Ci];rfl
 have aaZ:∀x y,0≤x→yy x y=x/y:=fun _ _ h=>by rw[←J5];exact qbj h
 have Vp:∀x y,0≤x→oZ x y=x%y:=fun _ _ h=>by rw[←sg];exact qa8 h
 have hW:∀x,-9223372036854775808≤x→x<9223372036854775808→bu .i64 x=x:=fun _ h1 h2=>by rw[←mz];exact dy h1 h2
 have YG:∀x,0≤x→x<256→bu .u8 x=x:=fun _ h1 h2=>by rw[←mz];exact Zx h1 h2
 have aht:∀y:List UInt8,aJ 0 [[.str y]] 1:=fun y=>by rw[←aP];simp[aF]
 have WX:∀y:List UInt8,aI [[.str y]] 0=[.str y]:=fun y=>by rw[←aQ];rfl
 have h01:∀y:List UInt8,l8 [[.str y]]=1:=fun y=>by rw[←ag];rfl
 have vx:bu .i64 (cP (l8 D) 1)=Int.ofNat n:=by rw[fu,hW]<;>rw[←ag]<;>simp[hlen]<;>omega
 have hinx:aJ (Int.ofNat n) D 1:=by rw[←aP,hD,hn];exact aO (enc:=aeP) (by simp) rfl
 have ajt:aI D (Int.ofNat n)=[.sl [[.str x]] []]:=by rw[←aQ,hD,hn,aN (enc:=aeP) (by simp)];simp[aeP,acp]
 refine gK ?_;refine JJ [3,7,8,9] (nn [3,3]) (fun v σ_=>(σ_.T5 3 3 1).put (some 9) (.pv (.int .i64 (Int.ofNat v)))|>.aq 3 (.rows 1 (D.take v) 0)) ((n+1)) (fun k=>True) (Fg.E5 [3,7,8,9] (nn [3,3]) 3 3 1 rfl (by first|rfl|(cbv;done)) (by first|rfl|(cbv;done)) (by first|exact qaH rfl|(cbv;done)) (by first|(cbv;done)|(simp;cbv;done)|(simp;rfl))) ?_;intro v hv hk
 try dsimp only
 generalize dA:D.take v=cur;refine ej ?_;refine bp.af (fun hd=>?_) (fun hd=>?_)
 ·have aT:v<D.length:=by rw[←aC,←ag]at hd;simp at hd;omega
  obtain⟨y,hy⟩:=hdr v aT
  have ec:aJ (Int.ofNat v) D 1:=by rw[←aP];refine⟨by simp,by simp;omega,?_⟩;simp[aT,hy]
  have bK:aI D (Int.ofNat v)=[.sl [[.str y]] []]:=by rw[←aQ];show D.getD _ []=_;simp[aT,hy]
  refine aY ?_;refine ae ec ?_;rw[bK];refine gK ?_;rw[h01];refine acG ?_;refine ej ?_;refine Pk ?_;refine aY ?_;refine wW rfl ?_;refine gK ?_;refine bp.af (fun hc=>by exfalso;rw[←bA]at hc;simp at hc) (fun _=>?_);refine aY ?_;refine ae (by rw[←kK];simp[aF]) ?_;rw[show eo [[.str y]] 0 1=[[.str y]] by rw[←uP];rfl];refine gK ?_;refine ao (by cbv) (agL (y:=y)) (fun h=>by first|rfl|cases h) ?_;refine gK ?_
  refine ae ?_ ?_
  ·rw[←dF,←dA,Ya];exact⟨by simp only[qaT,qaq,qaD];omega,by simp only[qaT,qaq,qaD];omega,by simp[fS,kE],htk v⟩
  refine gK ?_;refine ta ⟨by omega,trivial,?_⟩;rw[wS mz aw (v:=v) (by omega)]
  rw[show bJ cur [[.sl [[.str y]] []]]=D.take (v+1) by
   rw[←bX,←dA,qan aT,dj,hy]]
  cbv
 ·have aT:v=n+1:=by rw[←aC,←ag]at hd;simp at hd;omega
  have hcD:cur=D:=by rw[←dA,qbI (by omega)]
  refine aY ?_;refine wW rfl ?_;refine gK ?_;rw[hcD];refine acG ?_;refine ej ?_;refine bp.af (fun _=>?_) (fun hc=>by exfalso;rw[←aC,←ag]at hc;simp only[ade,X5,qad,hlen]at hc;omega);refine aY ?_;rw[vx];refine ae hinx ?_;refine gK ?_;rw[ajt];refine aY ?_;refine cU (by cbv) (agM (x:=x) (y:=[]) (r:=decide (x=[])) rfl) (fun h=>?_) (fun h=>?_)<;>simp only[qae,qad]at h
  ·exact absurd h hx
  ·refine gK ?_;refine wW rfl ?_;refine gK ?_;refine aX ?_;rfl
theorem ahM {x:Int} {r:Bool} (hr:r=decide (x<32∨126<x)):pC mx 256 [.int .i32 x] (.bool r):=by
 refine pZ NH ?_
 iterate 129 intro _
 intro zI aU aV bC bA ag aC;refine gK ?_
 repeat' (first|refine gH ?_|(refine iE (fun hc=>?_) (fun hc=>?_)<;>(try simp at hc)<;>(try(exfalso;omega))))
 all_goals(refine aX ?_)
 all_goals first|(refine tr hr ?_;omega)|(refine fa hr ?_;omega)
theorem aed {rows sp:List (List PV)} {es:List Elem} {res:Bool} (eS:rows=es.map acV) (hl:es.length<2^32) (hle:∀e∈es,e.1.length<2^32) (hr:res=decide (SM (es.map (·.1)))):pC mx 167 [.sl rows sp] (.bool res):=by
 have hlen:rows.length=es.length:=by simp[eS]
 refine pZ NI ?_
 iterate 122 intro _
 intro aw _ mz aI aQ aJ aP zI aU aV bC bA ag aC;refine gK ?_
 repeat' (first|refine gH ?_|(refine iE (fun hc=>?_) (fun hc=>?_)<;>(try simp at hc)<;>(try(exfalso;omega))))
 ·refine aX ?_;refine fa hr ?_;rintro⟨h1,-⟩;simp at h1;omega
 ·refine aX ?_;refine fa hr ?_;rintro⟨-,h2,-⟩;simp at h2;omega
 have Ef:1≤es.length∧es.length≤30:=by omega
 refine bQ [15,16,17] [] (fun v σ_=>σ_.put (some 17) (.pv (.int .i64 (Int.ofNat v)))) (es.length) (fun k=>(∀h:k<es.length,adV es[k].1)) ?_;intro v hv hk;refine ej ?_;refine bp.af (fun hd=>?_) (fun hd=>?_)
 ·have aT:v<es.length:=by rw[←aC,←ag]at hd;simp at hd;omega
  have bad:¬adV es[v].1→¬SM (es.map (·.1)):=fun h h'=>h (by have:=h'.2.2 v (by simpa using aT);simpa using this)
  have hlv:=hle _ (qaf aT);obtain⟨⟨aeL,adm⟩,bj⟩:∃x,es[v]=x:=⟨_,rfl⟩;obtain⟨q_a,adn⟩:∃q,q=strs aeL:=⟨_,rfl⟩
  have hql_a:q_a.length=aeL.length:=by simp[adn,strs]
  have bG:aJ (Int.ofNat v) rows 1:=by rw[←aP,eS];exact aO (enc:=acV) aT rfl
  have aW:aI rows (Int.ofNat v)=[.sl q_a adm]:=by rw[←aQ,eS,aN (enc:=acV) aT,bj,adn];rfl
  rw[bj]at hlv bad;dsimp only at hlv bad;refine aY ?_;refine ae bG ?_;rw[aW];refine gK ?_;refine bp.af (fun h4=>?_) (fun h4=>?_)
  ·replace h4:=eE h4
   refine aY ?_;refine dS ?_;refine fa hr (bad ?_);rintro⟨h1,-⟩;omega
  ·replace h4:=eE h4
   refine aY ?_;refine bp.af (fun h5=>?_) (fun h5=>?_)
   ·replace h5:=eE h5
    refine aY ?_;refine dS ?_;refine fa hr (bad ?_);rintro⟨-,h2,-⟩;omega
   ·replace h5:=eE h5
    have uy:1≤aeL.length∧aeL.length≤10:=by omega
    refine aY ?_;obtain⟨i,rfl⟩:∃i,i=v:=⟨v,rfl⟩;refine bQ [15,16,17,29,30,31] [] (fun v σ_=>σ_.put (some 31) (.pv (.int .i64 (Int.ofNat v)))) (aeL.length) (fun k=>(∀h:k<aeL.length,adq aeL[k])) ?_;intro v hv hk;refine ej ?_;refine bp.af (fun he=>?_) (fun he=>?_)
    ·have Y6:v<aeL.length:=by rw[←aC,←ag]at he;simp at he;omega
     have aiu:¬adq aeL[v]→¬SM (es.map (·.1)):=fun h=>bad (fun h'=>h (h'.2.2 v Y6))
     obtain⟨c_b,fv⟩:∃x,aeL[v]=x:=⟨_,rfl⟩
     have gw:aJ (Int.ofNat v) q_a 1:=by rw[←aP,adn];exact aO (enc:=acp) Y6 rfl
     have dV:aI q_a (Int.ofNat v)=[.str c_b]:=by rw[←aQ,adn,strs,aN (enc:=acp) Y6,fv];rfl
     rw[fv]at aiu;refine aY ?_;refine ae gw ?_;rw[dV];refine gK ?_;refine bp.af (fun h6=>?_) (fun h6=>?_)
     ·replace h6:=eE h6
      refine aY ?_;refine ff rfl (de.oV rfl ?_);show fN _ _=_;refine F3 ?_;refine fa hr (aiu ?_);rintro⟨h1,-⟩;omega
     ·replace h6:=eE h6
      refine aY ?_;refine cU (by cbv) (D4 (f:=256) (p:=fun x=>decide (x<32∨126<x)) (fun x=>ahM rfl) (fun x hx=>by simp;omega) (by omega) rfl) (fun h=>?_) (fun h=>?_)<;>simp only[qae,qad]at h
      ·refine gK ?_;refine ff rfl (de.oV rfl ?_);show fN _ _=_;refine F3 ?_;refine fa hr (aiu ?_);rintro⟨-,h1⟩;obtain⟨k,h2,h3⟩:=h;have:=h1 k h2;omega
      ·refine gK ?_;have Ie:adq c_b:=⟨by omega,fun n hn=>qaC fun h2=>h ⟨n,hn,by omega⟩⟩;refine ta ⟨Y6,fun _=>by rw[fv];exact Ie,?_⟩;rw[wS mz aw (v:=v) (by omega)]
       cbv
    ·have Y6:v=aeL.length:=by rw[←aC,←ag]at he;simp at he;omega
     refine aY ?_;refine wW rfl ?_;refine gK ?_;refine ta ⟨aT,fun _=>by rw[bj];exact⟨by dsimp only;omega,by dsimp only;omega,fun k h=>hk k (by dsimp only at h;omega) h⟩,?_⟩;rw[wS mz aw (v:=i) (by omega)]
     cbv
 ·have aT:v=es.length:=by rw[←aC,←ag]at hd;simp at hd;omega
  refine aY ?_;refine wW rfl ?_;refine gK ?_;refine aX ?_;refine tr hr ⟨by simpa using Ef.1,by simpa using Ef.2,fun i h=>?_⟩;simp at h ⊢;exact hk i (by omega) h
theorem afn {rows sp Q:List (List PV)} {first:List UInt8} (hQ:Q=[.sl [[.str first]] []]::rows) (MB:rows≠[]) (hl:rows.length<2^32) (Zl:fS 1 rows):pC mx 168 [.str first,.sl rows sp] (.sl Q []):=by
 refine pZ NG ?_
 iterate 105 intro _
 intro yR
 iterate 10 intro _
 intro dF bJ bX
 iterate 10 intro _
 intro zI aU aV bC bA ag aC;refine gK ?_;refine ae ?_ ?_
 ·rw[←dF,←yR,Ya,aeg];exact⟨⟨by simp only[qaq,qaD];omega,by simp only[qaq,qaD];omega,Zl,fun r hr=>by simp at hr;subst hr;rfl⟩,Or.inr MB⟩
 rw[show bJ [[.sl [[.str first]] []]] rows=Q by rw[←bX,dj,hQ];rfl];refine gK ?_;refine aX ?_;rfl
theorem ahN {tag:List UInt8} {data:List Elem} {q sp:List (List PV)} {r:Bool} (hq:q=data.map acV) (MB:data≠[]) (ht:tag.length<2^32) (hl:data.length<2^31) (hle:∀y∈data,y.1.length<2^32) (hr:r= !decide (Y0 tag∧SM ([tag]::data.map (·.1)))):pC mx 165 [.agg [.str tag,.sl q sp]] (.bool r):=by
 obtain⟨Q,hQ⟩:∃Q,Q=((([tag],[]):Elem)::data).map acV:=⟨_,rfl⟩
 have hqr:fS 1 q:=by rw[hq];exact iX (enc:=acV) (fun _=>⟨rfl,by simp[acV]⟩) _
 have hql:q.length=data.length:=by simp[hq]
 refine pZ NJ ?_
 iterate 129 intro _
 intro zI aU aV bC bA ag aC;refine gK ?_;refine cU (by cbv) (aik ht rfl) (fun h=>?_) (fun h=>?_)<;>simp only[qae,qad]at h
 ·refine gK ?_;refine ao (by cbv) (afn (Q:=Q) (by rw[hQ,hq];rfl) (fun h'=>MB (by rw[h']at hql;exact qcE.1 hql.symm)) (by omega) hqr) (fun h=>by first|rfl|cases h) ?_;refine gK ?_
  refine cU (by cbv) (aed hQ (by simp;omega) (by
    intro y hy
    rcases qam.1 hy with rfl|hy
    ·simp
    ·exact hle y hy) rfl) (fun h'=>?_) (fun h'=>?_)<;>simp only[qae,qad]at h'
  ·refine gK ?_;refine aX ?_;rw[hr,qbT (p:=Y0 tag∧SM ([tag]::data.map (fun y:Elem=>y.1))) ⟨h,show SM ([tag]::data.map (·.1)) from h'⟩];rfl
  ·refine gK ?_;refine aX ?_;rw[hr,qa4 (p:=Y0 tag∧SM ([tag]::data.map (fun y:Elem=>y.1))) (fun x=>h' (show SM (List.map (·.1) ((([tag],[]):Elem)::data)) from x.2))];rfl
 ·refine gK ?_;refine aX ?_;rw[hr,qa4 (p:=Y0 tag∧SM ([tag]::data.map (fun y:Elem=>y.1))) (fun x=>h x.1)];rfl
theorem agN {rows sp:List (List PV)} {ls:List acz} {r:Int} (eS:rows=ls.map acz.enc) (hl:ls.length<2^32) (hle:∀x∈ls,x.data≠[]∧x.tag.length<2^32∧x.data.length<2^31∧∀y∈x.data,y.1.length<2^32) (hr:eW (fun k=>∃h:k<ls.length,¬(Y0 ls[k].tag∧SM ([ls[k].tag]::ls[k].val.data))) ls.length r):
  pC mx 255 [.sl rows sp,.gM 165 []] (.int .i64 r):=by
 have hlen:rows.length=ls.length:=by simp[eS]
 refine pZ ND ?_
 iterate 122 intro _
 intro aw _ mz aI aQ aJ aP zI aU aV bC bA ag aC;refine gK ?_;refine bQ [0,1,6,7,8] [] (fun v σ_=>σ_.put (some 8) (.pv (.int .i64 (Int.ofNat v)))) (ls.length) (fun k=>(∀h:k<ls.length,Y0 ls[k].tag∧SM ([ls[k].tag]::ls[k].val.data))) ?_;intro v hv hk;refine ej ?_;refine bp.af (fun hd=>?_) (fun hd=>?_)
 ·have aT:v<ls.length:=by rw[←aC,←ag]at hd;simp at hd;omega
  have hlv:=hle _ (qaf aT);obtain⟨⟨aju,aiv,wJ⟩,bj⟩:∃x,ls[v]=x:=⟨_,rfl⟩;rw[bj]at hlv;dsimp only at hlv;obtain⟨q_a,adn⟩:∃q,q=aiv.map acV:=⟨_,rfl⟩
  have bG:aJ (Int.ofNat v) rows 2:=by rw[←aP,eS];exact aO (enc:=acz.enc) aT rfl
  have aW:aI rows (Int.ofNat v)=[.str aju,.sl q_a wJ]:=by rw[←aQ,eS,aN (enc:=acz.enc) aT,bj,adn];rfl
  refine aY ?_;refine ae bG ?_;rw[aW];refine gK ?_;refine cU (by cbv) (ahN adn hlv.1 hlv.2.1 hlv.2.2.1 hlv.2.2.2 rfl) (fun h=>?_) (fun h=>?_)<;>simp only[Bool.not_eq_true',Bool.not_eq_false',qae,qad]at h
  ·refine gK ?_;refine dS ?_;rw[hr.at aT ⟨aT,by rw[bj];exact h⟩ (fun k eR h'=>h'.2 (hk k eR h'.1))]
  ·refine gK ?_;refine ta ⟨aT,fun _=>by rw[bj];exact h,?_⟩;rw[wS mz aw (v:=v) (by omega)]
   cbv
 ·have aT:v=ls.length:=by rw[←aC,←ag]at hd;simp at hd;omega
  refine aY ?_;refine wW rfl ?_;refine gK ?_;refine aX ?_;rw[hr.none (fun k eR h'=>h'.2 (hk k (by omega) h'.1))]
theorem aee {rows sp:List (List PV)} {ls:List acz} {kind ref:List UInt8} {res:Bool} (eS:rows=ls.map acz.enc) (hl:ls.length<2^32) (hk6:kind.length<2^32) (hrf:ref.length<2^32) (hle:∀x∈ls,x.data≠[]∧x.tag.length<2^32∧x.data.length<2^31∧∀y∈x.data,y.1.length<2^32)
  (hr:res=decide (adf ⟨kind,ref,ls.map acz.val⟩)):pC mx 84 [.agg [.str kind,.str ref,.sl rows sp]] (.bool res):=by
 have hS:adf ⟨kind,ref,ls.map acz.val⟩↔ab2 kind∧acU ref∧∀k,(h:k<ls.length)→Y0 ls[k].tag∧SM ([ls[k].tag]::ls[k].val.data):=by
  constructor
  ·rintro⟨h1,h2,h3⟩;exact⟨h1,h2,fun k h=>by have:=h3 k (by simpa using h);simpa[acz.val]using this⟩
  ·rintro⟨h1,h2,h3⟩;exact⟨h1,h2,fun k h=>by simp at h;have:=h3 k h;simpa[acz.val]using this⟩
 obtain⟨n,hn⟩:=eW.ex (fun k=>∃h:k<ls.length,¬(Y0 ls[k].tag∧SM ([ls[k].tag]::ls[k].val.data))) ls.length
 have jr:0≤n↔¬∀k,(h:k<ls.length)→Y0 ls[k].tag∧SM ([ls[k].tag]::ls[k].val.data):=by
  rw[hn.iff];constructor
  ·rintro⟨v,h1,h2,h3⟩ h;exact h3 (h v h2)
  ·intro h
   refine qaC fun h2=>h fun k hk=>?_
   exact qaC fun h3=>h2 ⟨k,hk,hk,h3⟩
 have h164:∀{b:Bool},b=decide (0≤n)→pC mx 164 [.sl rows sp,.gM 165 []] (.bool b):=by
  intro b hb;refine pZ NF ?_
  iterate 129 intro _
  intro zI aU aV bC bA ag aC;refine gK ?_;refine ao (by cbv) (agN eS hl hle hn) (fun h=>by first|rfl|cases h) ?_;refine gK ?_
  repeat' (first|refine gH ?_|(refine iE (fun hc=>?_) (fun hc=>?_)<;>(try simp at hc)<;>(try(exfalso;omega))))
  all_goals(refine aX ?_)
  all_goals first|exact tr hb (by omega)|exact fa hb (by omega)
 have hr:res=decide (ab2 kind∧acU ref∧∀k,(h:k<ls.length)→Y0 ls[k].tag∧SM ([ls[k].tag]::ls[k].val.data)):=by rw[hr];exact qco.2 hS
 refine pZ UG ?_
 iterate 129 intro _
 intro zI aU aV bC bA ag aC;refine gK ?_;refine cU (by cbv) (ahF hk6 rfl) (fun h=>?_) (fun h=>?_)<;>simp only[qae,qad]at h
 ·refine gK ?_;refine cU (by cbv) (ae9 hrf rfl) (fun h'=>?_) (fun h'=>?_)<;>simp only[qae,qad]at h'
  ·refine gK ?_;refine cU (by cbv) (h164 rfl) (fun h2=>?_) (fun h2=>?_)<;>simp only[qae,qad]at h2
   ·refine gK ?_;refine aX ?_;exact fa hr (fun x=>jr.1 h2 x.2.2)
   ·refine gK ?_;refine aX ?_;refine tr hr ⟨h,h',qaC fun h3=>h2 (jr.2 h3)⟩
  ·refine gK ?_;refine aX ?_;exact fa hr (fun x=>h' x.2.1)
 ·refine gK ?_;refine aX ?_;exact fa hr (fun x=>h x.1)
end Go.bt
end
section
open Go Go.Am Go.Proofs
namespace Go.bt
variable {mx:Int}
open Classical
def opens:cf→Bool
 |.pA (_::_) none=>true
 |.pA _ (some _)=>true
 |.seq a _=>opens a
 |_=>false
theorem afN {C:CT} {A:Ar} {I:IC}:∀{c:cf} {st s0:St} {Q:Ex→St→Prop},opens c=true→Fg st s0→fw C A I c s0 Q→fw C A I c st Q
 |.pA (x::xs) none,st,s0,Q,_,hf,h=>by
  simp only[fw,bP]at h ⊢;obtain⟨s1,h1,h2⟩:=h;exact⟨s1,Fg.trans hf h1,h2⟩
 |.pA l (some lt),st,s0,Q,_,hf,h=>by
  simp only[fw]at h ⊢;obtain⟨s1,h1,h2⟩:=h;exact⟨s1,Fg.trans hf h1,h2⟩
 |.seq a b,st,s0,Q,ho,hf,h=>by
  simp only[fw]at h ⊢;exact afN (c:=a) ho hf h
 |.pA [] none,_,_,_,ho,_,_=>by cases ho
 |.skip,_,_,_,ho,_,_=>by cases ho
 |.cond ..,_,_,_,ho,_,_=>by cases ho
 |.block ..,_,_,_,ho,_,_=>by cases ho
 |.loop _,_,_,_,ho,_,_=>by cases ho
 |.exit _,_,_,_,ho,_,_=>by cases ho
 |.ret,_,_,_,ho,_,_=>by cases ho
theorem aeM {P:Program} {G:Nat→Option (List PV)} {A:Ar} {l:List AI} {c1 c2:cf} {is:List Am.Item} {Q:Ex→St→Prop} {s:St} (f:St→St) (ho:opens c2=true)
  (h1:bH (CC P G) A (Hf P G) [.ops l,.code c1] (fun e s'=>e=.normal∧Fg s' (f s)) .normal s) (h2:bH (CC P G) A (Hf P G) (.code c2::is) Q .normal (f s)):
  bH (CC P G) A (Hf P G) (.ops l::.code c1::.code c2::is) Q .normal s:=by
 simp only[bH]at h1 h2 ⊢;refine gS (tS P G) l (fun s1 h=>?_) h1;refine fC (tS P G) c1 (fun e s2 h=>?_) h;obtain⟨rfl,h⟩:=h;simp only[bH];exact afN ho h h2
theorem acF {C:CT} {A:Ar} {I:IC} {s s0:St} (h:Fg s s0):(bp.fin .normal s).holds C A I (fun e s'=>e=.normal∧Fg s' s0):=⟨rfl,h⟩
attribute [local irreducible] Am.bp.holds bH fw bP ek
def ajv:Mj
 |157=>some (RS,[],20)
 |258=>some (RO,[.tmp 4],17)
 |260=>some (RP,[.tmp 2],8)
 |80=>some (aak,[.tmp 2],14)
 |_=>none
theorem ahO:∀f ac eF nt,ajv f=some (ac,eF,nt)→∃accs,gF Tryz.prog (GG mx) accs f=some (ac,eF,nt):=by
 intro f ac eF nt h;unfold ajv at h;split at h
 ·cases h;exact⟨_,NX⟩
 ·cases h;exact⟨_,NT⟩
 ·cases h;exact⟨_,NU⟩
 ·cases h;exact⟨_,UL⟩
 ·cases h
def objB:List (List PV)→Am.Obj
 |[]=>.cells [.iU 140,.full []]
 |_::_=>.cells [.ptr 0 0,.c8 1 0]
def objC:List (List PV)→Option Am.Obj
 |[]=>none
 |r::rs=>some (.cL 5 (r::rs) 0)
def mkB (o:Am.Obj) (c:Option Am.Obj) (s:St):St:=⟨s.slots,s.held,s.base,[some o,c]⟩
theorem ac2 (s:List UInt8):(aF.bytes s).length=s.length:=qap _
theorem acu (a b:List UInt8):aF.bytes (a++b)=aF.bytes a++aF.bytes b:=qaX
theorem ac4 (s:List UInt8):aK 1 (aF.bytes s):=fun r hr=>by
 obtain⟨x,-,rfl⟩:=qaw.1 hr;rfl
theorem ahu {s:List UInt8} {r:Bool} (hl:s.length<2^32) (hr:r=decide (0<s.length∧at_ s 0=32)):pC mx 257 [.str s,.str [32]] (.bool r):=by
 have h302:pC mx 302 [.str s,.str [32]] (.bool r):=by
  refine pZ NR ?_
  iterate 12 intro _
  intro zl
  iterate 77 intro _
  intro aa2 zw Vs
  iterate 36 intro _
  intro zI aU aV bC bA ag aC;refine gK ?_
  have h32:zl [32]=1:=by rw[←zI];rfl
  rw[h32];refine bp.af (fun h1=>?_) (fun h1=>?_)
  ·rw[←bC,←zI]at h1;simp only[agR,X6,qae]at h1;refine aY ?_;rw[h32];refine ae (by rw[←aa2];simp;omega) ?_
   obtain⟨x,xs,rfl⟩:∃x xs,s=x::xs:=by cases s with|nil=>simp at h1|cons x xs=>exact⟨x,xs,rfl⟩
   rw[show zw (x::xs) 0 1=[x] by rw[←Vs];rfl];have pY:at_ (x::xs) 0=(x.toNat:Int):=rfl;refine gK ?_;refine bp.af (fun h2=>?_) (fun h2=>?_)
   ·rw[←aU]at h2;simp at h2;refine aY ?_;refine aX ?_;refine tr hr ⟨by simp,?_⟩;rw[pY,h2];rfl
   ·rw[←aU]at h2;simp at h2;refine aY ?_;refine aX ?_;refine fa hr (fun h=>h2 ?_);have:=h.2;rw[pY]at this;exact UInt8.toNat_inj.1 (by rw[show(32:UInt8).toNat=32 from rfl];omega)
  ·rw[←bC,←zI]at h1;simp only[agR,X6,qad]at h1;refine aY ?_;refine aX ?_;exact fa hr (fun h=>by omega)
 refine pZ NS ?_
 iterate 129 intro _
 intro zI aU aV bC bA ag aC;refine gK ?_;refine ao (by cbv) h302 (fun h=>by first|rfl|cases h) ?_;refine gK ?_;refine aX ?_;rfl
def Dry (x:acK):Prop:=∀e es sp,x=(e::es,sp)→∀c cs,e.1=c::cs→at_ c 0≠32
theorem afO {rows sp:List (List PV)} {ls:List acK} {t:List UInt8} {e:Int} (eS:rows=ls.map aem) (hl:ls.length<2^32) (hle:∀x∈ls,x.1.length<2^32∧∀y∈x.1,y.1.length<2^32∧∀c∈y.1,c.length<2^32) (hdry:∀x∈ls,Dry x) (MB:0<ls.length) (ht:afv (ls.map acK.val)=(t,e)):
  pC mx 169 [.sl rows sp] (.eN [.str t,.int .i64 e]):=by
 have hlen:rows.length=ls.length:=by simp[eS]
 obtain⟨L,hLd⟩:∃L,L=ls.map acK.val:=⟨_,rfl⟩
 have hLl:L.length=ls.length:=by simp[hLd]
 rw[←hLd]at ht;unfold afv at ht;refine pT ahO FU ?_
 iterate 17 intro _
 intro IZ _ _ _ _ I1
 iterate 74 intro _
 intro yx aeK ac0 _ _ lB _ _ _ _ _ _ mc km me _ _ _ _ dF bJ bX _ _ _ aw _ mz aI aQ aJ aP zI aU aV bC bA ag aC hT;refine zgT hT ?_;refine bp.af (fun h1=>?_) (fun h1=>?_)
 ·replace h1:=eE h1
  rw[qao (by omega)]at ht
  cases ht
  refine aY ?_;refine aX ?_;rfl
 ·replace h1:=eE h1
  rw[qai (by omega)]at ht;refine aY ?_;refine jJ (fun v σ_=>(σ_.tidy [0,17,18,19] []).put (some 19) (.pv (.int .i64 (Int.ofNat v)))) (ls.length) (fun k=>(∀h:k<L.length,SM L[k])) (Fg.ca [0,17,18,19] [] rfl (by first|(cbv;done)|(simp;cbv;done)|(simp;rfl))) ?_;intro v hv hk;refine agS (U:=false) hT 10000 (by cbv) ?_;refine bp.af (fun hd=>?_) (fun hd=>?_)
  ·have aT:v<ls.length:=by rw[←aC,←ag]at hd;simp at hd;omega
   have hlv:=hle _ (qaf aT)
   have hLv:L[v]'(by omega)=(ls[v]).1.map (·.1):=by simp[hLd,acK.val]
   obtain⟨⟨adm,ahP⟩,bj⟩:∃x,ls[v]=x:=⟨_,rfl⟩;obtain⟨q_a,adn⟩:∃q,q=adm.map acV:=⟨_,rfl⟩
   have bG:aJ (Int.ofNat v) rows 1:=by rw[←aP,eS];exact aO (enc:=aem) aT rfl
   have aW:aI rows (Int.ofNat v)=[.sl q_a ahP]:=by rw[←aQ,eS,aN (enc:=aem) aT,bj,adn];rfl
   rw[bj]at hlv hLv;refine aY ?_;refine ae bG ?_;rw[aW];refine zgT hT ?_;refine cU (by cbv) (aed adn hlv.1 (fun y hy=>(hlv.2 y hy).1) rfl) (fun h=>?_) (fun h=>?_)<;>simp only[qae,qad]at h
   ·refine zgT hT ?_;refine ta ⟨aT,fun _=>by rw[hLv];exact h,?_⟩;rw[wS mz aw (v:=v) (by omega)];exact Fg.ca [0,17,18,19] [] rfl (by cbv)
   ·rw[qao ⟨v,by omega,by rw[hLv];exact h⟩]at ht
    cases ht
    refine zgT hT ?_;refine dS ?_;rfl
  ·have aT:v=ls.length:=by rw[←aC,←ag]at hd;simp at hd;omega
   have bS:∀k,(h:k<L.length)→SM L[k]:=fun k h=>hk k (by omega) h
   rw[qai (by rintro⟨i,h,h2⟩;exact h2 (bS i h))]at ht;refine aY ?_;refine wW rfl ?_;refine zgT hT ?_;obtain⟨OB,hOB⟩:∃o,o=objB:=⟨_,rfl⟩;obtain⟨OC,hOC⟩:∃o,o=objC:=⟨_,rfl⟩
   have hBn:OB []=.cells [.iU 140,.full []]:=by rw[hOB];rfl
   have hBc:∀r rs,OB (r::rs)=.cells [.ptr 0 0,.c8 1 0]:=fun r rs=>by rw[hOB];rfl
   have hBz:∀Z,Z≠[]→OB Z=.cells [.ptr 0 0,.c8 1 0]:=fun Z h=>by cases Z with|nil=>exact absurd rfl h|cons r rs=>exact hBc r rs
   have fF:∀(X:List (List PV)) (b:Int),X.length≤2^30→aK 1 X→IZ X [[.int .u8 b]] 1 1:=fun X b h1 h2=>by
    rw[←dF,Ya];exact⟨by simp only[qaq,qaD];omega,by simp only[qaq,qaD];omega,by simp[fS,kE],h2⟩
   have hCn:OC []=none:=by rw[hOC];rfl
   have hCc:∀r rs,OC (r::rs)=some (.cL 5 (r::rs) 0):=fun r rs=>by rw[hOC];rfl
   have hCz:∀Z,Z≠[]→OC Z=some (.cL 5 Z 0):=fun Z h=>by cases Z with|nil=>exact absurd rfl h|cons r rs=>exact hCc r rs
   obtain⟨B,hB⟩:∃B:Nat→List (List PV),∀v,B v=aF.bytes (Uu L v):=⟨_,fun _=>rfl⟩
   have WV:B 0=[]:=by rw[hB];rfl
   have ah8:∀v,(B v).length=(Uu L v).length:=fun v=>by rw[hB];exact ac2 _
   refine jJ (fun v σ_=>mkB (OB (B v)) (OC (B v)) ((σ_.tidy [6,27,28,29] [some 0]).put (some 29) (.pv (.int .i64 (Int.ofNat v))))) ls.length (fun k=>(Uu L (k+1)).length≤65536) ?_ ?_
   ·rw[WV,hBn,hCn];exact Fg.ca [6,27,28,29] [some 0,none] rfl (by cbv)
   intro v hv hk
   have om:(Uu L v).length≤65536:=by
    cases v with
    |zero=>simp[Uu]
    |succ v=>exact hk v (by omega)
   have hRl:=ah8 v;generalize hR:B v=R at hRl;refine agS (U:=false) hT 10000 (by cbv) ?_;refine bp.af (fun hd=>?_) (fun hd=>?_)
   ·have aT:v<ls.length:=by rw[←aC,←ag]at hd;simp at hd;omega
    have hlv:=hle _ (qaf aT)
    have hLv:L[v]'(by omega)=(ls[v]).1.map (·.1):=by simp[hLd,acK.val]
    have hdr:=hdry _ (qaf aT);have hLr:=bS v (by omega);obtain⟨⟨adm,ahP⟩,bj⟩:∃x,ls[v]=x:=⟨_,rfl⟩;obtain⟨q_a,adn⟩:∃q,q=adm.map acV:=⟨_,rfl⟩
    have bG:aJ (Int.ofNat v) rows 1:=by rw[←aP,eS];exact aO (enc:=aem) aT rfl
    have aW:aI rows (Int.ofNat v)=[.sl q_a ahP]:=by rw[←aQ,eS,aN (enc:=aem) aT,bj,adn];rfl
    rw[bj]at hlv hLv hdr;rw[hLv]at hLr;obtain⟨S,hS⟩:∃S,S=adm.map (·.1):=⟨_,rfl⟩;rw[←hS]at hLr hLv
    have hSl:S.length=adm.length:=by simp[hS]
    have he0:0<adm.length:=by have:=hLr.1;omega
    obtain⟨⟨agj,es_d⟩,acq⟩:∃x,adm[0]=x:=⟨_,rfl⟩;obtain⟨q_d,ahQ⟩:∃q,q=strs agj:=⟨_,rfl⟩
    have hql_d:q_d.length=agj.length:=by simp[ahQ,strs]
    have acX:aJ (Int.ofNat 0) q_a 1:=by rw[←aP,adn];exact aO (enc:=acV) he0 rfl
    have acr:aI q_a (Int.ofNat 0)=[.sl q_d es_d]:=by rw[←aQ,adn,aN (enc:=acV) he0,acq,ahQ];rfl
    have hE0:=hLr.2.2 0 (by omega);refine aY ?_;refine ae bG ?_;rw[aW];refine zgT hT ?_;refine ae acX ?_;rw[show aI q_a 0=_ from acr];refine zgT hT ?_
    have jI:0<agj.length:=by
     have:S[0]'(by omega)=agj:=by simp[hS,acq]
     rw[this]at hE0;exact hE0.1
    obtain⟨c_c,wx⟩:∃x,agj[0]=x:=⟨_,rfl⟩
    have Cm:aJ (Int.ofNat 0) q_d 1:=by rw[←aP,ahQ];exact aO (enc:=acp) jI rfl
    have wy:aI q_d (Int.ofNat 0)=[.str c_c]:=by rw[←aQ,ahQ,strs,aN (enc:=acp) jI,wx];rfl
    have ajz:c_c.length<2^32:=by
     have h1:=(hlv.2 adm[0] (qaf he0)).2 c_c (by rw[acq,←wx];exact qaf jI);exact h1
    have xP:¬(0<c_c.length∧at_ c_c 0=32):=fun h=>by
     obtain⟨e1,es1,UQ⟩:∃e1 es1,adm=e1::es1:=by cases adm with|nil=>simp at he0|cons e1 es1=>exact⟨e1,es1,rfl⟩
     subst UQ
     obtain⟨c1,cs1,GD⟩:∃c1 cs1,agj=c1::cs1:=by cases agj with|nil=>simp at jI|cons e1 es1=>exact⟨e1,es1,rfl⟩
     simp only[qci]at acq;subst GD;simp only[qci]at wx;exact hdr e1 es1 ahP rfl c1 cs1 (by rw[acq]) (by rw[wx];exact h.2)
    refine ae Cm ?_;rw[show aI q_d 0=_ from wy];refine zgT hT ?_;refine cU (by cbv) (ahu ajz rfl) (fun h=>?_) (fun h=>?_)<;>simp only[qae,qad]at h
    ·exact absurd h xP
    clear h
    obtain⟨B4,hB4⟩:∃B4:Nat→List (List PV),∀i,B4 i=aF.bytes (Uu L v++acB S i):=⟨_,fun _=>rfl⟩
    have hB40:B4 0=R:=by rw[hB4,←hR,hB];simp[acB]
    have hqa:q_a.length=adm.length:=by rw[adn];simp
    have LU:=agE hLr;have hS30:=LU.1
    have hB4l:∀i,i≤30→(B4 i).length≤65536+2011*i:=fun i hi=>by
     rw[hB4,ac2,qal];have:=aeS LU.2 (n:=i);omega
    refine zgT hT ?_;refine jJ (fun i σ_=>mkB (OB (B4 i)) (OC (B4 i)) ((σ_.tidy [6,27,28,29,40,41,42] [some 0]).put (some 42) (.pv (.int .i64 (Int.ofNat i))))) adm.length (fun k=>True) ?_ ?_
    ·rw[hB40]
     rcases R with _|⟨r,rs⟩
     ·simp only[hBn,hCn];exact Fg.ca [6,27,28,29,40,41,42] [some 0,none] rfl (by cbv)
     ·simp only[hBc,hCc];exact Fg.ca [6,27,28,29,40,41,42] [some 0,some 1] rfl (by cbv)
    intro i hi hk4;have hR4l:=hB4l i (by omega);generalize hR4:B4 i=R at hR4l;refine agS (U:=false) hT 10000 (by cbv) ?_;refine bp.af (fun hd4=>?_) (fun hd4=>?_)
    ·have gQ:i<adm.length:=by rw[←aC,←ag]at hd4;simp at hd4;omega
     obtain⟨⟨adQ,es_b⟩,fv⟩:∃x,adm[i]=x:=⟨_,rfl⟩;obtain⟨q_b,ahx⟩:∃q,q=strs adQ:=⟨_,rfl⟩
     have hql_b:q_b.length=adQ.length:=by simp[ahx,strs]
     have gw:aJ (Int.ofNat i) q_a 1:=by rw[←aP,adn];exact aO (enc:=acV) gQ rfl
     have dV:aI q_a (Int.ofNat i)=[.sl q_b es_b]:=by rw[←aQ,adn,aN (enc:=acV) gQ,fv,ahx];rfl
     refine aY ?_;refine ae gw ?_;rw[dV];obtain⟨Z,hZ⟩:∃Z,Z=R++(if 0<i then [[.int .u8 43]]else []):=⟨_,rfl⟩
     have hRl:R.length≤2^30:=by omega
     have hRa:aK 1 R:=by rw[←hR4,hB4];exact ac4 _
     refine goT (U:=false) hT 8 (by cbv) ?_;refine BA ?_;refine aeM (fun s=>mkB (OB Z) (OC Z) (s.tidy [6,10,27,28,29,40,41,42] [some 0])) (by rfl) ?_ ?_
     ·refine zgT hT ?_;refine bp.af (fun h0=>?_) (fun h0=>?_)
      ·replace h0:=eE h0
       rw[qao (by omega)]at hZ
       have adR:Z≠[]:=by rw[hZ];simp
       rcases R with _|⟨r,rs⟩
       ·have hZ1:Z=[[.int .u8 43]]:=hZ;rw[hBn,hCn];refine aY ?_;refine acS U9 ?_;refine zgT hT ?_;refine ae ⟨fF _ _ hRl hRa,fun h=>by cases h⟩ ?_;refine zgT hT ?_;refine acF ?_;rw[hBz Z adR,hCz Z adR,hZ1];exact Fg.ca [6,10,27,28,29,40,41,42] [some 0,some 16] rfl (by cbv)
       ·rw[hBc,hCc];refine aY ?_;refine ae ⟨fF _ _ hRl hRa,fun h=>by cases h⟩ ?_;rw[show bJ (r::rs) [[.int .u8 43]]=Z by rw[←bX,hZ];rfl];refine zgT hT ?_;refine acF ?_;rw[hBz Z adR,hCz Z adR];exact Fg.ca [6,10,27,28,29,40,41,42] [some 0,some 1] rfl (by cbv)
      ·replace h0:=eE h0
       rw[qai (by omega),qbw]at hZ;rw[←hZ];refine aY ?_;refine acF ?_
       rcases Z with _|⟨r,rs⟩
       ·simp only[hBn,hCn];exact Fg.ca [6,10,27,28,29,40,41,42] [some 0,none] rfl (by cbv)
       ·simp only[hBc,hCc];exact Fg.ca [6,10,27,28,29,40,41,42] [some 0,some 1] rfl (by cbv)
     ·refine zgT hT ?_;obtain⟨F,hF⟩:∃F,F=decide (i=0):=⟨_,rfl⟩;obtain⟨B6,hB6⟩:∃B6:Nat→List (List PV),∀j,B6 j=Z++aF.bytes (acR adQ F j):=⟨_,fun _=>rfl⟩
      have aiA:B6 0=Z:=by rw[hB6];simp[acR,aF]
      have hSi:S.getD i []=adQ:=by rw[hS,qab];simp[gQ,fv]
      have K6:adQ.length≤10∧∀c∈adQ,c.length≤100:=by
       have:=LU.2 (S[i]'(by omega)) (qaf _);rw[←hSi,qab,qag (by omega)];exact this
      have ajC:B4 (i+1)=B6 adQ.length:=by
       rw[hB6,hZ,←hR4,hB4,hB4];simp only[acB];rw[hSi,hF,←qaR,←qaR,acu,acu]
       congr 2
       split<;>rfl
      have ajD:∀j,j≤10→(B6 j).length≤200000:=fun j hj=>by
       have h1:=adw (e:=adQ) (f:=F) K6.2 (n:=j);rw[hB6,qal,ac2,hZ,qal];split<;>simp only[qaq,qaD]<;>omega
      have ajE:∀j,aK 1 (B6 j):=fun j r hr=>by
       rw[hB6,hZ]at hr
       rcases qav.1 hr with hr|hr
       ·rcases qav.1 hr with hr|hr
        ·exact hRa r hr
        ·split at hr
         ·simp at hr;subst hr;rfl
         ·cases hr
       ·exact ac4 _ r hr
      have hqb:q_b.length=adQ.length:=by rw[ahx];simp[strs]
      refine jJ (fun j σ_=>mkB (OB (B6 j)) (OC (B6 j)) ((σ_.tidy [6,27,28,29,40,41,42,50,51,52] [some 0]).put (some 52) (.pv (.int .i64 (Int.ofNat j))))) adQ.length (fun k=>True) ?_ ?_
      ·rw[aiA]
       clear aiA hB6 ajC ajD ajE
       rcases Z with _|⟨r,rs⟩
       ·simp only[hBn,hCn];exact Fg.ca [6,27,28,29,40,41,42,50,51,52] [some 0,none] rfl (by cbv)
       ·simp only[hBc,hCc];exact Fg.ca [6,27,28,29,40,41,42,50,51,52] [some 0,some 1] rfl (by cbv)
      clear aiA
      intro j hj hk6;have hRl:=ajD j (by omega);have hRa:=ajE j;generalize hR6:B6 j=R at hRl hRa;refine agS (U:=false) hT 10000 (by cbv) ?_;refine bp.af (fun hd6=>?_) (fun hd6=>?_)
      ·have A2:j<adQ.length:=by rw[←aC,←ag]at hd6;simp at hd6;omega
       obtain⟨c_g,ahS⟩:∃x,adQ[j]=x:=⟨_,rfl⟩
       have ajG:aJ (Int.ofNat j) q_b 1:=by rw[←aP,ahx];exact aO (enc:=acp) A2 rfl
       have aiB:aI q_b (Int.ofNat j)=[.str c_g]:=by rw[←aQ,ahx,strs,aN (enc:=acp) A2,ahS];rfl
       have hcl_g:c_g.length≤100:=by rw[←ahS];exact K6.2 _ (qaf A2)
       have uk:adQ.getD j []=c_g:=by rw[qab,qag A2,ahS];rfl
       refine aY ?_;refine ae ajG ?_;rw[aiB];obtain⟨Z,hZ⟩:∃Z,Z=R++(if 0<j then [[.int .u8 58]]else []):=⟨_,rfl⟩
       have hRl:R.length≤2^30:=by omega
       refine goT (U:=false) hT 8 (by cbv) ?_;refine BA ?_;refine aeM (fun s=>mkB (OB Z) (OC Z) (s.tidy [6,12,27,28,29,40,41,42,50,51,52] [some 0])) (by rfl) ?_ ?_
       ·refine zgT hT ?_;refine bp.af (fun h0=>?_) (fun h0=>?_)
        ·replace h0:=eE h0
         rw[qao (by omega)]at hZ
         have adR:Z≠[]:=by rw[hZ];simp
         rcases R with _|⟨r,rs⟩
         ·have hZ1:Z=[[.int .u8 58]]:=hZ;rw[hBn,hCn];refine aY ?_;refine acS U9 ?_;refine zgT hT ?_;refine ae ⟨fF _ _ hRl hRa,fun h=>by cases h⟩ ?_;refine zgT hT ?_;refine acF ?_;rw[hBz Z adR,hCz Z adR,hZ1];exact Fg.ca [6,12,27,28,29,40,41,42,50,51,52] [some 0,some 16] rfl (by cbv)
         ·rw[hBc,hCc];refine aY ?_;refine ae ⟨fF _ _ hRl hRa,fun h=>by cases h⟩ ?_;rw[show bJ (r::rs) [[.int .u8 58]]=Z by rw[←bX,hZ];rfl];refine zgT hT ?_;refine acF ?_;rw[hBz Z adR,hCz Z adR];exact Fg.ca [6,12,27,28,29,40,41,42,50,51,52] [some 0,some 1] rfl (by cbv)
        ·replace h0:=eE h0
         rw[qai (by omega),qbw]at hZ;rw[←hZ];refine aY ?_;refine acF ?_
         rcases Z with _|⟨r,rs⟩
         ·simp only[hBn,hCn];exact Fg.ca [6,12,27,28,29,40,41,42,50,51,52] [some 0,none] rfl (by cbv)
         ·simp only[hBc,hCc];exact Fg.ca [6,12,27,28,29,40,41,42,50,51,52] [some 0,some 1] rfl (by cbv)
       ·refine zgT hT ?_;obtain⟨gg,hgg⟩:∃g,g=(F&&decide (j=0)):=⟨_,rfl⟩
        have Xu:∀k,¬(gg=true∧k=0∧at_ c_g k=32):=by
         rintro k ⟨h1,h2,h3⟩;rw[hgg,hF]at h1;simp only[qaG,qae]at h1;obtain⟨rfl,rfl⟩:=h1;subst h2;rw[fv]at acq;obtain⟨rfl,rfl⟩:=qcc acq;rw[ahS]at wx;subst wx;refine xP ⟨?_,h3⟩
         cases c_g with
         |nil=>simp[at_]at h3
         |cons x xs=>simp
        obtain⟨B8,hB8⟩:∃B8:Nat→List (List PV),∀k,B8 k=Z++aF.bytes (adh c_g gg k):=⟨_,fun _=>rfl⟩
        have aiD:B8 0=Z:=by rw[hB8];simp[adh,aF]
        have ajH:B6 (j+1)=B8 c_g.length:=by
         rw[hB8,hZ,←hR6,hB6,hB6];simp only[acR];rw[uk,hgg,acu,acu,←qaR,←qaR]
         congr 2
         split<;>rfl
        have ajI:∀k,k≤100→(B8 k).length≤300000:=fun k hk=>by
         have h1:=adY (c:=c_g) (f:=gg) (n:=k);rw[hB8,qal,ac2,hZ,qal];split<;>simp only[qaq,qaD]<;>omega
        have ajJ:∀k,aK 1 (B8 k):=fun k r hr=>by
         rw[hB8,hZ]at hr
         rcases qav.1 hr with hr|hr
         ·rcases qav.1 hr with hr|hr
          ·exact hRa r hr
          ·split at hr
           ·simp at hr;subst hr;rfl
           ·cases hr
         ·exact ac4 _ r hr
        refine jJ (fun k σ_=>mkB (OB (B8 k)) (OC (B8 k)) ((σ_.tidy [6,12,27,28,29,40,41,42,50,51,52,61,62] [some 0]).put (some 62) (.pv (.int .i64 (Int.ofNat k))))) c_g.length (fun k=>True) ?_ ?_
        ·rw[aiD]
         clear aiD hB8 ajH ajI ajJ
         rcases Z with _|⟨r,rs⟩
         ·simp only[hBn,hCn];exact Fg.ca [6,12,27,28,29,40,41,42,50,51,52,61,62] [some 0,none] rfl (by cbv)
         ·simp only[hBc,hCc];exact Fg.ca [6,12,27,28,29,40,41,42,50,51,52,61,62] [some 0,some 1] rfl (by cbv)
        clear aiD
        intro v hv hk8;have hRl:=ajI v (by omega);have hRa:=ajJ v;generalize hR8:B8 v=R at hRl hRa
        have hRl:R.length≤2^30:=by omega
        refine agS (U:=false) hT 10000 (by cbv) ?_;refine bp.af (fun hd8=>?_) (fun hd8=>?_)
        ·have aT:v<c_g.length:=by rw[←aC,←zI]at hd8;simp at hd8;omega
         have afo:lB (Int.ofNat v) c_g:=by rw[←mc];simp;omega
         obtain⟨aef,aeN⟩:∃b,b=at_ c_g v:=⟨_,rfl⟩
         have ahT:0≤aef∧aef<256:=by rw[aeN];exact wm _ _
         have afp:km c_g (Int.ofNat v)=aef:=by rw[←me,aeN];rfl
         obtain⟨r0,TW⟩:∃r,r=Lib.indexByte [39,43,58,63] aef.toNat.toUInt8:=⟨_,rfl⟩;have CR:=aih ahT TW;obtain⟨Z,hZ⟩:∃Z,Z=R++(if 0≤r0 then [[.int .u8 63]]else []):=⟨_,rfl⟩
         have aiE:B8 (v+1)=Z++[[.int .u8 aef]]:=by
          rw[hZ,←hR8,hB8,hB8];simp only[adh];rw[acu,acu,←qaR,←qaR,aeN]
          congr 2
          ·by_cases h:0≤r0
           ·rw[qao h,qao (Or.inl (by unfold ahG;rw[←aeN];exact CR.1 h))];rfl
           ·rw[qai h,qai (by rintro(h1|h1);exact h (CR.2 (by unfold ahG at h1;rw[aeN];exact h1));exact Xu v h1)];rfl
         refine aY ?_;refine ae afo ?_;rw[afp];refine zgT hT ?_;refine ao (by cbv) (fZ TW) (fun h=>by first|rfl|cases h) ?_;refine aeM (fun s=>mkB (OB Z) (OC Z) (s.tidy [6,12,13,27,28,29,40,41,42,50,51,52,61,62] [some 0])) (by rfl) ?_ ?_
         ·refine zgT hT ?_;refine bp.af (fun h0=>?_) (fun h0=>?_)
          ·replace h0:=eE h0
           rw[qao (by omega)]at hZ
           have adR:Z≠[]:=by rw[hZ];simp
           rcases R with _|⟨r,rs⟩
           ·have hZ1:Z=[[.int .u8 63]]:=hZ;rw[hBn,hCn];refine aY ?_;refine acS U9 ?_;refine zgT hT ?_;refine ae ⟨fF _ _ hRl hRa,fun h=>by cases h⟩ ?_;refine zgT hT ?_;refine acF ?_;rw[hBz Z adR,hCz Z adR,hZ1];exact Fg.ca [6,12,13,27,28,29,40,41,42,50,51,52,61,62] [some 0,some 16] rfl (by cbv)
           ·rw[hBc,hCc];refine aY ?_;refine ae ⟨fF _ _ hRl hRa,fun h=>by cases h⟩ ?_;rw[show bJ (r::rs) [[.int .u8 63]]=Z by rw[←bX,hZ];rfl];refine zgT hT ?_;refine acF ?_;rw[hBz Z adR,hCz Z adR];exact Fg.ca [6,12,13,27,28,29,40,41,42,50,51,52,61,62] [some 0,some 1] rfl (by cbv)
          ·replace h0:=eE h0
           rw[qai (by omega),qbw]at hZ;rw[←hZ];refine aY ?_;refine acF ?_
           rcases Z with _|⟨r,rs⟩
           ·simp only[hBn,hCn];exact Fg.ca [6,12,13,27,28,29,40,41,42,50,51,52,61,62] [some 0,none] rfl (by cbv)
           ·simp only[hBc,hCc];exact Fg.ca [6,12,13,27,28,29,40,41,42,50,51,52,61,62] [some 0,some 1] rfl (by cbv)
         ·have KQ:Z.length≤2^30:=by rw[hZ,qal];split<;>simp only[qaq,qaD]<;>omega
          have hZa:aK 1 Z:=fun r hr=>by
           rw[hZ]at hr
           rcases qav.1 hr with hr|hr
           ·exact hRa r hr
           ·split at hr
            ·simp at hr;subst hr;rfl
            ·cases hr
          obtain⟨Z2,hZ2⟩:∃Z2,Z2=Z++[[.int .u8 aef]]:=⟨_,rfl⟩
          have adS:Z2≠[]:=by rw[hZ2];simp
          rw[←hZ2]at aiE
          clear hZ
          rcases Z with _|⟨r,rs⟩
          ·have hZ1:Z2=[[.int .u8 aef]]:=hZ2;rw[hBn,hCn];refine zgT hT ?_;refine ae afo ?_;rw[afp];refine zgT hT ?_;refine acS U9 ?_;refine zgT hT ?_;refine ae ⟨fF _ _ KQ hZa,fun h=>by cases h⟩ ?_;refine zgT hT ?_;refine ta ⟨aT,trivial,?_⟩;rw[wS mz aw (v:=v) (by omega)];rw[aiE,hBz Z2 adS,hCz Z2 adS,hZ1];exact Fg.ca [6,12,27,28,29,40,41,42,50,51,52,61,62] [some 0,some 16] rfl (by cbv)
          ·rw[hBc,hCc];refine zgT hT ?_;refine ae afo ?_;rw[afp];refine zgT hT ?_;refine ae ⟨fF _ _ KQ hZa,fun h=>by cases h⟩ ?_;rw[show bJ (r::rs) [[.int .u8 aef]]=Z2 by rw[←bX,hZ2];rfl];refine zgT hT ?_;refine ta ⟨aT,trivial,?_⟩;rw[wS mz aw (v:=v) (by omega)];rw[aiE,hBz Z2 adS,hCz Z2 adS];exact Fg.ca [6,12,27,28,29,40,41,42,50,51,52,61,62] [some 0,some 1] rfl (by cbv)
        ·have aT:v=c_g.length:=by rw[←aC,←zI]at hd8;simp at hd8;omega
         rw[aT]at hR8;refine aY ?_;refine wW rfl ?_;refine zgT hT ?_;refine ta ⟨A2,trivial,?_⟩;rw[wS mz aw (v:=j) (by omega)];rw[ajH,hR8]
         clear hR8
         rcases R with _|⟨r,rs⟩
         ·simp only[hBn,hCn];exact Fg.ca [6,27,28,29,40,41,42,50,51,52] [some 0,none] rfl (by cbv)
         ·simp only[hBc,hCc];exact Fg.ca [6,27,28,29,40,41,42,50,51,52] [some 0,some 1] rfl (by cbv)
      ·have A2:j=adQ.length:=by rw[←aC,←ag]at hd6;simp at hd6;omega
       rw[A2]at hR6;refine aY ?_;refine wW rfl ?_;refine zgT hT ?_;refine ta ⟨gQ,trivial,?_⟩;rw[wS mz aw (v:=i) (by omega)];rw[ajC,hR6]
       clear hR6
       rcases R with _|⟨r,rs⟩
       ·simp only[hBn,hCn];exact Fg.ca [6,27,28,29,40,41,42] [some 0,none] rfl (by cbv)
       ·simp only[hBc,hCc];exact Fg.ca [6,27,28,29,40,41,42] [some 0,some 1] rfl (by cbv)
    ·have gQ:i=adm.length:=by rw[←aC,←ag]at hd4;simp at hd4;omega
     rw[gQ]at hR4;obtain⟨Z2,hZ2⟩:∃Z2,Z2=R++[[.int .u8 39]]:=⟨_,rfl⟩
     have adS:Z2≠[]:=by rw[hZ2];simp
     have Zb:B (v+1)=Z2:=by
      rw[hZ2,←hR4,hB,hB4];simp only[Uu,adX];rw[qab,qag (by omega),qbg,hLv,hSl,←qaR,acu];rfl
     have hZ2l:Z2.length=(Uu L (v+1)).length:=by rw[←Zb,ah8]
     have hRl:R.length≤2^30:=by omega
     have hRa:aK 1 R:=by rw[←hR4,hB4];exact ac4 _
     clear hR4
     rcases R with _|⟨r,rs⟩
     ·have hZ1:Z2=[[.int .u8 39]]:=hZ2;rw[hBn,hCn];refine aY ?_;refine wW rfl ?_;refine zgT hT ?_;refine acS U9 ?_;refine zgT hT ?_;refine ae ⟨fF _ _ hRl hRa,fun h=>by cases h⟩ ?_;rw[←hZ1];refine zgT hT ?_;refine bp.af (fun h9=>?_) (fun h9=>?_)
      ·rw[←aC,←ag]at h9;simp only[ade,X5,qae]at h9;rw[qao (by have:=adx (l:=L) (n:=v+1) (m:=L.length) (by omega);omega)]at ht
       cases ht
       refine aY ?_;refine dS ?_;rfl
      ·rw[←aC,←ag]at h9;simp only[ade,X5,qad]at h9;refine aY ?_;refine ta ⟨aT,by omega,?_⟩;rw[wS mz aw (v:=v) (by omega)];rw[Zb,hBz Z2 adS,hCz Z2 adS];exact Fg.ca [6,27,28,29] [some 0,some 16] rfl (by cbv)
     ·rw[hBc,hCc];refine aY ?_;refine wW rfl ?_;refine zgT hT ?_;refine ae ⟨fF _ _ hRl hRa,fun h=>by cases h⟩ ?_;rw[show bJ (r::rs) [[.int .u8 39]]=Z2 by rw[←bX,hZ2];rfl];refine zgT hT ?_;refine bp.af (fun h9=>?_) (fun h9=>?_)
      ·rw[←aC,←ag]at h9;simp only[ade,X5,qae]at h9;rw[qao (by have:=adx (l:=L) (n:=v+1) (m:=L.length) (by omega);omega)]at ht
       cases ht
       refine aY ?_;refine dS ?_;rfl
      ·rw[←aC,←ag]at h9;simp only[ade,X5,qad]at h9;refine aY ?_;refine ta ⟨aT,by omega,?_⟩;rw[wS mz aw (v:=v) (by omega)];rw[Zb,hBz Z2 adS,hCz Z2 adS];exact Fg.ca [6,27,28,29] [some 0,some 1] rfl (by cbv)
   ·have aT:v=ls.length:=by rw[←aC,←ag]at hd;simp at hd;omega
    have aiF:R≠[]:=by
     rw[←hR,hB,aT];intro h
     have h1:ls.length=(ls.length-1)+1:=by omega
     rw[h1]at h;simp only[Uu,adX]at h;have:=congrArg List.length h;rw[ac2]at this;simp at this
    rw[qai (by rw[hLl,←aT];omega)]at ht;obtain⟨ht1,ht2⟩:=qcc ht;subst ht2
    have hRt:yx R=t:=by
     rw[←ac0,←hR,hB,aT,←ht1,hLl];simp[aF,Function.comp_def]
    have hRb:I1 R:=by
     rw[←aeK,←hR,hB];intro r hr;obtain⟨x,-,rfl⟩:=qaw.1 hr;exact⟨_,rfl⟩
    have hR0:0<R.length:=qbm.2 aiF
    have ah9:aK 1 R:=by rw[←hR,hB];exact ac4 _
    have hR1:(R.getD 0 []).length=1:=by
     rw[qab,qag hR0,qbg];exact ah9 _ (qaf hR0)
    rw[hBz R aiF,hCz R aiF];refine aY ?_;refine wW rfl ?_;refine zgT hT ?_;refine ae (by rw[←aP];exact⟨by simp,by simpa using hR0,hR1⟩) ?_;refine zgT hT ?_;refine ae ⟨hRb,by rw[←dF,Ya];exact⟨by simp only[qaD];omega,by simp only[qaD];omega,fun r hr=>by simp at hr,ah9⟩⟩ ?_;rw[hRt];refine zgT hT ?_;refine aX ?_;rfl
end Go.bt
end
section
open Go Go.Am Go.Proofs
attribute [local irreducible] Am.bp.holds bH fw bP ek
namespace Go.bt
variable {mx:Int}
open Classical
theorem afR {W wsp:List (List PV)} {ls:List Raw} {kind ref t:List UInt8} {e:Int} (hW:W=ls.map Ug) (hl:ls.length<2^20) (hkd:kind.length<2^32) (hrf:ref.length<2^32)
  (hle:∀x∈ls,x.1.length<2^32∧x.2.length<2^20∧(∀d∈x.2,d.length<2^32)∧∃l d,x.2=l++[d]∧d≠[]) (ht:aeT kind ref ls=(t,e)):
  pC mx 85 [.sl [[.str kind,.str ref,.sl W wsp]] []] (.eN [.str t,.int .i64 e]):=by
 have hWl:W.length=ls.length:=by simp[hW]
 unfold aeT at ht;refine pZ JA ?_
 iterate 74 intro _
 intro zu Vu uH Pe
 iterate 10 intro _
 intro yw Kc
 iterate 15 intro _
 intro yR
 iterate 9 intro _
 intro l8 dF bJ bX _ _ df aw bu mz aI aQ aJ aP zI aU aV bC bA ag aC
 have h1l:l8 [[.str kind,.str ref,.sl W wsp]]=1:=by rw[←ag];rfl
 have aht:aJ 0 [[.str kind,.str ref,.sl W wsp]] 3:=by rw[←aP];simp[aF]
 have WX:aI [[.str kind,.str ref,.sl W wsp]] 0=[.str kind,.str ref,.sl W wsp]:=by rw[←aQ];rfl
 have ajL:JK [PV.str ref] [PV.str ref]=true:=by simp[JK]
 have ajM:uH 1 [] [.str ref] [.int .i64 0]=.int .i64 0:=by rw[←Pe];rfl
 have aia:yw [2] 1 [] [.str ref]:=by rw[←Kc];exact⟨rfl,by simp[aR],fun r hr=>by cases hr⟩
 have xg:zu 1 [] [.str ref] [.int .i64 1]=[[.str ref,.int .i64 1]]:=by rw[←Vu];rfl
 have ajN:yw [2] 1 [[.str ref,.int .i64 1]] [.str ref]:=by rw[←Kc];exact⟨rfl,by simp[aR],fun r hr=>by simp at hr;subst hr;simp[aR]⟩
 have ajO:uH 1 [[.str ref,.int .i64 1]] [.str ref] [.int .i64 0]=.int .i64 1:=by rw[←Pe];simp[aF,jy,ajL]
 have aib:bu .i64 (df 0 1)=1:=by rw[←mz,←aw];rfl
 refine gK ?_;refine acG ?_;refine ej ?_;rw[h1l];refine MP ?_;refine aY ?_;refine ae aht ?_;rw[WX];refine gK ?_;refine ae aia ?_;rw[ajM];refine gK ?_;rw[aib];refine ae aia ?_;rw[xg];refine gK ?_
 refine cU (by cbv) (aee (ls:=ls.map abZ) (by rw[hW,qcA];exact qcv (fun x _=>agF x)) (by simpa using (by omega:ls.length<2^32)) hkd hrf (by
  intro x hx;obtain⟨y,hy,rfl⟩:=qaw.1 hx;obtain⟨h1,h2,h3,l,d,h4,-⟩:=hle y hy;refine⟨by simp[abZ,h4],h1,by simp[abZ];omega,?_⟩;intro z hz;simp[abZ]at hz;obtain⟨d,hd,rfl⟩:=hz
  simp) rfl) (fun h=>?_) (fun h=>?_)<;>simp only[qae,qad]at h
 ·rw[qai (by simpa using h)]at ht;refine gK ?_;refine ae ajN ?_;rw[ajO];refine gK ?_;refine Pk ?_;refine aY ?_;obtain⟨C,hC⟩:∃C:Nat→List (List PV),∀v,C v=(ads kind ref::(ls.take v).map adi).map aem:=⟨_,fun _=>rfl⟩
  have hCl:∀v,v≤ls.length→(C v).length=v+1:=fun v hv=>by rw[hC];simp;omega
  have hCa:∀v,aK 1 (C v):=fun v=>by rw[hC];exact Kh (enc:=aem) (fun _=>rfl) _
  have ok2:∀a b:List (List PV),fS 1 [[.sl a []],[.sl b []]]:=fun a b r hr=>by
   simp only[qam,qaB,qa7]at hr
   rcases hr with rfl|rfl<;>exact⟨rfl,fun p hp=>by simp at hp;subst hp;rfl⟩
  have ok1:∀a:List (List PV),fS 1 [[.sl a []]]:=fun a r hr=>by
   simp only[qam,qaB,qa7]at hr;subst hr;exact⟨rfl,fun p hp=>by simp at hp;subst hp;rfl⟩
  obtain⟨Qh,hQh⟩:∃Q:List (List PV),Q=[.sl [[.str [72,69,68]]] []]::[[.sl [[.str ref]] []],[.sl [[.str kind]] []]]:=⟨_,rfl⟩;refine ao (by cbv) (afn (first:=[72,69,68]) (sp:=[]) hQh (by simp) (by simp) (ok2 _ _)) (fun h=>by first|rfl|cases h) ?_;refine gK ?_;refine ae ?_ ?_
  ·rw[←dF,←yR,Ya,aeg];exact⟨⟨by simp,by simp,ok1 _,fun r hr=>by cases hr⟩,Or.inl rfl⟩
  rw[show bJ [] [[.sl Qh []]]=C 0 by rw[←bX,dj,hC,hQh];simp[ads,aem,acV,strs,acp]];refine gK ?_;refine bQ [5,7,11,12,13,44,45,46] (nn [7,7,34,42]) (fun v σ_=>σ_.put (some 46) (.pv (.int .i64 (Int.ofNat v)))|>.aq 42 (.rows 1 (C v) 0)) (ls.length) (fun k=>True) ?_;intro v hv hk
  try dsimp only
  generalize dA:C v=cur;refine ej ?_
  have uy:cur.length=v+1:=by rw[←dA];exact hCl v hv
  have hca:aK 1 cur:=by rw[←dA];exact hCa v
  refine bp.af (fun hd=>?_) (fun hd=>?_)
  ·have aT:v<ls.length:=by rw[←aC,←ag]at hd;simp at hd;omega
   obtain⟨h1,h2,h3,l,d,h4,h5⟩:=hle _ (qaf aT);obtain⟨⟨tag,dat⟩,hx⟩:∃x,ls[v]=x:=⟨_,rfl⟩;rw[hx]at h1 h2 h3 h4;dsimp only at h1 h2 h3 h4;subst h4;obtain⟨D,hD⟩:∃D,D=(l++[d]).map aeP:=⟨_,rfl⟩
   have hDl:D.length=l.length+1:=by simp[hD]
   have hDok:fS 1 D:=by rw[hD];exact iX (enc:=aeP) (fun _=>⟨rfl,by simp[aeP]⟩) _
   have hinw:aJ (Int.ofNat v) W 2:=by rw[←aP,hW];exact aO (enc:=Ug) aT rfl
   have ajP:aI W (Int.ofNat v)=[.str tag,.sl D []]:=by rw[←aQ,hW,aN (enc:=Ug) aT,hx,hD];rfl
   obtain⟨R,hR⟩:∃R:List (List PV),R=[.sl [[.str tag]] []]::D:=⟨_,rfl⟩
   have QE:C (v+1)=C v++[[.sl R []]]:=by
    rw[hC,hC,qan aT,hx];simp[adi,aem,acV,strs,acp,hR,hD,aeP,Function.comp_def]
   refine aY ?_;refine ae hinw ?_;rw[ajP];refine gK ?_;refine bF (by cbv) (agi (l:=l) (x:=d) hD h5 (by simp at h2;omega)) (fun h=>by first|rfl|cases h) ?_;refine gK ?_;refine bF (by cbv) (afn hR (fun h=>by rw[h]at hDl;simp at hDl) (by rw[hDl];simp at h2;omega) hDok) (fun h=>by first|rfl|cases h) ?_;refine gK ?_;refine ae ?_ ?_
   ·rw[←dF,Ya];exact⟨by simp only[qaq,qaD];omega,by simp only[qaq,qaD];omega,ok1 _,hca⟩
   rw[show bJ cur [[.sl R []]]=C (v+1) by rw[←bX,dj,QE,dA]];refine gK ?_;refine ta ⟨aT,trivial,?_⟩;rw[wS mz aw (v:=v) (by omega)]
   cbv
  ·have aT:v=ls.length:=by rw[←aC,←ag]at hd;simp at hd;omega
   have Xn:bu .i64 (df (l8 W) 2)=Int.ofNat (ls.length+2):=by
    rw[←mz,←aw,←ag];simp only[n9,kT,X5];rw[dy]<;>(try simp)<;>omega
   obtain⟨dg,hdg⟩:∃x,x=digits (ls.length+2):=⟨_,rfl⟩;obtain⟨Qe,hQe⟩:∃Q:List (List PV),Q=[.sl [[.str [69,78,68]]] []]::[[.sl [[.str dg]] []],[.sl [[.str ref]] []]]:=⟨_,rfl⟩;obtain⟨Z,hZ⟩:∃Z,Z=bJ cur [[.sl Qe []]]:=⟨_,rfl⟩
   have hZ':Z=(ads kind ref::ls.map adi++[ady ls.length ref]).map aem:=by
    rw[hZ,←bX,dj,←dA,hC,aT,qbh,hQe];simp[ady,aem,acV,strs,acp,hdg]
   refine aY ?_;refine wW rfl ?_;refine gK ?_;rw[Xn];refine bF (by cbv) (mg (by omega) hdg) (fun _=>rfl) ?_;refine gK ?_;refine bF (by cbv) (afn (first:=[69,78,68]) (sp:=[]) hQe (by simp) (by simp) (ok2 _ _)) (fun h=>by first|rfl|cases h) ?_;refine gK ?_;refine ae ?_ ?_
   ·rw[←dF,Ya];exact⟨by simp only[qaq,qaD];omega,by simp only[qaq,qaD];omega,ok1 _,hca⟩
   rw[←hZ];refine gK ?_;refine ta ?_;rw[aib];refine acG ?_;refine ej ?_;refine Pk ?_;refine aY ?_;refine wW rfl ?_;refine gK ?_
   have fF:∀k,(hk:k<ls.length)→at_ (ls[k]).1 0≠32:=fun k hk=>by
    have:=(h.2.2 k (by simpa using hk)).1;simp only[qcf]at this;have h3:(ls[k]).1.length=3:=this.1;have h0:65≤at_ (ls[k]).1 0∧at_ (ls[k]).1 0≤90:=this.2.1 0 (show 0<(ls[k]).1.length by rw[h3];decide);omega
   refine ao (by cbv) (afO hZ' (by simp;omega) (by
    intro x hx
    have one:∀{c:List UInt8},c.length<2^32→([c]:List (List UInt8)).length<2^32∧∀b∈[c],b.length<2^32:=fun h=>⟨by simp,fun b hb=>by simp at hb;subst hb;exact h⟩
    rcases qav.1 hx with hx|hx
    ·rcases qam.1 hx with rfl|hx
     ·refine⟨by simp[ads],fun y hy=>?_⟩;simp only[ads,qam,qaB,qa7]at hy
      rcases hy with rfl|rfl|rfl
      ·exact one (by simp)
      ·exact one hrf
      ·exact one hkd
     ·obtain⟨y,hy,rfl⟩:=qaw.1 hx;obtain⟨h1,h2,h3,-⟩:=hle y hy;refine⟨by simp[adi];omega,fun z hz=>?_⟩;simp only[adi,qam]at hz
      rcases hz with rfl|hz
      ·exact one h1
      ·obtain⟨d,hd,rfl⟩:=qaw.1 hz;exact one (h3 d hd)
    ·simp only[qam,qaB,qa7]at hx;subst hx;refine⟨by simp[ady],fun y hy=>?_⟩;simp only[ady,qam,qaB,qa7]at hy
     rcases hy with rfl|rfl|rfl
     ·exact one (by simp)
     ·exact one (by have:=adv (n:=ls.length+2) (by omega);omega)
     ·exact one hrf) (by
    intro x hx e0 es sp0 he c cs hc
    rcases qav.1 hx with hx|hx
    ·rcases qam.1 hx with rfl|hx
     ·simp only[ads,qas,qbn]at he;rw[←he.1.1]at hc;simp only[qbn]at hc;rw[←hc.1]
      decide
     ·obtain⟨y,hy,rfl⟩:=qaw.1 hx;obtain⟨k,hk,rfl⟩:=qaI hy;simp only[adi,qas,qbn]at he;rw[←he.1.1]at hc;simp only[qbn]at hc;rw[←hc.1];exact fF k hk
    ·simp only[qam,qaB,qa7]at hx;subst hx;simp only[ady,qas,qbn]at he;rw[←he.1.1]at hc;simp only[qbn]at hc;rw[←hc.1]
     decide) (by simp) ht) (fun h=>by first|rfl|cases h) ?_
   refine gK ?_;refine aX ?_;rfl
 ·rw[qao h]at ht
  cases ht
  refine gK ?_;refine dS ?_;rfl
theorem ahy:ag9 (mx:=mx):=fun hn ht=>mg hn ht
theorem ahz {c csp vv vsp r rsp f fsp t tsp:List (List PV)} {l1 l2 l3 l4 m1 m2 m3 m4:Int} {rows sp brows bsp:List (List PV)} {cl:List aL} {vl:List bz} {l:List aH} {boxes:List bw} {call:Int} {port ref t0:List UInt8} {e:Int} (jI:c=cl.map aL.enc) (pN:vv=vl.map bz.enc) (wU:cl.length<2^32) (Hn:vl.length<2^32) (CS:∀x∈cl,x.cq.length<2^32) (AE:∀x∈vl,x.rows.length<2^16)
  (eS:rows=l.map aH.enc) (jb:brows=boxes.map bw.enc) (hl:l.length<2^15) (lO:boxes.length<2^15) (vf:∀b∈boxes,og b) (bO:∀x∈l,kL x) (hrf:ref.length<2^32) (hr:adL cl vl ref call port boxes l=(t0,e)):
  pC mx 36 [.agg [.sl c csp,.sl vv vsp,.int .i64 l1,.int .i64 l2,.int .i64 l3,.int .i64 l4,.sl r rsp,.sl f fsp,.sl t tsp,.int .i64 m1,.int .i64 m2,.int .i64 m3,.int .i64 m4],.str ref,.agg [.int .i64 call,.str port,.sl brows bsp,.sl rows sp]] (.eN [.str t0,.int .i64 e]):=by
 unfold adL at hr;refine pZ JB ?_
 iterate 129 intro _
 intro zI aU aV bC bA ag aC;refine gK ?_;refine cU (by cbv) (aho jI pN wU Hn CS AE eS jb (by omega) (by omega) vf bO rfl) (fun h=>?_) (fun h=>?_)<;>simp only[qae,qad]at h
 ·rw[qai (by simpa using h)]at hr;refine gK ?_;refine cU (by cbv) (aee (rows:=[]) (ls:=[]) rfl (by simp) (by simp) hrf (by simp) rfl) (fun h'=>?_) (fun h'=>?_)<;>simp only[qae,qad,qaF]at h'
  ·rw[qai (by simpa[abH]using h')]at hr;obtain⟨W,hW⟩:∃W,W=(aaT cl vl call port boxes l boxes.length).map Ug:=⟨_,rfl⟩;have mn:=acs (c:=cl) (v:=vl) (call:=call) (port:=port) (boxes:=boxes) (l:=l) (n:=boxes.length);refine gK ?_;refine ao (by cbv) (aga ahy (ref:=ref) jI pN wU Hn CS AE eS jb (by omega) (by omega) bO vf h hW) (fun h=>by first|rfl|cases h) ?_;refine gK ?_;refine ao (by cbv) (afR (kind:=[66,65,89,80,76,78]) hW (by omega) (by simp) hrf (agX h (qak _)) (show aeT [66,65,89,80,76,78] ref _=(t0,e) from hr)) (fun h=>by first|rfl|cases h) ?_
   refine gK ?_;refine aX ?_;rfl
  ·rw[qao (by simpa[abH]using h')]at hr
   cases hr
   refine gK ?_;refine aX ?_;rfl
 ·rw[qao h]at hr
  cases hr
  refine gK ?_;refine aX ?_;rfl
end Go.bt
end
