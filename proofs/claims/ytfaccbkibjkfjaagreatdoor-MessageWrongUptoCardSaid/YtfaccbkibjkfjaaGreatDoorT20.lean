import Derived.Test.YtfaccbkibjkfjaaGreatDoorT11
import Derived.Test.YtfaccbkibjkfjaaGreatDoorT18
import Derived.Test.YtfaccbkibjkfjaaGreatDoorT10
import Derived.Test.YtfaccbkibjkfjaaGreatDoorT17
import Derived.Test.YtfaccbkibjkfjaaGreatDoorT12
import Derived.Test.YtfaccbkibjkfjaaGreatDoorT08
import Derived.Test.YtfaccbkibjkfjaaGreatDoorT16
set_option linter.all false
set_option maxRecDepth 100000
set_option maxHeartbeats 1000000
section
open Go Go.Am Go.Proofs
attribute [local irreducible] Am.bp.holds bH fw bP ek
namespace Go.bt
variable {mx:Int}
open Classical
theorem Hq {x:aH} {cs:List PV} {n:Int} {r:Bool} (hcs:cs=x.enc) (hr:r=decide (x.box=n)):pC mx 145 [.agg cs,.int .i64 n] (.bool r):=by
 subst hcs;obtain⟨box,rk,tier,half⟩:=x;show pC mx 145 [.agg [.int .i64 box,.int .i64 rk,.int .i64 tier,.int .u8 half],.int .i64 n] (.bool r);refine pZ N9 ?_
 iterate 129 intro _
 intro aB aU aV bC bA ag aC;refine gK ?_;refine bp.af (fun h=>?_) (fun h=>?_)
 ·rw[←bA]at h;simp at h;refine aY ?_;refine aX ?_;exact tr hr h
 ·rw[←bA]at h;simp at h;refine aY ?_;refine aX ?_;exact fa hr h
theorem Hr {rows sp:List (List PV)} {l:List bw} {k:Int} {I:List (List PV)} (hr:rows=l.map bw.enc) (hl:l.length<2^32) (hI:I=ints (uc l k l.length)):pC mx 144 [.sl rows sp,.int .i64 k] (.sl I []):=by
 have hlen:rows.length=l.length:=by simp[hr]
 refine pZ N8 ?_
 iterate 116 intro _
 intro dF bJ bX _ _ _ aw _ ah aI aQ aJ aP aB aU aV bC bA ag aC;refine gK ?_;refine bQ [0,1,5,8,9,10] (nn [5,5]) (fun v σ_=>σ_.put (some 10) (.pv (.int .i64 (Int.ofNat v)))|>.aq 5 (.rows 1 (ints (uc l k v)) 0)) (l.length) (fun k=>True) ?_;intro v hv hk
 try dsimp only
 generalize dA:ints (uc l k v)=cur;refine ej ?_;refine bp.af (fun hd=>?_) (fun hd=>?_)
 ·have aT:v<l.length:=by rw[←aC,←ag]at hd;simp at hd;omega
  obtain⟨gI,bj⟩:∃x,l[v]=x:=⟨_,rfl⟩
  have bG:aJ (Int.ofNat v) rows 9:=by rw[←aP,hr];exact aO (enc:=bw.enc) aT rfl
  obtain⟨⟨iN,fO,eZ,e6,eG,eA,gi,jl,dI⟩,bW⟩:∃y,gI=y:=⟨_,rfl⟩;subst bW
  have aW:aI rows (Int.ofNat v)=[.int .i64 iN,.str fO,.int .u8 eZ,.bool e6,.int .i64 eG,.int .i64 eA,.int .i64 gi,.int .u8 jl,.bool dI]:=by rw[←aQ,hr,aN (enc:=bw.enc) aT,bj];rfl
  have dJ:=Cz (k:=k) aT;rw[bj]at dJ;have hA:lG ⟨iN,fO,eZ,e6,eG,eA,gi,jl,dI⟩ k↔eA≤k∧k<gi:=Iff.rfl;refine aY ?_;refine ae bG ?_;rw[aW];refine gK ?_
  repeat' (first|refine gH ?_|(refine iE (fun hc=>?_) (fun hc=>?_)<;>(try simp at hc)<;>(try(exfalso;omega))))
  ·refine ae ?_ ?_
   ·rw[←dF,←dA];have:=Aq (l:=l) (k:=k) (v:=v);simp;omega
   refine gK ?_;refine ak ⟨aT,trivial,?_⟩;rw[wS ah aw (v:=v) (by omega)]
   rw[show bJ cur [[.int .i64 iN]]=ints (uc l k (v+1)) by
    rw[←bX,←dA,dJ,if_pos (hA.2 (by omega))]
    simp[ints]]
   cbv
  all_goals
   refine ak ⟨aT,trivial,?_⟩;rw[wS ah aw (v:=v) (by omega)];rw[show cur=ints (uc l k (v+1)) by rw[←dA,dJ,if_neg (fun h=>by have:=hA.1 h;omega)]]
   cbv
 ·have aT:v=l.length:=by rw[←aC,←ag]at hd;simp at hd;omega
  refine aY ?_;refine ar rfl ?_;refine gK ?_;refine aX ?_;rw[hI,←dA,aT]
theorem Ht {rows sp I isp:List (List PV)} {l:List aH} {ids:List Int} {r:Bool} (hr:rows=l.map aH.enc) (hI:I=ints ids) (hl:l.length<2^32) (dD:r=decide (l.map (·.box)=ids)):pC mx 143 [.sl rows sp,.sl I isp,.gM 145 []] (.bool r):=by
 have hlen:rows.length=l.length:=by simp[hr]
 have abC:I.length=ids.length:=by simp[hI]
 refine pZ N7 ?_
 iterate 122 intro _
 intro aw _ ah aI aQ aJ aP aB aU aV bC bA ag aC;refine gK ?_;refine bp.af (fun h1=>?_) (fun h1=>?_)
 ·replace h1:=eE h1
  refine aY ?_;refine aX ?_;refine fa dD (fun h=>?_);have:=congrArg List.length h;simp at this;omega
 ·replace h1:=eE h1
  refine aY ?_
  have hll:l.length=ids.length:=by omega
  refine bQ [0,1,2,15,16,17] [] (fun v σ_=>σ_.put (some 17) (.pv (.int .i64 (Int.ofNat v)))) (l.length) (fun k=>(∀h:k<l.length,l[k].box=ids.getD k 0)) ?_;intro v hv hk;refine ej ?_;refine bp.af (fun hd=>?_) (fun hd=>?_)
  ·have aT:v<l.length:=by rw[←aC,←ag]at hd;simp at hd;omega
   obtain⟨gI,bj⟩:∃x,l[v]=x:=⟨_,rfl⟩
   have bG:aJ (Int.ofNat v) rows 4:=by rw[←aP,hr];exact aO (enc:=aH.enc) aT rfl
   obtain⟨⟨eH,⟨dO,du,fH⟩⟩,bW⟩:∃y,gI=y:=⟨_,rfl⟩;subst bW
   have aW:aI rows (Int.ofNat v)=[.int .i64 eH,.int .i64 dO,.int .i64 du,.int .u8 fH]:=by rw[←aQ,hr,aN (enc:=aH.enc) aT,bj];rfl
   obtain⟨n,hn⟩:∃n,n=ids.getD v 0:=⟨_,rfl⟩
   have Kz:aJ (Int.ofNat v) I 1:=by rw[←aP,hI];exact gW (by simp) (by simp;omega)
   have Em:aI I (Int.ofNat v)=[.int .i64 n]:=by rw[←aQ,hI,gv (by simp) (by simp;omega),hn];rfl
   refine aY ?_;refine ae bG ?_;rw[aW];refine gK ?_;refine ae Kz ?_;rw[Em];refine gK ?_;refine cU (by cbv) (Hq (x:=⟨eH,dO,du,fH⟩) rfl rfl) (fun h=>?_) (fun h=>?_)<;>simp only[decide_eq_true_eq,decide_eq_false_iff_not]at h
   ·refine gK ?_;refine ak ⟨aT,fun _=>by rw[bj,←hn];exact h,?_⟩;rw[wS ah aw (v:=v) (by omega)]
    cbv
   ·refine gK ?_;refine dS ?_;refine fa dD (fun h'=>h ?_);rw[hn,←h'];simp[List.getD_eq_getElem?_getD,aT,bj]
  ·have aT:v=l.length:=by rw[←aC,←ag]at hd;simp at hd;omega
   refine aY ?_;refine ar rfl ?_;refine gK ?_;refine aX ?_;refine tr dD (List.ext_getElem (by simpa using hll) (fun i h1 h2=>?_))
   have hi:i<l.length:=by simpa using h1
   have:=hk i (by omega) hi;simp only[List.getElem_map];rw[this];simp[List.getD_eq_getElem?_getD,h2]
end Go.bt
end
section
open Go Go.Am Go.Proofs
attribute [local irreducible] Am.bp.holds bH fw bP ek
namespace Go.bt
variable {mx:Int}
open Classical
def tq (sl:List Stat) (k:Nat):Stat:=sl.getD k ⟨[],[]⟩
theorem mC {sl:List Stat} {i:Nat} (h:i<sl.length):tq sl i=sl[i]:=by simp[tq,List.getD_eq_getElem?_getD,h]
def ng (cl:List aL) (vl:List bz) (boxes:List bw) (sl:List Stat) (k:Nat):Prop:=¬gC cl vl boxes (tq sl k).l
def sB (boxes:List bw) (sl:List Stat) (k:Nat):Prop:=(tq sl k).l.map (·.box)≠uc boxes (Int.ofNat k) boxes.length
def dq (cl:List aL) (vl:List bz) (boxes:List bw) (calls:Int) (sl:List Stat) (k e:Int):Prop:=
 (¬fo cl vl∧k=0∧e=2)∨(fo cl vl∧¬je boxes calls∧k=0∧e=230)∨(fo cl vl∧je boxes calls∧Int.ofNat sl.length≠calls∧k=0∧e=231)∨
 (fo cl vl∧je boxes calls∧Int.ofNat sl.length=calls∧∃r,eW (fun i=>ng cl vl boxes sl i∨sB boxes sl i) sl.length r∧((r= -1∧k=0∧e=0)∨∃v,r=Int.ofNat v∧k=r∧e=if ng cl vl boxes sl v then 232 else 233))
section
variable {cl:List aL} {vl:List bz} {boxes:List bw} {calls:Int} {sl:List Stat} {k e:Int}
theorem dq.ex (cl:List aL) (vl:List bz) (boxes:List bw) (calls:Int) (sl:List Stat):∃k e,dq cl vl boxes calls sl k e:=by
 by_cases h1:fo cl vl
 ·by_cases h2:je boxes calls
  ·by_cases h3:Int.ofNat sl.length=calls
   ·obtain⟨r,hr⟩:=eW.ex (fun i=>ng cl vl boxes sl i∨sB boxes sl i) sl.length;have ni:=hr
    rcases ni with⟨-,h⟩|⟨v,-,-,-,h⟩
    ·exact⟨0,0,.inr (.inr (.inr ⟨h1,h2,h3,r,hr,.inl ⟨h,rfl,rfl⟩⟩))⟩
    ·exact⟨r,_,.inr (.inr (.inr ⟨h1,h2,h3,r,hr,.inr ⟨v,h,rfl,rfl⟩⟩))⟩
   ·exact⟨0,231,.inr (.inr (.inl ⟨h1,h2,h3,rfl,rfl⟩))⟩
  ·exact⟨0,230,.inr (.inl ⟨h1,h2,rfl,rfl⟩)⟩
 ·exact⟨0,2,.inl ⟨h1,rfl,rfl⟩⟩
theorem dq.abE (h:dq cl vl boxes calls sl k e) (h1:¬fo cl vl):k=0∧e=2:=by
 rcases h with h|h|h|h
 ·exact h.2
 all_goals exact absurd h.1 h1
theorem dq.abF (h:dq cl vl boxes calls sl k e) (h1:fo cl vl) (h2:¬je boxes calls):k=0∧e=230:=by
 rcases h with h|h|h|h
 ·exact absurd h1 h.1
 ·exact h.2.2
 ·exact absurd h.2.1 h2
 ·exact absurd h.2.1 h2
theorem dq.count (h:dq cl vl boxes calls sl k e) (h1:fo cl vl) (h2:je boxes calls) (h3:Int.ofNat sl.length≠calls):k=0∧e=231:=by
 rcases h with h|h|h|h
 ·exact absurd h1 h.1
 ·exact absurd h2 h.2.1
 ·exact h.2.2.2
 ·exact absurd h.2.2.1 h3
theorem dq.bad (h:dq cl vl boxes calls sl k e) (h1:fo cl vl) (h2:je boxes calls) (h3:Int.ofNat sl.length=calls) {v:Nat} (hv:v<sl.length) (hb:ng cl vl boxes sl v∨sB boxes sl v) (hn:∀j,j<v→¬(ng cl vl boxes sl j∨sB boxes sl j)):k=Int.ofNat v∧e=if ng cl vl boxes sl v then 232 else 233:=by
 rcases h with h|h|h|h
 ·exact absurd h1 h.1
 ·exact absurd h2 h.2.1
 ·exact absurd h3 h.2.2.1
 ·obtain⟨-,-,-,r,hr,h⟩:=h;have:=hr.at hv hb hn
  rcases h with⟨h,-⟩|⟨u,hu,hk,he⟩
  ·rw[h]at this;have:(-1:Int)=(v:Int):=this;omega
  ·have huv:u=v:=by
    rw[hu]at this;have:(u:Int)=(v:Int):=this;omega
   subst huv;exact⟨by rw[hk,hu],he⟩
theorem dq.Hh (h:dq cl vl boxes calls sl k e) (h1:fo cl vl) (h2:je boxes calls) (h3:Int.ofNat sl.length=calls) (hn:∀j,j<sl.length→¬(ng cl vl boxes sl j∨sB boxes sl j)):k=0∧e=0:=by
 rcases h with h|h|h|h
 ·exact absurd h1 h.1
 ·exact absurd h2 h.2.1
 ·exact absurd h3 h.2.2.1
 ·obtain⟨-,-,-,r,hr,h⟩:=h;have:=hr.none hn
  rcases h with⟨h,hk,he⟩|⟨u,hu,hk,he⟩
  ·exact⟨hk,he⟩
  ·rw[hu]at this;have:(u:Int)= -1:=this;omega
theorem dq.zero (h:dq cl vl boxes calls sl k 0):fo cl vl∧je boxes calls∧Int.ofNat sl.length=calls∧∀j,j<sl.length→¬(ng cl vl boxes sl j∨sB boxes sl j):=by
 rcases h with h|h|h|h
 ·exact absurd h.2.2 (by omega)
 ·exact absurd h.2.2.2 (by omega)
 ·exact absurd h.2.2.2.2 (by omega)
 ·obtain⟨h1,h2,h3,r,hr,h⟩:=h;refine⟨h1,h2,h3,?_⟩
  rcases h with⟨h,hk,he⟩|⟨u,hu,hk,he⟩
  ·rcases hr with⟨h4,-⟩|⟨w,-,-,-,h4⟩
   ·exact h4
   ·rw[h]at h4;have:(-1:Int)=(w:Int):=h4;omega
  ·split at he<;>omega
end
theorem As {c csp vv vsp r rsp f fsp t tsp:List (List PV)} {l1 l2 l3 l4 m1 m2 m3 m4:Int} {srows Uu Ug wsp brows SM:List (List PV)} {cl:List aL} {vl:List bz} {sl:List Stat} {boxes:List bw} {calls k e:Int} (jI:c=cl.map aL.enc) (pN:vv=vl.map bz.enc) (wU:cl.length<2^32) (Hn:vl.length<2^32) (CS:∀x∈cl,x.cq.length<2^32) (AE:∀x∈vl,x.rows.length<2^16)
  (hs:srows=sl.map Stat.enc) (oa:sl.length<2^32) (jb:brows=boxes.map bw.enc) (lO:boxes.length<2^32) (vf:∀b∈boxes,og b) (yb:∀x∈sl,x.l.length<2^32∧∀y∈x.l,kL y) (dD:dq cl vl boxes calls sl k e):
  pC mx 64 [.agg [.sl c csp,.sl vv vsp,.int .i64 l1,.int .i64 l2,.int .i64 l3,.int .i64 l4,.sl r rsp,.sl f fsp,.sl t tsp,.int .i64 m1,.int .i64 m2,.int .i64 m3,.int .i64 m4],.sl brows SM,.int .i64 calls,.agg [.sl srows Uu,.sl Ug wsp]] (.eN [.int .i64 k,.int .i64 e]):=by
 have hlen:srows.length=sl.length:=by simp[hs]
 refine pZ UZ ?_
 iterate 122 intro _
 intro aw _ ah aI aQ aJ aP aB aU aV bC bA ag aC;refine gK ?_;refine cU (by cbv) (Aj jI pN wU Hn CS AE rfl) (fun h=>?_) (fun h=>?_)<;>simp only[decide_eq_true_eq,decide_eq_false_iff_not]at h
 ·have kN:=h;refine gK ?_;refine cU (by cbv) (Ky jb lO rfl) (fun h=>?_) (fun h=>?_)<;>simp only[decide_eq_true_eq,decide_eq_false_iff_not]at h
  ·have Sy:=h;refine gK ?_;refine bp.af (fun h3=>?_) (fun h3=>?_)
   ·replace h3:=eE h3
    refine aY ?_;refine aX ?_;obtain⟨rfl,rfl⟩:=dD.count kN Sy (by simp;omega);rfl
   ·replace h3:=eE h3
    have wI:Int.ofNat sl.length=calls:=by simp;omega
    refine aY ?_;refine bQ [1,2,4,7,28,29,30] (nn [4,4,2,7]) (fun v σ_=>σ_.put (some 30) (.pv (.int .i64 (Int.ofNat v)))) (sl.length) (fun k=>¬(ng cl vl boxes sl k∨sB boxes sl k)) ?_;intro v hv hk;refine ej ?_;refine bp.af (fun hd=>?_) (fun hd=>?_)
    ·have aT:v<sl.length:=by rw[←aC,←ag]at hd;simp at hd;omega
     obtain⟨gI,bj⟩:∃x,sl[v]=x:=⟨_,rfl⟩
     have bG:aJ (Int.ofNat v) srows 1:=by rw[←aP,hs];exact aO (enc:=Stat.enc) aT rfl
     obtain⟨⟨rp,wJ⟩,bW⟩:∃y,gI=y:=⟨_,rfl⟩;subst bW
     have aW:aI srows (Int.ofNat v)=[.sl (rp.map aH.enc) wJ]:=by rw[←aQ,hs,aN (enc:=Stat.enc) aT,bj];rfl
     obtain⟨p,hp⟩:∃p,p=rp.map aH.enc:=⟨_,rfl⟩;rw[←hp]at aW;have xR:=yb _ (List.getElem_mem aT);rw[bj]at xR
     have CR:(tq sl v).l=rp:=by rw[mC aT,bj]
     have bad:=fun hb=>dD.bad kN Sy wI aT hb hk
     refine aY ?_;refine ae bG ?_;rw[aW];refine gK ?_;refine cU (by cbv) (Pb (fun hq=>Aj jI pN wU Hn CS AE hq) jI wU hp jb xR.1 lO vf xR.2 rfl) (fun h=>?_) (fun h=>?_)<;>simp only[decide_eq_true_eq,decide_eq_false_iff_not]at h
     ·have h1:¬ng cl vl boxes sl v:=fun h'=>h' (by rw[CR];exact h)
      refine gK ?_;obtain⟨I,hI⟩:∃I,I=ints (uc boxes (Int.ofNat v) boxes.length):=⟨_,rfl⟩;refine ao (by cbv) (Hr jb lO hI) (fun h=>by first|rfl|cases h) ?_;refine gK ?_;refine cU (by cbv) (Ht hp hI xR.1 rfl) (fun h=>?_) (fun h=>?_)<;>simp only[decide_eq_true_eq,decide_eq_false_iff_not]at h
      ·refine gK ?_;refine ak ⟨aT,?_,?_⟩
       ·rintro(h'|h')
        ·exact h1 h'
        ·exact h' (by rw[CR];exact h)
       rw[wS ah aw (v:=v) (by omega)]
       cbv
      ·refine gK ?_;refine dS ?_;obtain⟨rfl,rfl⟩:=bad (.inr (by unfold sB;rw[CR];exact h));rw[if_neg h1]
     ·refine gK ?_;refine dS ?_
      have h1:ng cl vl boxes sl v:=by unfold ng;rw[CR];exact h
      obtain⟨rfl,rfl⟩:=bad (.inl h1);rw[if_pos h1]
    ·have aT:v=sl.length:=by rw[←aC,←ag]at hd;simp at hd;omega
     refine aY ?_;refine ar rfl ?_;refine gK ?_;refine aX ?_;obtain⟨rfl,rfl⟩:=dD.Hh kN Sy wI (fun j hj=>hk j (by omega));rfl
  ·refine gK ?_;refine aX ?_;obtain⟨rfl,rfl⟩:=dD.abF kN h;rfl
 ·refine gK ?_;refine aX ?_;obtain⟨rfl,rfl⟩:=dD.abE h;rfl
end Go.bt
end
section
open Go Go.Am Go.Proofs
attribute [local irreducible] Am.bp.holds bH fw bP ek
namespace Go.bt
variable {mx:Int}
open Classical
noncomputable def wW (e1 e2 e3:Int) (n k:Int):Int:=if e1=0∧e2=0∧e3=0 then if 0≤k∧k<n then 0 else 6 else 2
end Go.bt
end
section
open Go Go.Am Go.Proofs
attribute [local irreducible] Am.bp.holds bH fw bP ek
namespace Go.bt
variable {mx:Int}
open Classical
def At:PV:=.agg [.int .i64 0,.str [],.sl [] [],.sl [] []]
end Go.bt
end
section
open Go Go.Am Go.Proofs
attribute [local irreducible] Am.bp.holds bH fw bP ek
namespace Go.bt
variable {mx:Int}
open Classical
theorem YI {c csp vv vsp r rsp f fsp t tsp:List (List PV)} {l1 l2 l3 l4 m1 m2 m3 m4:Int} {gy ksp srows Uu Ug wsp brows SM:List (List PV)} {cl:List aL} {vl:List bz} {sl:List Stat} {kl:List cT} {boxes:List bw} {k k1 e1 i2 e2 k3 e3 e N:Int} (jI:c=cl.map aL.enc) (pN:vv=vl.map bz.enc) (wU:cl.length<2^32) (Hn:vl.length<2^32) (CS:∀x∈cl,x.cq.length<2^32) (AE:∀x∈vl,x.rows.length<2^16)
  (hN:N=Int.ofNat kl.length) (wO:gy=kl.map cT.enc) (AB:kl.length<2^32) (hs:srows=sl.map Stat.enc) (oa:sl.length<2^32) (jb:brows=boxes.map bw.enc) (lO:boxes.length<2^32) (vf:∀b∈boxes,og b) (yb:∀x∈sl,x.l.length<2^32∧∀y∈x.l,kL y)
  (h1:fh kl k1 e1) (h2:ib boxes i2 e2) (h3:dq cl vl boxes N sl k3 e3) (he:e=wW e1 e2 e3 N k) (eb:e≠0):
  pC mx 21 [.agg [.sl c csp,.sl vv vsp,.int .i64 l1,.int .i64 l2,.int .i64 l3,.int .i64 l4,.sl r rsp,.sl f fsp,.sl t tsp,.int .i64 m1,.int .i64 m2,.int .i64 m3,.int .i64 m4],.sl gy ksp,.sl brows SM,.agg [.sl srows Uu,.sl Ug wsp],.int .i64 k] (.eN [At,.int .i64 e]):=by
 have Sz:gy.length=kl.length:=by simp[wO]
 have KD:brows.length=boxes.length:=by simp[jb]
 have SA:srows.length=sl.length:=by simp[hs]
 refine pZ U2 ?_
 iterate 115 intro _
 intro l8
 iterate 13 intro _
 intro aB aU aV bC bA ag aC;refine gK ?_;refine ao (by cbv) (Kx wO AB h1) (fun h=>by first|rfl|cases h) ?_;refine gK ?_;refine ao (by cbv) (Ka jb h2) (fun h=>by first|rfl|cases h) ?_;refine gK ?_;have hN':N=(kl.length:Int):=hN
 have mn:l8 gy=N:=by rw[←ag];simp[wO,hN]
 repeat' (first|refine gH ?_|(refine iE (fun hc=>?_) (fun hc=>?_)<;>(try simp at hc)<;>(try(exfalso;omega))))
 ·have h2:e=2:=by rw[he,wW,if_neg (by omega)]
  rw[h2];refine oW (by cbv)
 ·have h2:e=2:=by rw[he,wW,if_neg (by omega)]
  rw[h2];refine oW (by cbv)
 rw[mn];refine ao (by cbv) (As jI pN wU Hn CS AE hs oa jb lO vf yb h3) (fun h=>by first|rfl|cases h) ?_;refine gK ?_
 repeat' (first|refine gH ?_|(refine iE (fun hc=>?_) (fun hc=>?_)<;>(try simp at hc)<;>(try(exfalso;omega))))
 ·have h2:e=2:=by rw[he,wW,if_neg (by omega)]
  rw[h2];refine oW (by cbv)
 ·have h2:e=6:=by rw[he,wW,if_pos (by omega),if_neg (by omega)]
  rw[h2];refine oW (by cbv)
 ·have h2:e=6:=by rw[he,wW,if_pos (by omega),if_neg (by rintro⟨h,h'⟩;rw[hN]at h';have h':k<(kl.length:Int):=h';omega)]
  rw[h2];refine oW (by cbv)
 have he3:e3=0:=by omega
 subst he3;have hz:=h3.zero
 have hsk:sl.length=kl.length:=by have:=hz.2.2.1;rw[hN]at this;exact Int.ofNat.inj this
 exfalso;refine eb ?_;rw[he,wW,if_pos (by omega),if_pos (by exact⟨by omega,by omega⟩)]
end Go.bt
end
section
open Go Go.Am Go.Proofs
attribute [local irreducible] Am.bp.holds bH fw bP ek
namespace Go.bt
variable {mx:Int}
open Classical
theorem uQ {rows sp ta brows SM bsp':List (List PV)} {l:List aH} {boxes:List bw} {call:Int} {port:List UInt8} (eS:rows=l.map aH.enc) (jb:brows=boxes.map bw.enc) (hl:l.length<2^32) (lO:boxes.length<2^32):
  pC mx 23 [.agg [.int .i64 call,.str port,.sl brows SM,.sl rows sp],.agg [.int .i64 call,.str port,.sl brows bsp',.sl rows ta]] (.bool true):=by
 refine pZ Jc ?_
 iterate 129 intro _
 intro aB aU aV bC bA ag aC;refine gK ?_;refine MP ?_;refine aY ?_;refine MP ?_;refine aY ?_;refine ao (by cbv) (zI jb lO) (fun h=>by first|rfl|cases h) ?_;refine gK ?_;refine ao (by cbv) (lF eS hl) (fun h=>by first|rfl|cases h) ?_;refine gK ?_;refine aX ?_;rfl
end Go.bt
end
