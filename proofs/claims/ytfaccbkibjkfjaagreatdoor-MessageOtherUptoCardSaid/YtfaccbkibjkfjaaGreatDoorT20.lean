import Derived.Shelf.RegionOpenPlain
import Derived.WalkKit
import Derived.Deep.LoopGhost
import Derived.Lib.Walk
import Derived.Lib.SliceRun
import Derived.Test.YtfaccbkibjkfjaaGreatDoorT11
import Derived.Test.YtfaccbkibjkfjaaGreatDoorT18
import Derived.Test.YtfaccbkibjkfjaaGreatDoorT10
import Derived.Test.YtfaccbkibjkfjaaGreatDoorT17
import Derived.Test.YtfaccbkibjkfjaaGreatDoorT12
import Derived.Test.YtfaccbkibjkfjaaGreatDoorT08
import Derived.Test.YtfaccbkibjkfjaaGreatDoorT16
import Derived.Test.YtfaccbkibjkfjaaGreatDoorT19
set_option linter.all false
set_option maxRecDepth 100000
set_option maxHeartbeats 1000000
section
open Go Go.Am Go.Proofs
attribute [local irreducible] Am.bp.holds bH fw bP ek
namespace Go.bt
variable {mx:Int}
open Classical
theorem Hq {x:aH} {cs:List PV} {n:Int} {r:Bool} (hcs:cs=x.enc) (hr:r=decide (x.box=n)):pC mx 145 [.agg cs,.int .i64 n] (.bool r):=by
 subst hcs;obtain⟨box,rk,tier,half⟩:=x;show pC mx 145 [.agg [.int .i64 box,.int .i64 rk,.int .i64 tier,.int .u8 half],.int .i64 n] (.bool r);refine pZ N9 ?_
 iterate 129 intro _
 intro zI aU aV bC bA ag aC;refine gK ?_;refine bp.af (fun h=>?_) (fun h=>?_)
 ·rw[←bA]at h;simp at h;refine aY ?_;refine aX ?_;exact tr hr h
 ·rw[←bA]at h;simp at h;refine aY ?_;refine aX ?_;exact fa hr h
theorem Hr {rows sp:List (List PV)} {l:List bw} {k:Int} {I:List (List PV)} (hr:rows=l.map bw.enc) (hl:l.length<2^32) (hI:I=ints (uc l k l.length)):pC mx 144 [.sl rows sp,.int .i64 k] (.sl I []):=by
 have hlen:rows.length=l.length:=by simp[hr]
 refine pZ N8 ?_
 iterate 116 intro _
 intro dF bJ bX _ _ _ aw _ mz aI aQ aJ aP zI aU aV bC bA ag aC;refine gK ?_;refine bQ [0,1,5,8,9,10] (nn [5,5]) (fun v σ_=>σ_.put (some 10) (.pv (.int .i64 (Int.ofNat v)))|>.aq 5 (.rows 1 (ints (uc l k v)) 0)) (l.length) (fun k=>True) ?_;intro v hv hk
 try dsimp only
 generalize dA:ints (uc l k v)=cur;refine ej ?_;refine bp.af (fun hd=>?_) (fun hd=>?_)
 ·have aT:v<l.length:=by rw[←aC,←ag]at hd;simp at hd;omega
  obtain⟨gI,bj⟩:∃x,l[v]=x:=⟨_,rfl⟩
  have bG:aJ (Int.ofNat v) rows 9:=by rw[←aP,hr];exact aO (enc:=bw.enc) aT rfl
  obtain⟨⟨iN,fO,eZ,Ut,eG,eA,gi,jl,dI⟩,bW⟩:∃y,gI=y:=⟨_,rfl⟩;subst bW
  have aW:aI rows (Int.ofNat v)=[.int .i64 iN,.str fO,.int .u8 eZ,.bool Ut,.int .i64 eG,.int .i64 eA,.int .i64 gi,.int .u8 jl,.bool dI]:=by rw[←aQ,hr,aN (enc:=bw.enc) aT,bj];rfl
  have dJ:=Cz (k:=k) aT;rw[bj]at dJ;have hA:lG ⟨iN,fO,eZ,Ut,eG,eA,gi,jl,dI⟩ k↔eA≤k∧k<gi:=Iff.rfl;refine aY ?_;refine ae bG ?_;rw[aW];refine gK ?_
  repeat' (first|refine gH ?_|(refine iE (fun hc=>?_) (fun hc=>?_)<;>(try simp at hc)<;>(try(exfalso;omega))))
  ·refine ae ?_ ?_
   ·rw[←dF,←dA];have:=Aq (l:=l) (k:=k) (v:=v);simp;omega
   refine gK ?_;refine ta ⟨aT,trivial,?_⟩;rw[wS mz aw (v:=v) (by omega)]
   rw[show bJ cur [[.int .i64 iN]]=ints (uc l k (v+1)) by
    rw[←bX,←dA,dJ,qao (hA.2 (by omega))]
    simp[ints]]
   cbv
  all_goals
   refine ta ⟨aT,trivial,?_⟩;rw[wS mz aw (v:=v) (by omega)];rw[show cur=ints (uc l k (v+1)) by rw[←dA,dJ,qai (fun h=>by have:=hA.1 h;omega)]]
   cbv
 ·have aT:v=l.length:=by rw[←aC,←ag]at hd;simp at hd;omega
  refine aY ?_;refine wW rfl ?_;refine gK ?_;refine aX ?_;rw[hI,←dA,aT]
theorem Ht {rows sp I isp:List (List PV)} {l:List aH} {ids:List Int} {r:Bool} (hr:rows=l.map aH.enc) (hI:I=ints ids) (hl:l.length<2^32) (dD:r=decide (l.map (·.box)=ids)):pC mx 143 [.sl rows sp,.sl I isp,.gM 145 []] (.bool r):=by
 have hlen:rows.length=l.length:=by simp[hr]
 have abC:I.length=ids.length:=by simp[hI]
 refine pZ N7 ?_
 iterate 122 intro _
 intro aw _ mz aI aQ aJ aP zI aU aV bC bA ag aC;refine gK ?_;refine bp.af (fun h1=>?_) (fun h1=>?_)
 ·replace h1:=eE h1
  refine aY ?_;refine aX ?_;refine fa dD (fun h=>?_);have:=congrArg List.length h;simp at this;omega
 ·replace h1:=eE h1
  refine aY ?_
  have hll:l.length=ids.length:=by omega
  refine bQ [0,1,2,15,16,17] [] (fun v σ_=>σ_.put (some 17) (.pv (.int .i64 (Int.ofNat v)))) (l.length) (fun k=>(∀h:k<l.length,l[k].box=ids.getD k 0)) ?_;intro v hv hk;refine ej ?_;refine bp.af (fun hd=>?_) (fun hd=>?_)
  ·have aT:v<l.length:=by rw[←aC,←ag]at hd;simp at hd;omega
   obtain⟨gI,bj⟩:∃x,l[v]=x:=⟨_,rfl⟩
   have bG:aJ (Int.ofNat v) rows 4:=by rw[←aP,hr];exact aO (enc:=aH.enc) aT rfl
   obtain⟨⟨eH,⟨dO,du,fH⟩⟩,bW⟩:∃y,gI=y:=⟨_,rfl⟩;subst bW
   have aW:aI rows (Int.ofNat v)=[.int .i64 eH,.int .i64 dO,.int .i64 du,.int .u8 fH]:=by rw[←aQ,hr,aN (enc:=aH.enc) aT,bj];rfl
   obtain⟨n,hn⟩:∃n,n=ids.getD v 0:=⟨_,rfl⟩
   have Kz:aJ (Int.ofNat v) I 1:=by rw[←aP,hI];exact gW (by simp) (by simp;omega)
   have Em:aI I (Int.ofNat v)=[.int .i64 n]:=by rw[←aQ,hI,gv (by simp) (by simp;omega),hn];rfl
   refine aY ?_;refine ae bG ?_;rw[aW];refine gK ?_;refine ae Kz ?_;rw[Em];refine gK ?_;refine cU (by cbv) (Hq (x:=⟨eH,dO,du,fH⟩) rfl rfl) (fun h=>?_) (fun h=>?_)<;>simp only[qae,qad]at h
   ·refine gK ?_;refine ta ⟨aT,fun _=>by rw[bj,←hn];exact h,?_⟩;rw[wS mz aw (v:=v) (by omega)]
    cbv
   ·refine gK ?_;refine dS ?_;refine fa dD (fun h'=>h ?_);rw[hn,←h'];simp[qab,aT,bj]
  ·have aT:v=l.length:=by rw[←aC,←ag]at hd;simp at hd;omega
   refine aY ?_;refine wW rfl ?_;refine gK ?_;refine aX ?_;refine tr dD (qcq (by simpa using hll) (fun i h1 h2=>?_))
   have hi:i<l.length:=by simpa using h1
   have:=hk i (by omega) hi;simp only[qcf];rw[this];simp[qab,h2]
end Go.bt
end
section
open Go Go.Am Go.Proofs
attribute [local irreducible] Am.bp.holds bH fw bP ek
namespace Go.bt
variable {mx:Int}
open Classical
def tq (sl:List Stat) (k:Nat):Stat:=sl.getD k ⟨[],[]⟩
theorem mC {sl:List Stat} {i:Nat} (h:i<sl.length):tq sl i=sl[i]:=by simp[tq,qab,h]
def ng (cl:List aL) (vl:List bz) (boxes:List bw) (sl:List Stat) (k:Nat):Prop:=¬gC cl vl boxes (tq sl k).l
def sB (boxes:List bw) (sl:List Stat) (k:Nat):Prop:=(tq sl k).l.map (·.box)≠uc boxes (Int.ofNat k) boxes.length
def dq (cl:List aL) (vl:List bz) (boxes:List bw) (calls:Int) (sl:List Stat) (k e:Int):Prop:=
 (¬fo cl vl∧k=0∧e=2)∨(fo cl vl∧¬je boxes calls∧k=0∧e=230)∨(fo cl vl∧je boxes calls∧Int.ofNat sl.length≠calls∧k=0∧e=231)∨
 (fo cl vl∧je boxes calls∧Int.ofNat sl.length=calls∧∃r,eW (fun i=>ng cl vl boxes sl i∨sB boxes sl i) sl.length r∧((r= -1∧k=0∧e=0)∨∃v,r=Int.ofNat v∧k=r∧e=if ng cl vl boxes sl v then 232 else 233))
section
variable {cl:List aL} {vl:List bz} {boxes:List bw} {calls:Int} {sl:List Stat} {k e:Int}
theorem dq.ex (cl:List aL) (vl:List bz) (boxes:List bw) (calls:Int) (sl:List Stat):∃k e,dq cl vl boxes calls sl k e:=by
 by_cases h1:fo cl vl
 ·by_cases h2:je boxes calls
  ·by_cases h3:Int.ofNat sl.length=calls
   ·obtain⟨r,hr⟩:=eW.ex (fun i=>ng cl vl boxes sl i∨sB boxes sl i) sl.length;have ni:=hr
    rcases ni with⟨-,h⟩|⟨v,-,-,-,h⟩
    ·exact⟨0,0,.inr (.inr (.inr ⟨h1,h2,h3,r,hr,.inl ⟨h,rfl,rfl⟩⟩))⟩
    ·exact⟨r,_,.inr (.inr (.inr ⟨h1,h2,h3,r,hr,.inr ⟨v,h,rfl,rfl⟩⟩))⟩
   ·exact⟨0,231,.inr (.inr (.inl ⟨h1,h2,h3,rfl,rfl⟩))⟩
  ·exact⟨0,230,.inr (.inl ⟨h1,h2,rfl,rfl⟩)⟩
 ·exact⟨0,2,.inl ⟨h1,rfl,rfl⟩⟩
theorem dq.abE (h:dq cl vl boxes calls sl k e) (h1:¬fo cl vl):k=0∧e=2:=by
 rcases h with h|h|h|h
 ·exact h.2
 all_goals exact absurd h.1 h1
theorem dq.abF (h:dq cl vl boxes calls sl k e) (h1:fo cl vl) (h2:¬je boxes calls):k=0∧e=230:=by
 rcases h with h|h|h|h
 ·exact absurd h1 h.1
 ·exact h.2.2
 ·exact absurd h.2.1 h2
 ·exact absurd h.2.1 h2
theorem dq.count (h:dq cl vl boxes calls sl k e) (h1:fo cl vl) (h2:je boxes calls) (h3:Int.ofNat sl.length≠calls):k=0∧e=231:=by
 rcases h with h|h|h|h
 ·exact absurd h1 h.1
 ·exact absurd h2 h.2.1
 ·exact h.2.2.2
 ·exact absurd h.2.2.1 h3
theorem dq.bad (h:dq cl vl boxes calls sl k e) (h1:fo cl vl) (h2:je boxes calls) (h3:Int.ofNat sl.length=calls) {v:Nat} (hv:v<sl.length) (hb:ng cl vl boxes sl v∨sB boxes sl v) (hn:∀j,j<v→¬(ng cl vl boxes sl j∨sB boxes sl j)):k=Int.ofNat v∧e=if ng cl vl boxes sl v then 232 else 233:=by
 rcases h with h|h|h|h
 ·exact absurd h1 h.1
 ·exact absurd h2 h.2.1
 ·exact absurd h3 h.2.2.1
 ·obtain⟨-,-,-,r,hr,h⟩:=h;have:=hr.at hv hb hn
  rcases h with⟨h,-⟩|⟨u,hu,hk,he⟩
  ·rw[h]at this;have:(-1:Int)=(v:Int):=this;omega
  ·have huv:u=v:=by
    rw[hu]at this;have:(u:Int)=(v:Int):=this;omega
   subst huv;exact⟨by rw[hk,hu],he⟩
theorem dq.Hh (h:dq cl vl boxes calls sl k e) (h1:fo cl vl) (h2:je boxes calls) (h3:Int.ofNat sl.length=calls) (hn:∀j,j<sl.length→¬(ng cl vl boxes sl j∨sB boxes sl j)):k=0∧e=0:=by
 rcases h with h|h|h|h
 ·exact absurd h1 h.1
 ·exact absurd h2 h.2.1
 ·exact absurd h3 h.2.2.1
 ·obtain⟨-,-,-,r,hr,h⟩:=h;have:=hr.none hn
  rcases h with⟨h,hk,he⟩|⟨u,hu,hk,he⟩
  ·exact⟨hk,he⟩
  ·rw[hu]at this;have:(u:Int)= -1:=this;omega
theorem dq.zero (h:dq cl vl boxes calls sl k 0):fo cl vl∧je boxes calls∧Int.ofNat sl.length=calls∧∀j,j<sl.length→¬(ng cl vl boxes sl j∨sB boxes sl j):=by
 rcases h with h|h|h|h
 ·exact absurd h.2.2 (by omega)
 ·exact absurd h.2.2.2 (by omega)
 ·exact absurd h.2.2.2.2 (by omega)
 ·obtain⟨h1,h2,h3,r,hr,h⟩:=h;refine⟨h1,h2,h3,?_⟩
  rcases h with⟨h,hk,he⟩|⟨u,hu,hk,he⟩
  ·rcases hr with⟨h4,-⟩|⟨w,-,-,-,h4⟩
   ·exact h4
   ·rw[h]at h4;have:(-1:Int)=(w:Int):=h4;omega
  ·split at he<;>omega
end
theorem As {c csp vv vsp r rsp f fsp t tsp:List (List PV)} {l1 l2 l3 l4 m1 m2 m3 m4:Int} {srows ssp wrows wsp brows bsp:List (List PV)} {cl:List aL} {vl:List bz} {sl:List Stat} {boxes:List bw} {calls k e:Int} (jI:c=cl.map aL.enc) (pN:vv=vl.map bz.enc) (wU:cl.length<2^32) (Hn:vl.length<2^32) (CS:∀x∈cl,x.cq.length<2^32) (AE:∀x∈vl,x.rows.length<2^16)
  (hs:srows=sl.map Stat.enc) (oa:sl.length<2^32) (jb:brows=boxes.map bw.enc) (lO:boxes.length<2^32) (vf:∀b∈boxes,og b) (yb:∀x∈sl,x.l.length<2^32∧∀y∈x.l,kL y) (dD:dq cl vl boxes calls sl k e):
  pC mx 64 [.agg [.sl c csp,.sl vv vsp,.int .i64 l1,.int .i64 l2,.int .i64 l3,.int .i64 l4,.sl r rsp,.sl f fsp,.sl t tsp,.int .i64 m1,.int .i64 m2,.int .i64 m3,.int .i64 m4],.sl brows bsp,.int .i64 calls,.agg [.sl srows ssp,.sl wrows wsp]] (.eN [.int .i64 k,.int .i64 e]):=by
 have hlen:srows.length=sl.length:=by simp[hs]
 refine pZ UZ ?_
 iterate 122 intro _
 intro aw _ mz aI aQ aJ aP zI aU aV bC bA ag aC;refine gK ?_;refine cU (by cbv) (Aj jI pN wU Hn CS AE rfl) (fun h=>?_) (fun h=>?_)<;>simp only[qae,qad]at h
 ·have kN:=h;refine gK ?_;refine cU (by cbv) (Ky jb lO rfl) (fun h=>?_) (fun h=>?_)<;>simp only[qae,qad]at h
  ·have Sy:=h;refine gK ?_;refine bp.af (fun h3=>?_) (fun h3=>?_)
   ·replace h3:=eE h3
    refine aY ?_;refine aX ?_;obtain⟨rfl,rfl⟩:=dD.count kN Sy (by simp;omega);rfl
   ·replace h3:=eE h3
    have wI:Int.ofNat sl.length=calls:=by simp;omega
    refine aY ?_;refine bQ [1,2,4,7,28,29,30] (nn [4,4,2,7]) (fun v σ_=>σ_.put (some 30) (.pv (.int .i64 (Int.ofNat v)))) (sl.length) (fun k=>¬(ng cl vl boxes sl k∨sB boxes sl k)) ?_;intro v hv hk;refine ej ?_;refine bp.af (fun hd=>?_) (fun hd=>?_)
    ·have aT:v<sl.length:=by rw[←aC,←ag]at hd;simp at hd;omega
     obtain⟨gI,bj⟩:∃x,sl[v]=x:=⟨_,rfl⟩
     have bG:aJ (Int.ofNat v) srows 1:=by rw[←aP,hs];exact aO (enc:=Stat.enc) aT rfl
     obtain⟨⟨rp,wJ⟩,bW⟩:∃y,gI=y:=⟨_,rfl⟩;subst bW
     have aW:aI srows (Int.ofNat v)=[.sl (rp.map aH.enc) wJ]:=by rw[←aQ,hs,aN (enc:=Stat.enc) aT,bj];rfl
     obtain⟨p,hp⟩:∃p,p=rp.map aH.enc:=⟨_,rfl⟩;rw[←hp]at aW;have xR:=yb _ (qaf aT);rw[bj]at xR
     have CR:(tq sl v).l=rp:=by rw[mC aT,bj]
     have bad:=fun hb=>dD.bad kN Sy wI aT hb hk
     refine aY ?_;refine ae bG ?_;rw[aW];refine gK ?_;refine cU (by cbv) (Pb (fun hq=>Aj jI pN wU Hn CS AE hq) jI wU hp jb xR.1 lO vf xR.2 rfl) (fun h=>?_) (fun h=>?_)<;>simp only[qae,qad]at h
     ·have h1:¬ng cl vl boxes sl v:=fun h'=>h' (by rw[CR];exact h)
      refine gK ?_;obtain⟨I,hI⟩:∃I,I=ints (uc boxes (Int.ofNat v) boxes.length):=⟨_,rfl⟩;refine ao (by cbv) (Hr jb lO hI) (fun h=>by first|rfl|cases h) ?_;refine gK ?_;refine cU (by cbv) (Ht hp hI xR.1 rfl) (fun h=>?_) (fun h=>?_)<;>simp only[qae,qad]at h
      ·refine gK ?_;refine ta ⟨aT,?_,?_⟩
       ·rintro(h'|h')
        ·exact h1 h'
        ·exact h' (by rw[CR];exact h)
       rw[wS mz aw (v:=v) (by omega)]
       cbv
      ·refine gK ?_;refine dS ?_;obtain⟨rfl,rfl⟩:=bad (.inr (by unfold sB;rw[CR];exact h));rw[qai h1]
     ·refine gK ?_;refine dS ?_
      have h1:ng cl vl boxes sl v:=by unfold ng;rw[CR];exact h
      obtain⟨rfl,rfl⟩:=bad (.inl h1);rw[qao h1]
    ·have aT:v=sl.length:=by rw[←aC,←ag]at hd;simp at hd;omega
     refine aY ?_;refine wW rfl ?_;refine gK ?_;refine aX ?_;obtain⟨rfl,rfl⟩:=dD.Hh kN Sy wI (fun j hj=>hk j (by omega));rfl
  ·refine gK ?_;refine aX ?_;obtain⟨rfl,rfl⟩:=dD.abF kN h;rfl
 ·refine gK ?_;refine aX ?_;obtain⟨rfl,rfl⟩:=dD.abE h;rfl
end Go.bt
end
section
open Go Go.Am Go.Proofs
attribute [local irreducible] Am.bp.holds bH fw bP ek
namespace Go.bt
variable {mx:Int}
open Classical
theorem aft {l:List aH}:fS 4 (l.map aH.enc):=by
 intro r hr;obtain⟨x,-,rfl⟩:=qaw.1 hr;obtain⟨b,c,t,h⟩:=x;exact⟨rfl,by simp[aH.enc]⟩
theorem agU {rows sp:List (List PV)} {l:List aH} (mn:rows=l.map aH.enc) (h:rows++sp≠[]) (hl:l.length<2^32):oQ Tryz.prog (GG mx) 65 [.sl rows sp] [(4,rows)] (.c8 0 0):=by
 have hlen:rows.length=l.length:=by simp[mn]
 refine BO (rs:=[.c8 0 0]) mixed aif (leT rfl) (az (F:=fun A=>bH (CC Tryz.prog (GG mx)) A (Hf Tryz.prog (GG mx)) [.code ai0] (ri [.tmp 2] [(4,rows)] [.c8 0 0]) .normal (Am.start 8 [.sl rows sp])) ?_)
 iterate 105 intro _
 intro yR
 iterate 10 intro _
 intro dF bJ bX
 iterate 10 intro _
 intro zI aU aV bC bA ag aC;refine gK ?_;refine ae (by rw[←yR,←bX];simpa using h) ?_;refine gK ?_;refine ae (by rw[←dF];exact⟨by simp;omega,by simp;omega,by rw[mn];exact aft,by simp⟩) ?_;refine gK ?_
 have hr:bJ [] rows=rows:=by rw[←bX];simp
 rw[hr];refine o6 (fg (vs:=[.c8 5 1]) (t:=[]) [some 5] (by cbv) rfl (by cbv) rfl rfl rfl)
def kal (kl:List cT) (v:Nat):cT:=kl.getD v ⟨[],0,0⟩
theorem agV {kl:List cT} {i:Nat} (h:i<kl.length):kal kl i=kl[i]:=by simp[kal,qab,h]
noncomputable def abb (l:List bw) (k:Int) (v:Nat):List bw:=(l.take v).filter (fun b=>decide (lG b k))
theorem adJ {l:List bw} {k:Int} {v:Nat} (h:v<l.length):abb l k (v+1)=if lG l[v] k then abb l k v++[l[v]]else abb l k v:=by
 unfold abb;rw[qan h,qb4]
 by_cases hp:lG l[v] k<;>simp[hp]
theorem aei {l:List bw} {k:Int} {v:Nat}:(abb l k v).length≤l.length:=by
 unfold abb;exact qbr (qbB _ _) (by simp;omega)
end Go.bt
end
section
open Go Go.Am Go.Proofs Go.Shelf Go.RowKit Go.Lib
namespace Go.bt
variable {mx:Int}
theorem underlying34:Tryz.prog.underlying 34=some (.slice 63):=by kernel_rfl
theorem agC (n c:Nat) (w:World):Calls Tryz.prog 65 #[.slice none n c] w fun e w'=>e=.returned (.slice none 0 0)∧w'=w:=by
 have q22:∀(w:World) (a:Option Addr) (n c n' c':Nat),(binOp .eql 34 (.slice a n c) (.slice none n' c')).run Tryz.prog w=.ok (.bool a.isNone) w:=fun w a n c n' c'=>Lib.run_eql_slice_nil w _ _ a n c n' c' underlying34
 have mixed:Tryz.prog.follows .mixedOrders=true:=by kernel_rfl
 go_enter Tryz.func65,Tryz.ntmps65
 go_wp2
 go_ret
 exact⟨rfl,rfl⟩
theorem aip:∃z,Tryz.t63.zero=some z∧z.cells.size=4:=⟨_,rfl,by kernel_rfl⟩
set_option maxHeartbeats 2000000 in
theorem afu (ad:Addr) (c:Nat) (w:World):Calls Tryz.prog 65 #[.slice (some ad) 0 c] w fun e w'=>∃v',e=.returned v'∧w'.ownsRow w.heap.size 63 4 v' 0 []∧Below w.heap.size w w':=by
 have q22:∀(w:World) (a:Option Addr) (n c n' c':Nat),(binOp .eql 34 (.slice a n c) (.slice none n' c')).run Tryz.prog w=.ok (.bool a.isNone) w:=fun w a n c n' c'=>Lib.run_eql_slice_nil w _ _ a n c n' c' underlying34
 have u22:∀w,Sem.run Tryz.prog (underlying 34) w=.ok (TypeDesc.slice 63) w:=run_underlying underlying34
 have mixed:Tryz.prog.follows .mixedOrders=true:=by kernel_rfl
 have hi:Tryz.prog.info? 63=some Tryz.t63:=rfl;obtain⟨z,hz0,hzs⟩:=aip;have hz1:Tryz.t63.size=4:=rfl;have Qz:Tryz.t63.bytes=32:=rfl
 have z23:∀w,(Go.sizeOf 63).run Tryz.prog w=.ok 4 w:=fun w=>by simp[Go.sizeOf];rfl
 go_enter Tryz.func65,Tryz.ntmps65
 go_wp2_with (at_builtin;refine wpList_append_own _ rfl _ _ 34 rfl w.heap.size 63 Tryz.t63 z 4 32 underlying34 hi hz0 hz1 Qz hzs (by decide) _ _ _ rfl (World.ownsRow_made w #[] 0 (qak _) (qcK _) (by simp)) ad 0 c [] rfl ?qc1 ?qc2 ?qc3 ?qc4 ?qc5 ?qc6 ?_)
 case qc1=>simp
 case qc2=>intro j u hj;simp at hj
 case qc3=>intro u hu;cases hu
 case qc4=>simp
 case qc5=>simp
 case qc6=>simp
 intro v' w1 Da ai4 Df
 go_wp2
 go_ret
 refine⟨v',rfl,by simpa using Da,?_⟩;exact((Below.refl _ w).alloc (qak _) _).grown ai4 (by simp) (by intro k hk;simp[Value.ownBlock]at hk;omega)
theorem agD:pC mx 65 [.sl [] []] (.sl [] []):=by
 intro S w vs hS hG eQ;simp only[aM]at eQ;obtain⟨v,r,rfl,hv,rfl⟩:=eQ;simp only[aD]at hv;obtain⟨a,cap,rfl,-,-⟩:=hv
 have bN:(callFunc 65 #[.slice a 0 cap]).run Tryz.prog w=.ok (.enter 65 #[.slice a 0 cap]) w:=by kernel_rfl
 unfold dN;have e:([Value.slice a ([]:List (List PV)).length cap]:List Value).toArray=#[.slice a 0 cap]:=rfl;rw[e,bN];simp only
 cases a with
 |none=>
  refine(agC 0 cap w).mono fun e w' h=>?_
  obtain⟨rfl,rfl⟩:=h;exact⟨_,rfl,Below.refl _ _,by simp only[aD];exact⟨none,0,rfl,qcK _,.inl ⟨trivial,trivial⟩⟩⟩
 |some b=>
  refine(afu b cap w).mono fun e w' h=>?_
  obtain⟨v',rfl,Da,T7⟩:=h;refine⟨v',rfl,T7,?_⟩;simp only[aD]
  rcases Da.2 with⟨rfl,-⟩|⟨g,c2,cur,rfl,-⟩
  ·exact⟨none,0,rfl,qcK _,.inl ⟨trivial,trivial⟩⟩
  ·exact⟨_,c2,rfl,qcK _,.inl ⟨trivial,trivial⟩⟩
end Go.bt
end
section
open Go Go.Am Go.Proofs
theorem Go.Am.aej {C:CT} {A:Ar} {I:IC} {eF:List RD} {res:PV} {s s':St} (hf:Fg s s') (h:fN eF s'=some res):(bp.fin .ret s).holds C A I (E1 eF res):=⟨s',hf,h⟩
attribute [local irreducible] Am.bp.holds bH fw bP ek
namespace Go.bt
variable {mx:Int}
open Classical
theorem agl {c csp vv vsp r rsp f fsp t tsp:List (List PV)} {l1 l2 l3 l4 m1 m2 m3 m4:Int} {gy ksp srows ssp wrows wsp brows bsp:List (List PV)} {cl:List aL} {vl:List bz} {sl:List Stat} {kl:List cT} {boxes:List bw} {k k1 i2 k3 N:Int} {res:PV} (jI:c=cl.map aL.enc) (pN:vv=vl.map bz.enc) (wU:cl.length<2^32) (Hn:vl.length<2^32) (CS:∀x∈cl,x.cq.length<2^32) (AE:∀x∈vl,x.rows.length<2^16)
  (hN:N=Int.ofNat kl.length) (wO:gy=kl.map cT.enc) (AB:kl.length<2^32) (hs:srows=sl.map Stat.enc) (oa:sl.length<2^32) (jb:brows=boxes.map bw.enc) (lO:boxes.length<2^32) (vf:∀b∈boxes,og b) (yb:∀x∈sl,x.l.length<2^32∧∀y∈x.l,kL y)
  (mG:∀x∈sl,x.sp=[]) (h1:fh kl k1 0) (h2:ib boxes i2 0) (h3:dq cl vl boxes N sl k3 0) (hk:0≤k∧k<N) (dD:res=.agg [.int .i64 k,.str (kal kl k.toNat).port,.sl ((abb boxes k boxes.length).map bw.enc) [],.sl ((tq sl k.toNat).l.map aH.enc) []]):
  pC mx 21 [.agg [.sl c csp,.sl vv vsp,.int .i64 l1,.int .i64 l2,.int .i64 l3,.int .i64 l4,.sl r rsp,.sl f fsp,.sl t tsp,.int .i64 m1,.int .i64 m2,.int .i64 m3,.int .i64 m4],.sl gy ksp,.sl brows bsp,.agg [.sl srows ssp,.sl wrows wsp],.int .i64 k] (.eN [res,.int .i64 0]):=by
 have Sz:gy.length=kl.length:=by simp[wO]
 have KD:brows.length=boxes.length:=by simp[jb]
 have SA:srows.length=sl.length:=by simp[hs]
 refine IM mixed U2 (leT rfl) (az (F:=fun A=>bH (CC Tryz.prog (GG mx)) A (Hf Tryz.prog (GG mx)) [.code aaA] (E1 [.cell 10 (some 4),.tmp 11] (.eN [res,.int .i64 0])) .normal (Am.start 89 [.agg [.sl c csp,.sl vv vsp,.int .i64 l1,.int .i64 l2,.int .i64 l3,.int .i64 l4,.sl r rsp,.sl f fsp,.sl t tsp,.int .i64 m1,.int .i64 m2,.int .i64 m3,.int .i64 m4],.sl gy ksp,.sl brows bsp,.agg [.sl srows ssp,.sl wrows wsp],.int .i64 k])) ?_)
 iterate 105 intro _
 intro yR
 iterate 9 intro _
 intro l8 dF bJ bX _ _ _ aw _ mz aI aQ aJ aP zI aU aV bC bA ag aC;refine gK ?_;refine ao (by cbv) (Kx wO AB h1) (fun h=>by first|rfl|cases h) ?_;refine gK ?_;refine ao (by cbv) (Ka jb h2) (fun h=>by first|rfl|cases h) ?_;refine gK ?_;have hN':N=(kl.length:Int):=hN
 have mn:l8 gy=N:=by rw[←ag];simp[wO,hN]
 refine Pk ?_;refine aY ?_;refine Pk ?_;refine aY ?_;rw[mn];refine ao (by cbv) (As jI pN wU Hn CS AE hs oa jb lO vf yb h3) (fun h=>by first|rfl|cases h) ?_;refine gK ?_
 repeat' (first|refine gH ?_|(refine iE (fun hc=>?_) (fun hc=>?_)<;>(try simp at hc)<;>(try(exfalso;omega))))
 have hz:=h3.zero
 have hsk:sl.length=kl.length:=by have:=hz.2.2.1;rw[hN]at this;exact Int.ofNat.inj this
 obtain⟨v,rj⟩:∃v,k=Int.ofNat v:=⟨k.toNat,by simp;omega⟩
 have Ma:v<kl.length:=by have hkv':k=(v:Int):=rj;omega
 have gh:v<sl.length:=by omega
 obtain⟨gI,bj⟩:∃x,kl[v]=x:=⟨_,rfl⟩
 have bG:aJ (Int.ofNat v) gy 3:=by rw[←aP,wO];exact aO (enc:=cT.enc) Ma rfl
 obtain⟨⟨jd,Ao,Ap⟩,bW⟩:∃y,gI=y:=⟨_,rfl⟩;subst bW
 have aW:aI gy (Int.ofNat v)=[.str jd,.int .i64 Ao,.int .i64 Ap]:=by rw[←aQ,wO,aN (enc:=cT.enc) Ma,bj];rfl
 obtain⟨Ac,fv⟩:∃x,sl[v]=x:=⟨_,rfl⟩
 have gw:aJ (Int.ofNat v) srows 1:=by rw[←aP,hs];exact aO (enc:=Stat.enc) gh rfl
 obtain⟨⟨l_b,ai5⟩,jF⟩:∃y,Ac=y:=⟨_,rfl⟩;subst jF
 have dV:aI srows (Int.ofNat v)=[.sl (l_b.map aH.enc) ai5]:=by rw[←aQ,hs,aN (enc:=Stat.enc) gh,fv];rfl
 have Mz:(kal kl v).port=jd:=by rw[agV Ma,bj]
 have hsl2:(tq sl v).l=l_b:=by rw[mC gh,fv]
 have hsp2:ai5=[]:=by have:=mG _ (qaf gh);rw[fv]at this;exact this
 have ai6:=yb _ (qaf gh);rw[fv]at ai6;obtain⟨q,hq⟩:∃q,q=l_b.map aH.enc:=⟨_,rfl⟩;rw[←hq]at dV
 have hkv2:k.toNat=v:=by rw[rj];rfl
 rw[hkv2,Mz,hsl2,←hq]at dD;rw[←rj]at bG aW gw dV;rw[hsp2]at dV;refine ae bG ?_;rw[aW];refine gK ?_;refine ae gw ?_;rw[dV];refine gK ?_
 by_cases hqe:q=[]
 ·rw[hqe];refine bF (by cbv) agD (fun h=>by first|rfl|cases h) ?_;refine gK ?_;rw[hqe]at dD;refine jJ (fun v_ σ_=>if abb boxes k v_=[]then((σ_.tidy [4,10,18,72,73,74] (nn [10,10,7,18,66,85])).put (some 74) (.pv (.int .i64 (Int.ofNat v_)))).aq 18 (.cells [.pv (.int .i64 k),.pv (.str jd),.full [],.pv (.sl [] [])])else((((σ_.tidy [4,10,18,72,73,74] (nn [10,10,7,18,66,85])).put (some 74) (.pv (.int .i64 (Int.ofNat v_)))).aq 18 (.cells [.pv (.int .i64 k),.pv (.str jd),.c8 85 0,.pv (.sl [] [])])).aq 85 (.rows 9 ((abb boxes k v_).map bw.enc) 0))) boxes.length (fun _=>True) (by rw[qao (show abb boxes k 0=[] from rfl)];exact Fg.ca [4,10,18,72,73,74] (nn [10,10,7,18,66,85]) rfl (by cbv)) ?_
  intro u hu hku
  by_cases xd:abb boxes k u=[]
  ·rw[qao xd];refine ej ?_;refine bp.af (fun hd=>?_) (fun hd=>?_)
   ·have qd:u<boxes.length:=by rw[←aC,←ag]at hd;simp at hd;omega
    obtain⟨x_d,acq⟩:∃x,boxes[u]=x:=⟨_,rfl⟩
    have acX:aJ (Int.ofNat u) brows 9:=by rw[←aP,jb];exact aO (enc:=bw.enc) qd rfl
    obtain⟨⟨acI,abV,Zw,aaR,Us,aaS,abW,abX,N2⟩,adg⟩:∃y,x_d=y:=⟨_,rfl⟩;subst adg
    have acr:aI brows (Int.ofNat u)=[.int .i64 acI,.str abV,.int .u8 Zw,.bool aaR,.int .i64 Us,.int .i64 aaS,.int .i64 abW,.int .u8 abX,.bool N2]:=by rw[←aQ,jb,aN (enc:=bw.enc) qd,acq];rfl
    have dJ:=adJ (k:=k) qd;rw[xd,acq,qbi]at dJ;refine aY ?_;refine ae acX ?_;rw[acr];refine gK ?_;refine cU (by cbv) (acW (x:=⟨acI,abV,Zw,aaR,Us,aaS,abW,abX,N2⟩) rfl rfl) (fun h=>?_) (fun h=>?_)<;>simp only[qae,qad]at h
    ·rw[qao h]at dJ;refine gK ?_;refine ae (by rw[←dF,←yR];simp) ?_;refine gK ?_;refine ta ⟨qd,trivial,?_⟩;rw[qai (by rw[dJ];simp)];rw[wS mz aw (v:=u) (by omega)];rw[dJ];rw[show bJ [] [[.int .i64 acI,.str abV,.int .u8 Zw,.bool aaR,.int .i64 Us,.int .i64 aaS,.int .i64 abW,.int .u8 abX,.bool N2]]=[⟨acI,abV,Zw,aaR,Us,aaS,abW,abX,N2⟩].map bw.enc by rw[←bX];rfl];obtain⟨z,hz⟩:∃z,z=[(⟨acI,abV,Zw,aaR,Us,aaS,abW,abX,N2⟩:bw)].map bw.enc:=⟨_,rfl⟩
     rw[←hz];exact Fg.ca [4,10,18,72,73,74] (nn [10,10,7,18,66,85]) rfl (by cbv)
    ·rw[qai h]at dJ;refine gK ?_;refine ta ⟨qd,trivial,?_⟩;rw[qao dJ];rw[wS mz aw (v:=u) (by omega)];exact Fg.ca [4,10,18,72,73,74] (nn [10,10,7,18,66,85]) rfl (by cbv)
   ·have qd:u=boxes.length:=by rw[←aC,←ag]at hd;simp at hd;omega
    refine aY ?_;refine wW rfl ?_;refine gK ?_;subst qd;rw[xd,qaF]at dD;rw[dD];exact aej (Fg.refl _) (by cbv)
  ·rw[qai xd];obtain⟨z,hz⟩:∃z,z=(abb boxes k u).map bw.enc:=⟨_,rfl⟩
   have GI:z.length≤boxes.length:=by rw[hz,qap];exact aei
   have hza:aK 9 z:=by
    rw[hz];intro r hr;obtain⟨x,-,rfl⟩:=qaw.1 hr;rfl
   rw[←hz];refine ej ?_;refine bp.af (fun hd=>?_) (fun hd=>?_)
   ·have qd:u<boxes.length:=by rw[←aC,←ag]at hd;simp at hd;omega
    obtain⟨x_d,acq⟩:∃x,boxes[u]=x:=⟨_,rfl⟩
    have acX:aJ (Int.ofNat u) brows 9:=by rw[←aP,jb];exact aO (enc:=bw.enc) qd rfl
    obtain⟨⟨acI,abV,Zw,aaR,Us,aaS,abW,abX,N2⟩,adg⟩:∃y,x_d=y:=⟨_,rfl⟩;subst adg
    have acr:aI brows (Int.ofNat u)=[.int .i64 acI,.str abV,.int .u8 Zw,.bool aaR,.int .i64 Us,.int .i64 aaS,.int .i64 abW,.int .u8 abX,.bool N2]:=by rw[←aQ,jb,aN (enc:=bw.enc) qd,acq];rfl
    have dJ:=adJ (k:=k) qd;rw[acq]at dJ;refine aY ?_;refine ae acX ?_;rw[acr];refine gK ?_;refine cU (by cbv) (acW (x:=⟨acI,abV,Zw,aaR,Us,aaS,abW,abX,N2⟩) rfl rfl) (fun h=>?_) (fun h=>?_)<;>simp only[qae,qad]at h
    ·rw[qao h]at dJ;refine gK ?_;refine ae (by rw[←dF];simp[hza];omega) ?_;refine gK ?_;refine ta ⟨qd,trivial,?_⟩;rw[qai (by rw[dJ];simp)];rw[wS mz aw (v:=u) (by omega)];rw[dJ];rw[show bJ z [[.int .i64 acI,.str abV,.int .u8 Zw,.bool aaR,.int .i64 Us,.int .i64 aaS,.int .i64 abW,.int .u8 abX,.bool N2]]=(abb boxes k u++[(⟨acI,abV,Zw,aaR,Us,aaS,abW,abX,N2⟩:bw)]).map bw.enc by rw[←bX,hz];simp;rfl]
     obtain⟨z2,Qz⟩:∃z2,z2=(abb boxes k u++[(⟨acI,abV,Zw,aaR,Us,aaS,abW,abX,N2⟩:bw)]).map bw.enc:=⟨_,rfl⟩;rw[←Qz];exact Fg.ca [4,10,18,72,73,74] (nn [10,10,7,18,66,85]) rfl (by cbv)
    ·rw[qai h]at dJ;refine gK ?_;refine ta ⟨qd,trivial,?_⟩;rw[dJ,qai xd];rw[wS mz aw (v:=u) (by omega)];rw[←hz];exact Fg.ca [4,10,18,72,73,74] (nn [10,10,7,18,66,85]) rfl (by cbv)
   ·have qd:u=boxes.length:=by rw[←aC,←ag]at hd;simp at hd;omega
    refine aY ?_;refine wW rfl ?_;refine gK ?_;subst qd;rw[←hz]at dD;rw[dD];exact aej (Fg.sC (id:=85) rfl rfl) (by cbv)
 ·refine afr (by cbv) (by cbv) (agU hq (by simp[hqe]) ai6.1) (by cbv) (qaH (by cbv)) ?_;refine gK ?_;refine jJ (fun v_ σ_=>if abb boxes k v_=[]then((σ_.tidy [4,10,18,72,73,74] (nn [10,10,7,18,66,85])).put (some 74) (.pv (.int .i64 (Int.ofNat v_)))).aq 18 (.cells [.pv (.int .i64 k),.pv (.str jd),.full [],.pv (.sl q [])])else((((σ_.tidy [4,10,18,72,73,74] (nn [10,10,7,18,66,85])).put (some 74) (.pv (.int .i64 (Int.ofNat v_)))).aq 18 (.cells [.pv (.int .i64 k),.pv (.str jd),.c8 85 0,.pv (.sl q [])])).aq 85 (.rows 9 ((abb boxes k v_).map bw.enc) 0))) boxes.length (fun _=>True) (by rw[qao (show abb boxes k 0=[] from rfl)];exact Fg.trans (Fg.sC (id:=70) rfl rfl) (Fg.ca [4,10,18,72,73,74] (nn [10,10,7,18,66,85]) rfl (by cbv))) ?_
  intro u hu hku
  by_cases xd:abb boxes k u=[]
  ·rw[qao xd];refine ej ?_;refine bp.af (fun hd=>?_) (fun hd=>?_)
   ·have qd:u<boxes.length:=by rw[←aC,←ag]at hd;simp at hd;omega
    obtain⟨x_d,acq⟩:∃x,boxes[u]=x:=⟨_,rfl⟩
    have acX:aJ (Int.ofNat u) brows 9:=by rw[←aP,jb];exact aO (enc:=bw.enc) qd rfl
    obtain⟨⟨acI,abV,Zw,aaR,Us,aaS,abW,abX,N2⟩,adg⟩:∃y,x_d=y:=⟨_,rfl⟩;subst adg
    have acr:aI brows (Int.ofNat u)=[.int .i64 acI,.str abV,.int .u8 Zw,.bool aaR,.int .i64 Us,.int .i64 aaS,.int .i64 abW,.int .u8 abX,.bool N2]:=by rw[←aQ,jb,aN (enc:=bw.enc) qd,acq];rfl
    have dJ:=adJ (k:=k) qd;rw[xd,acq,qbi]at dJ;refine aY ?_;refine ae acX ?_;rw[acr];refine gK ?_;refine cU (by cbv) (acW (x:=⟨acI,abV,Zw,aaR,Us,aaS,abW,abX,N2⟩) rfl rfl) (fun h=>?_) (fun h=>?_)<;>simp only[qae,qad]at h
    ·rw[qao h]at dJ;refine gK ?_;refine ae (by rw[←dF,←yR];simp) ?_;refine gK ?_;refine ta ⟨qd,trivial,?_⟩;rw[qai (by rw[dJ];simp)];rw[wS mz aw (v:=u) (by omega)];rw[dJ];rw[show bJ [] [[.int .i64 acI,.str abV,.int .u8 Zw,.bool aaR,.int .i64 Us,.int .i64 aaS,.int .i64 abW,.int .u8 abX,.bool N2]]=[⟨acI,abV,Zw,aaR,Us,aaS,abW,abX,N2⟩].map bw.enc by rw[←bX];rfl];obtain⟨z,hz⟩:∃z,z=[(⟨acI,abV,Zw,aaR,Us,aaS,abW,abX,N2⟩:bw)].map bw.enc:=⟨_,rfl⟩
     rw[←hz];exact Fg.ca [4,10,18,72,73,74] (nn [10,10,7,18,66,85]) rfl (by cbv)
    ·rw[qai h]at dJ;refine gK ?_;refine ta ⟨qd,trivial,?_⟩;rw[qao dJ];rw[wS mz aw (v:=u) (by omega)];exact Fg.ca [4,10,18,72,73,74] (nn [10,10,7,18,66,85]) rfl (by cbv)
   ·have qd:u=boxes.length:=by rw[←aC,←ag]at hd;simp at hd;omega
    refine aY ?_;refine wW rfl ?_;refine gK ?_;subst qd;rw[xd,qaF]at dD;rw[dD];exact aej (Fg.refl _) (by cbv)
  ·rw[qai xd];obtain⟨z,hz⟩:∃z,z=(abb boxes k u).map bw.enc:=⟨_,rfl⟩
   have GI:z.length≤boxes.length:=by rw[hz,qap];exact aei
   have hza:aK 9 z:=by
    rw[hz];intro r hr;obtain⟨x,-,rfl⟩:=qaw.1 hr;rfl
   rw[←hz];refine ej ?_;refine bp.af (fun hd=>?_) (fun hd=>?_)
   ·have qd:u<boxes.length:=by rw[←aC,←ag]at hd;simp at hd;omega
    obtain⟨x_d,acq⟩:∃x,boxes[u]=x:=⟨_,rfl⟩
    have acX:aJ (Int.ofNat u) brows 9:=by rw[←aP,jb];exact aO (enc:=bw.enc) qd rfl
    obtain⟨⟨acI,abV,Zw,aaR,Us,aaS,abW,abX,N2⟩,adg⟩:∃y,x_d=y:=⟨_,rfl⟩;subst adg
    have acr:aI brows (Int.ofNat u)=[.int .i64 acI,.str abV,.int .u8 Zw,.bool aaR,.int .i64 Us,.int .i64 aaS,.int .i64 abW,.int .u8 abX,.bool N2]:=by rw[←aQ,jb,aN (enc:=bw.enc) qd,acq];rfl
    have dJ:=adJ (k:=k) qd;rw[acq]at dJ;refine aY ?_;refine ae acX ?_;rw[acr];refine gK ?_;refine cU (by cbv) (acW (x:=⟨acI,abV,Zw,aaR,Us,aaS,abW,abX,N2⟩) rfl rfl) (fun h=>?_) (fun h=>?_)<;>simp only[qae,qad]at h
    ·rw[qao h]at dJ;refine gK ?_;refine ae (by rw[←dF];simp[hza];omega) ?_;refine gK ?_;refine ta ⟨qd,trivial,?_⟩;rw[qai (by rw[dJ];simp)];rw[wS mz aw (v:=u) (by omega)];rw[dJ];rw[show bJ z [[.int .i64 acI,.str abV,.int .u8 Zw,.bool aaR,.int .i64 Us,.int .i64 aaS,.int .i64 abW,.int .u8 abX,.bool N2]]=(abb boxes k u++[(⟨acI,abV,Zw,aaR,Us,aaS,abW,abX,N2⟩:bw)]).map bw.enc by rw[←bX,hz];simp;rfl]
     obtain⟨z2,Qz⟩:∃z2,z2=(abb boxes k u++[(⟨acI,abV,Zw,aaR,Us,aaS,abW,abX,N2⟩:bw)]).map bw.enc:=⟨_,rfl⟩;rw[←Qz];exact Fg.ca [4,10,18,72,73,74] (nn [10,10,7,18,66,85]) rfl (by cbv)
    ·rw[qai h]at dJ;refine gK ?_;refine ta ⟨qd,trivial,?_⟩;rw[dJ,qai xd];rw[wS mz aw (v:=u) (by omega)];rw[←hz];exact Fg.ca [4,10,18,72,73,74] (nn [10,10,7,18,66,85]) rfl (by cbv)
   ·have qd:u=boxes.length:=by rw[←aC,←ag]at hd;simp at hd;omega
    refine aY ?_;refine wW rfl ?_;refine gK ?_;subst qd;rw[←hz]at dD;rw[dD];exact aej (Fg.sC (id:=85) rfl rfl) (by cbv)
end Go.bt
end
