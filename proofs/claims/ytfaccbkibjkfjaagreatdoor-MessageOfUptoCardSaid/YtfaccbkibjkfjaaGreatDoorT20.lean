import Derived.Test.YtfaccbkibjkfjaaGreatDoorT13
import Derived.Test.YtfaccbkibjkfjaaGreatDoorT19
import Derived.Test.YtfaccbkibjkfjaaGreatDoorT18
import Derived.Test.YtfaccbkibjkfjaaGreatDoorT15
import Derived.Test.YtfaccbkibjkfjaaGreatDoorT41
import Derived.Test.YtfaccbkibjkfjaaGreatDoorT12
import Derived.Test.YtfaccbkibjkfjaaGreatDoorT29
set_option linter.all false
set_option maxRecDepth 100000
set_option maxHeartbeats 1000000
section
open Go Go.Am Go.Proofs
attribute [local irreducible] Am.bp.holds bH fw bP ek
namespace Go.b8
variable {mx:Int}
open Classical
def PB (l:List b6) (calls:Int) (i:Nat):Prop:=∀h:i<l.length,(1≤l[i].id∧l[i].id≤999999)∧(i≠0→∀h':i-1<l.length,l[i-1].id<l[i].id)∧(l[i].size=40∨(l[i].size=20∧l[i].high=false))∧0≤l[i].load∧l[i].load<l[i].discharge∧l[i].discharge<calls
def je (l:List b6) (calls:Int):Prop:=(1≤calls∧calls≤20)∧l.length≤2000∧∀i,i<l.length→PB l calls i
def py (l:List b6):Nat→Int
 |0=>0
 |v+1=>(l.getD v ⟨0,[],0,false,0,0,0,0,false⟩).id
theorem pV {l:List b6} {v:Nat} (h:v<l.length):py l (v+1)=l[v].id:=by simp[py,List.getD_eq_getElem?_getD,h]
noncomputable def uc (l:List b6) (k:Int) (v:Nat):List Int:=((l.take v).filter (fun b=>decide (lG b k))).map (·.id)
theorem Cz {l:List b6} {k:Int} {v:Nat} (h:v<l.length):uc l k (v+1)=if lG l[v] k then uc l k v++[l[v].id]else uc l k v:=by
 unfold uc;rw[List.take_succ_eq_append_getElem h,List.filter_append]
 by_cases hp:lG l[v] k<;>simp[hp]
theorem Aq {l:List b6} {k:Int} {v:Nat}:(uc l k v).length≤l.length:=by
 unfold uc;rw[List.length_map];exact Nat.le_trans (List.length_filter_le _ _) (by simp;omega)
theorem Ky {rows sp:List (List PV)} {l:List b6} {calls:Int} {r:Bool} (hr:rows=l.map b6.enc) (hl:l.length<2^32) (dD:r=decide (je l calls)):pC mx 142 [.sl rows sp,.int .i64 calls] (.bool r):=by
 have hlen:rows.length=l.length:=by simp[hr]
 refine pZ N6 ?_
 iterate 122 intro _
 intro aw _ ah aI aQ aJ aP aB aU aV bC bA ag aC;refine gK ?_
 repeat' (first|refine gH ?_|(refine iE (fun hc=>?_) (fun hc=>?_)<;>(try simp at hc)<;>(try(exfalso;omega))))
 all_goals try(refine aX ?_;exact fa dD (fun h=>by have:=h.1;have:=h.2.1;omega))
 refine bQ [0,1,19,20,5,21] [] (fun v σ_=>σ_.put (some 21) (.pv (.int .i64 (Int.ofNat v)))|>.put (some 5) (.pv (.int .i64 (py l v)))) (l.length) (fun k=>PB l calls k) ?_;intro v hv hk
 try dsimp only
 generalize hla:py l v=la;refine ej ?_;refine bp.af (fun hd=>?_) (fun hd=>?_)
 ·have aT:v<l.length:=by rw[←aC,←ag]at hd;simp at hd;omega
  obtain⟨gI,bj⟩:∃x,l[v]=x:=⟨_,rfl⟩
  have bG:aJ (Int.ofNat v) rows 9:=by rw[←aP,hr];exact aO (enc:=b6.enc) aT rfl
  obtain⟨⟨iN,fO,eZ,e6,eG,eA,gi,jl,dI⟩,bW⟩:∃y,gI=y:=⟨_,rfl⟩;subst bW
  have aW:aI rows (Int.ofNat v)=[.int .i64 iN,.str fO,.int .u8 eZ,.bool e6,.int .i64 eG,.int .i64 eA,.int .i64 gi,.int .u8 jl,.bool dI]:=by rw[←aQ,hr,aN (enc:=b6.enc) aT,bj];rfl
  have vx:py l (v+1)=iN:=by rw[pV aT,bj]
  have bad:¬PB l calls v→¬je l calls:=fun h h'=>h (h'.2.2 v aT)
  have l5:PB l calls v↔(py l v<iN∧iN≤999999)∧(eZ=40∨(eZ=20∧e6=false))∧0≤eA∧eA<gi∧gi<calls:=by
   constructor
   ·intro h;have:=h aT;rw[bj]at this;obtain⟨⟨h1,h2⟩,h3,h4,h5⟩:=this;refine⟨⟨?_,h2⟩,h4,h5⟩
    rcases v with _|v
    ·simp[py];dsimp only at h1;omega
    ·rw[pV (by omega)];exact h3 (by omega) (by omega)
   ·rintro⟨⟨h1,h2⟩,h4,h5⟩ _;rw[bj];refine⟨⟨?_,h2⟩,?_,h4,h5⟩
    ·rcases v with _|v
     ·simp[py]at h1;dsimp only;omega
     ·have:=(hk v (by omega) (by omega)).1.1;rw[pV (by omega)]at h1;dsimp only;omega
    ·intro h0 K3
     rcases v with _|v
     ·omega
     ·rw[pV (by omega)]at h1;exact h1
  rw[hla]at l5
  rcases e6 with _|_
  all_goals
   refine aY ?_;refine ae bG ?_;rw[aW];refine gK ?_
   repeat' (first|refine gH ?_|(refine iE (fun hc=>?_) (fun hc=>?_)<;>(try simp at hc)<;>(try(exfalso;omega))))
   all_goals first
    |refine ak ⟨aT,l5.2 (by first|omega|(simp;omega)),?_⟩
     rw[wS ah aw (v:=v) (by omega)];rw[vx]
     cbv
    |skip
     refine dS ?_;exact fa dD (bad (by rw[l5];first|omega|(simp;omega)))
 ·have aT:v=l.length:=by rw[←aC,←ag]at hd;simp at hd;omega
  refine aY ?_;refine ar rfl ?_;refine gK ?_;refine aX ?_;exact tr dD ⟨by omega,by omega,fun i hi=>hk i (by omega)⟩
end Go.b8
end
section
open Go Go.Am Go.Proofs
attribute [local irreducible] Am.bp.holds bH fw bP ek
namespace Go.b8
variable {mx:Int}
open Classical
theorem Hq {x:aH} {cs:List PV} {n:Int} {r:Bool} (hcs:cs=x.enc) (hr:r=decide (x.box=n)):pC mx 145 [.agg cs,.int .i64 n] (.bool r):=by
 subst hcs;obtain⟨box,rk,hP,half⟩:=x;show pC mx 145 [.agg [.int .i64 box,.int .i64 rk,.int .i64 hP,.int .u8 half],.int .i64 n] (.bool r);refine pZ N9 ?_
 iterate 129 intro _
 intro aB aU aV bC bA ag aC;refine gK ?_;refine bp.af (fun h=>?_) (fun h=>?_)
 ·rw[←bA]at h;simp at h;refine aY ?_;refine aX ?_;exact tr hr h
 ·rw[←bA]at h;simp at h;refine aY ?_;refine aX ?_;exact fa hr h
theorem Hr {rows sp:List (List PV)} {l:List b6} {k:Int} {I:List (List PV)} (hr:rows=l.map b6.enc) (hl:l.length<2^32) (hI:I=ints (uc l k l.length)):pC mx 144 [.sl rows sp,.int .i64 k] (.sl I []):=by
 have hlen:rows.length=l.length:=by simp[hr]
 refine pZ N8 ?_
 iterate 116 intro _
 intro dF bJ bX _ _ _ aw _ ah aI aQ aJ aP aB aU aV bC bA ag aC;refine gK ?_;refine bQ [0,1,5,8,9,10] (nn [5,5]) (fun v σ_=>σ_.put (some 10) (.pv (.int .i64 (Int.ofNat v)))|>.aq 5 (.rows 1 (ints (uc l k v)) 0)) (l.length) (fun k=>True) ?_;intro v hv hk
 try dsimp only
 generalize dA:ints (uc l k v)=cur;refine ej ?_;refine bp.af (fun hd=>?_) (fun hd=>?_)
 ·have aT:v<l.length:=by rw[←aC,←ag]at hd;simp at hd;omega
  obtain⟨gI,bj⟩:∃x,l[v]=x:=⟨_,rfl⟩
  have bG:aJ (Int.ofNat v) rows 9:=by rw[←aP,hr];exact aO (enc:=b6.enc) aT rfl
  obtain⟨⟨iN,fO,eZ,e6,eG,eA,gi,jl,dI⟩,bW⟩:∃y,gI=y:=⟨_,rfl⟩;subst bW
  have aW:aI rows (Int.ofNat v)=[.int .i64 iN,.str fO,.int .u8 eZ,.bool e6,.int .i64 eG,.int .i64 eA,.int .i64 gi,.int .u8 jl,.bool dI]:=by rw[←aQ,hr,aN (enc:=b6.enc) aT,bj];rfl
  have dJ:=Cz (k:=k) aT;rw[bj]at dJ;have hA:lG ⟨iN,fO,eZ,e6,eG,eA,gi,jl,dI⟩ k↔eA≤k∧k<gi:=Iff.rfl;refine aY ?_;refine ae bG ?_;rw[aW];refine gK ?_
  repeat' (first|refine gH ?_|(refine iE (fun hc=>?_) (fun hc=>?_)<;>(try simp at hc)<;>(try(exfalso;omega))))
  ·refine ae ?_ ?_
   ·rw[←dF,←dA];have:=Aq (l:=l) (k:=k) (v:=v);simp;omega
   refine gK ?_;refine ak ⟨aT,trivial,?_⟩;rw[wS ah aw (v:=v) (by omega)]
   rw[show bJ cur [[.int .i64 iN]]=ints (uc l k (v+1)) by
    rw[←bX,←dA,dJ,if_pos (hA.2 (by omega))]
    simp[ints]]
   cbv
  all_goals
   refine ak ⟨aT,trivial,?_⟩;rw[wS ah aw (v:=v) (by omega)];rw[show cur=ints (uc l k (v+1)) by rw[←dA,dJ,if_neg (fun h=>by have:=hA.1 h;omega)]]
   cbv
 ·have aT:v=l.length:=by rw[←aC,←ag]at hd;simp at hd;omega
  refine aY ?_;refine ar rfl ?_;refine gK ?_;refine aX ?_;rw[hI,←dA,aT]
theorem Hs {rows sp:List (List PV)} {l:List b6} {k:Int} {I:List (List PV)} (hr:rows=l.map b6.enc) (hl:l.length<2^32) (hI:I=ints (uc l k l.length)):pC mx 149 [.sl rows sp,.int .i64 k] (.sl I []):=by
 have hlen:rows.length=l.length:=by simp[hr]
 refine pZ Ob ?_
 iterate 116 intro _
 intro dF bJ bX _ _ _ aw _ ah aI aQ aJ aP aB aU aV bC bA ag aC;refine gK ?_;refine bQ [0,1,5,6] (nn [5,5]) (fun v σ_=>σ_.put (some 6) (.pv (.int .i64 (Int.ofNat v)))|>.aq 5 (.rows 1 (ints (uc l k v)) 0)) (l.length) (fun k=>True) ?_;intro v hv hk
 try dsimp only
 generalize dA:ints (uc l k v)=cur;refine ej ?_;refine bp.af (fun hd=>?_) (fun hd=>?_)
 ·have aT:v<l.length:=by rw[←aC,←ag]at hd;simp at hd;omega
  obtain⟨gI,bj⟩:∃x,l[v]=x:=⟨_,rfl⟩
  have bG:aJ (Int.ofNat v) rows 9:=by rw[←aP,hr];exact aO (enc:=b6.enc) aT rfl
  obtain⟨⟨iN,fO,eZ,e6,eG,eA,gi,jl,dI⟩,bW⟩:∃y,gI=y:=⟨_,rfl⟩;subst bW
  have aW:aI rows (Int.ofNat v)=[.int .i64 iN,.str fO,.int .u8 eZ,.bool e6,.int .i64 eG,.int .i64 eA,.int .i64 gi,.int .u8 jl,.bool dI]:=by rw[←aQ,hr,aN (enc:=b6.enc) aT,bj];rfl
  have dJ:=Cz (k:=k) aT;rw[bj]at dJ;have hA:lG ⟨iN,fO,eZ,e6,eG,eA,gi,jl,dI⟩ k↔eA≤k∧k<gi:=Iff.rfl;refine aY ?_;refine ae bG ?_;rw[aW];refine gK ?_;refine bp.af (fun h1=>?_) (fun h1=>?_)
  ·replace h1:=eE h1
   refine aY ?_;refine ae bG ?_;rw[aW];refine gK ?_;refine bp.af (fun h2=>?_) (fun h2=>?_)
   ·replace h2:=eE h2
    refine aY ?_;refine ae bG ?_;rw[aW];refine gK ?_;refine ae ?_ ?_
    ·rw[←dF,←dA];have:=Aq (l:=l) (k:=k) (v:=v);simp;omega
    refine gK ?_;refine ak ⟨aT,trivial,?_⟩;rw[wS ah aw (v:=v) (by omega)]
    rw[show bJ cur [[.int .i64 iN]]=ints (uc l k (v+1)) by
     rw[←bX,←dA,dJ,if_pos (hA.2 (by omega))]
     simp[ints]]
    cbv
   ·replace h2:=eE h2
    refine aY ?_;refine ak ⟨aT,trivial,?_⟩;rw[wS ah aw (v:=v) (by omega)];rw[show cur=ints (uc l k (v+1)) by rw[←dA,dJ,if_neg (fun h=>by have:=hA.1 h;omega)]]
    cbv
  ·replace h1:=eE h1
   refine aY ?_;refine ak ⟨aT,trivial,?_⟩;rw[wS ah aw (v:=v) (by omega)];rw[show cur=ints (uc l k (v+1)) by rw[←dA,dJ,if_neg (fun h=>by have:=hA.1 h;omega)]]
   cbv
 ·have aT:v=l.length:=by rw[←aC,←ag]at hd;simp at hd;omega
  refine aY ?_;refine ar rfl ?_;refine gK ?_;refine aX ?_;rw[hI,←dA,aT]
theorem Ht {rows sp I isp:List (List PV)} {l:List aH} {ids:List Int} {r:Bool} (hr:rows=l.map aH.enc) (hI:I=ints ids) (hl:l.length<2^32) (dD:r=decide (l.map (·.box)=ids)):pC mx 143 [.sl rows sp,.sl I isp,.gM 145 []] (.bool r):=by
 have hlen:rows.length=l.length:=by simp[hr]
 have abC:I.length=ids.length:=by simp[hI]
 refine pZ N7 ?_
 iterate 122 intro _
 intro aw _ ah aI aQ aJ aP aB aU aV bC bA ag aC;refine gK ?_;refine bp.af (fun h1=>?_) (fun h1=>?_)
 ·replace h1:=eE h1
  refine aY ?_;refine aX ?_;refine fa dD (fun h=>?_);have:=congrArg List.length h;simp at this;omega
 ·replace h1:=eE h1
  refine aY ?_
  have hll:l.length=ids.length:=by omega
  refine bQ [0,1,2,15,16,17] [] (fun v σ_=>σ_.put (some 17) (.pv (.int .i64 (Int.ofNat v)))) (l.length) (fun k=>(∀h:k<l.length,l[k].box=ids.getD k 0)) ?_;intro v hv hk;refine ej ?_;refine bp.af (fun hd=>?_) (fun hd=>?_)
  ·have aT:v<l.length:=by rw[←aC,←ag]at hd;simp at hd;omega
   obtain⟨gI,bj⟩:∃x,l[v]=x:=⟨_,rfl⟩
   have bG:aJ (Int.ofNat v) rows 4:=by rw[←aP,hr];exact aO (enc:=aH.enc) aT rfl
   obtain⟨⟨eH,⟨dO,du,ct⟩⟩,bW⟩:∃y,gI=y:=⟨_,rfl⟩;subst bW
   have aW:aI rows (Int.ofNat v)=[.int .i64 eH,.int .i64 dO,.int .i64 du,.int .u8 ct]:=by rw[←aQ,hr,aN (enc:=aH.enc) aT,bj];rfl
   obtain⟨n,hn⟩:∃n,n=ids.getD v 0:=⟨_,rfl⟩
   have Kz:aJ (Int.ofNat v) I 1:=by rw[←aP,hI];exact gW (by simp) (by simp;omega)
   have Em:aI I (Int.ofNat v)=[.int .i64 n]:=by rw[←aQ,hI,gv (by simp) (by simp;omega),hn];rfl
   refine aY ?_;refine ae bG ?_;rw[aW];refine gK ?_;refine ae Kz ?_;rw[Em];refine gK ?_;refine cU (by cbv) (Hq (x:=⟨eH,dO,du,ct⟩) rfl rfl) (fun h=>?_) (fun h=>?_)<;>simp only[decide_eq_true_eq,decide_eq_false_iff_not]at h
   ·refine gK ?_;refine ak ⟨aT,fun _=>by rw[bj,←hn];exact h,?_⟩;rw[wS ah aw (v:=v) (by omega)]
    cbv
   ·refine gK ?_;refine dS ?_;refine fa dD (fun h'=>h ?_);rw[hn,←h'];simp[List.getD_eq_getElem?_getD,aT,bj]
  ·have aT:v=l.length:=by rw[←aC,←ag]at hd;simp at hd;omega
   refine aY ?_;refine ar rfl ?_;refine gK ?_;refine aX ?_;refine tr dD (List.ext_getElem (by simpa using hll) (fun i h1 h2=>?_))
   have hi:i<l.length:=by simpa using h1
   have:=hk i (by omega) hi;simp only[List.getElem_map];rw[this];simp[List.getD_eq_getElem?_getD,h2]
theorem abD {rows sp:List (List PV)} {l:List aH} {id r:Int} (hr:rows=l.map aH.enc) (hl:l.length<2^32) (dD:eW (fun i=>∀h:i<l.length,l[i].box=id) l.length r):pC mx 150 [.sl rows sp,.int .i64 id] (.int .i64 r):=by
 have hlen:rows.length=l.length:=by simp[hr]
 refine pZ Oc ?_
 iterate 122 intro _
 intro aw _ ah aI aQ aJ aP aB aU aV bC bA ag aC;refine gK ?_;refine bQ [0,1,5] [] (fun v σ_=>σ_.put (some 5) (.pv (.int .i64 (Int.ofNat v)))) (l.length) (fun k=>¬(∀h:k<l.length,l[k].box=id)) ?_;intro v hv hk;refine ej ?_;refine bp.af (fun hd=>?_) (fun hd=>?_)
 ·have aT:v<l.length:=by rw[←aC,←ag]at hd;simp at hd;omega
  obtain⟨gI,bj⟩:∃x,l[v]=x:=⟨_,rfl⟩
  have bG:aJ (Int.ofNat v) rows 4:=by rw[←aP,hr];exact aO (enc:=aH.enc) aT rfl
  obtain⟨⟨eH,⟨dO,du,ct⟩⟩,bW⟩:∃y,gI=y:=⟨_,rfl⟩;subst bW
  have aW:aI rows (Int.ofNat v)=[.int .i64 eH,.int .i64 dO,.int .i64 du,.int .u8 ct]:=by rw[←aQ,hr,aN (enc:=aH.enc) aT,bj];rfl
  refine aY ?_;refine ae bG ?_;rw[aW];refine gK ?_;refine bp.af (fun h=>?_) (fun h=>?_)
  ·rw[←bA]at h;simp at h;refine aY ?_;refine dS ?_;rw[dD.at aT (fun _=>by rw[bj];exact h) hk]
  ·rw[←bA]at h;simp at h;refine aY ?_;refine ak ⟨aT,fun h'=>h (by have:=h' aT;rw[bj]at this;exact this),?_⟩;rw[wS ah aw (v:=v) (by omega)]
   cbv
 ·have aT:v=l.length:=by rw[←aC,←ag]at hd;simp at hd;omega
  refine aY ?_;refine ar rfl ?_;refine gK ?_;refine aX ?_;rw[dD.none (fun j hj=>hk j (by omega))]
end Go.b8
end
section
open Go Go.Am Go.Proofs
attribute [local irreducible] Am.bp.holds bH fw bP ek
namespace Go.b8
variable {mx:Int}
open Classical
def tq (sl:List Stat) (k:Nat):Stat:=sl.getD k ⟨[],[]⟩
theorem mC {sl:List Stat} {i:Nat} (h:i<sl.length):tq sl i=sl[i]:=by simp[tq,List.getD_eq_getElem?_getD,h]
def ng (cl:List aL) (vl:List bz) (boxes:List b6) (sl:List Stat) (k:Nat):Prop:=¬gC cl vl boxes (tq sl k).l
def sB (boxes:List b6) (sl:List Stat) (k:Nat):Prop:=(tq sl k).l.map (·.box)≠uc boxes (Int.ofNat k) boxes.length
def dq (cl:List aL) (vl:List bz) (boxes:List b6) (calls:Int) (sl:List Stat) (k e:Int):Prop:=
 (¬cC cl vl∧k=0∧e=2)∨(cC cl vl∧¬je boxes calls∧k=0∧e=230)∨(cC cl vl∧je boxes calls∧Int.ofNat sl.length≠calls∧k=0∧e=231)∨
 (cC cl vl∧je boxes calls∧Int.ofNat sl.length=calls∧∃r,eW (fun i=>ng cl vl boxes sl i∨sB boxes sl i) sl.length r∧((r= -1∧k=0∧e=0)∨∃v,r=Int.ofNat v∧k=r∧e=if ng cl vl boxes sl v then 232 else 233))
section
variable {cl:List aL} {vl:List bz} {boxes:List b6} {calls:Int} {sl:List Stat} {k e:Int}
theorem dq.ex (cl:List aL) (vl:List bz) (boxes:List b6) (calls:Int) (sl:List Stat):∃k e,dq cl vl boxes calls sl k e:=by
 by_cases h1:cC cl vl
 ·by_cases h2:je boxes calls
  ·by_cases h3:Int.ofNat sl.length=calls
   ·obtain⟨r,hr⟩:=eW.ex (fun i=>ng cl vl boxes sl i∨sB boxes sl i) sl.length;have ni:=hr
    rcases ni with⟨-,h⟩|⟨v,-,-,-,h⟩
    ·exact⟨0,0,.inr (.inr (.inr ⟨h1,h2,h3,r,hr,.inl ⟨h,rfl,rfl⟩⟩))⟩
    ·exact⟨r,_,.inr (.inr (.inr ⟨h1,h2,h3,r,hr,.inr ⟨v,h,rfl,rfl⟩⟩))⟩
   ·exact⟨0,231,.inr (.inr (.inl ⟨h1,h2,h3,rfl,rfl⟩))⟩
  ·exact⟨0,230,.inr (.inl ⟨h1,h2,rfl,rfl⟩)⟩
 ·exact⟨0,2,.inl ⟨h1,rfl,rfl⟩⟩
theorem dq.abE (h:dq cl vl boxes calls sl k e) (h1:¬cC cl vl):k=0∧e=2:=by
 rcases h with h|h|h|h
 ·exact h.2
 all_goals exact absurd h.1 h1
theorem dq.abF (h:dq cl vl boxes calls sl k e) (h1:cC cl vl) (h2:¬je boxes calls):k=0∧e=230:=by
 rcases h with h|h|h|h
 ·exact absurd h1 h.1
 ·exact h.2.2
 ·exact absurd h.2.1 h2
 ·exact absurd h.2.1 h2
theorem dq.count (h:dq cl vl boxes calls sl k e) (h1:cC cl vl) (h2:je boxes calls) (h3:Int.ofNat sl.length≠calls):k=0∧e=231:=by
 rcases h with h|h|h|h
 ·exact absurd h1 h.1
 ·exact absurd h2 h.2.1
 ·exact h.2.2.2
 ·exact absurd h.2.2.1 h3
theorem dq.bad (h:dq cl vl boxes calls sl k e) (h1:cC cl vl) (h2:je boxes calls) (h3:Int.ofNat sl.length=calls) {v:Nat} (hv:v<sl.length) (hb:ng cl vl boxes sl v∨sB boxes sl v) (hn:∀j,j<v→¬(ng cl vl boxes sl j∨sB boxes sl j)):k=Int.ofNat v∧e=if ng cl vl boxes sl v then 232 else 233:=by
 rcases h with h|h|h|h
 ·exact absurd h1 h.1
 ·exact absurd h2 h.2.1
 ·exact absurd h3 h.2.2.1
 ·obtain⟨-,-,-,r,hr,h⟩:=h;have:=hr.at hv hb hn
  rcases h with⟨h,-⟩|⟨u,hu,hk,he⟩
  ·rw[h]at this;have:(-1:Int)=(v:Int):=this;omega
  ·have huv:u=v:=by
    rw[hu]at this;have:(u:Int)=(v:Int):=this;omega
   subst huv;exact⟨by rw[hk,hu],he⟩
theorem dq.q0 (h:dq cl vl boxes calls sl k e) (h1:cC cl vl) (h2:je boxes calls) (h3:Int.ofNat sl.length=calls) (hn:∀j,j<sl.length→¬(ng cl vl boxes sl j∨sB boxes sl j)):k=0∧e=0:=by
 rcases h with h|h|h|h
 ·exact absurd h1 h.1
 ·exact absurd h2 h.2.1
 ·exact absurd h3 h.2.2.1
 ·obtain⟨-,-,-,r,hr,h⟩:=h;have:=hr.none hn
  rcases h with⟨h,hk,he⟩|⟨u,hu,hk,he⟩
  ·exact⟨hk,he⟩
  ·rw[hu]at this;have:(u:Int)= -1:=this;omega
theorem dq.zero (h:dq cl vl boxes calls sl k 0):cC cl vl∧je boxes calls∧Int.ofNat sl.length=calls∧∀j,j<sl.length→¬(ng cl vl boxes sl j∨sB boxes sl j):=by
 rcases h with h|h|h|h
 ·exact absurd h.2.2 (by omega)
 ·exact absurd h.2.2.2 (by omega)
 ·exact absurd h.2.2.2.2 (by omega)
 ·obtain⟨h1,h2,h3,r,hr,h⟩:=h;refine⟨h1,h2,h3,?_⟩
  rcases h with⟨h,hk,he⟩|⟨u,hu,hk,he⟩
  ·rcases hr with⟨h4,-⟩|⟨w,-,-,-,h4⟩
   ·exact h4
   ·rw[h]at h4;have:(-1:Int)=(w:Int):=h4;omega
  ·split at he<;>omega
end
theorem As {c csp vv vsp r rsp f fsp t tsp:List (List PV)} {l1 l2 l3 l4 m1 m2 m3 m4:Int} {dK ssp wrows wsp brows bsp:List (List PV)} {cl:List aL} {vl:List bz} {sl:List Stat} {boxes:List b6} {calls k e:Int} (jI:c=cl.map aL.enc) (pN:vv=vl.map bz.enc) (wU:cl.length<2^32) (Hn:vl.length<2^32) (CS:∀x∈cl,x.cq.length<2^32) (AE:∀x∈vl,x.rows.length<2^16)
  (hs:dK=sl.map Stat.enc) (oa:sl.length<2^32) (jb:brows=boxes.map b6.enc) (lO:boxes.length<2^32) (vf:∀b∈boxes,og b) (yb:∀x∈sl,x.l.length<2^32∧∀y∈x.l,kL y) (dD:dq cl vl boxes calls sl k e):
  pC mx 64 [.agg [.sl c csp,.sl vv vsp,.int .i64 l1,.int .i64 l2,.int .i64 l3,.int .i64 l4,.sl r rsp,.sl f fsp,.sl t tsp,.int .i64 m1,.int .i64 m2,.int .i64 m3,.int .i64 m4],.sl brows bsp,.int .i64 calls,.agg [.sl dK ssp,.sl wrows wsp]] (.eN [.int .i64 k,.int .i64 e]):=by
 have hlen:dK.length=sl.length:=by simp[hs]
 refine pZ UZ ?_
 iterate 122 intro _
 intro aw _ ah aI aQ aJ aP aB aU aV bC bA ag aC;refine gK ?_;refine cU (by cbv) (Aj jI pN wU Hn CS AE rfl) (fun h=>?_) (fun h=>?_)<;>simp only[decide_eq_true_eq,decide_eq_false_iff_not]at h
 ·have kN:=h;refine gK ?_;refine cU (by cbv) (Ky jb lO rfl) (fun h=>?_) (fun h=>?_)<;>simp only[decide_eq_true_eq,decide_eq_false_iff_not]at h
  ·have Sy:=h;refine gK ?_;refine bp.af (fun h3=>?_) (fun h3=>?_)
   ·replace h3:=eE h3
    refine aY ?_;refine aX ?_;obtain⟨rfl,rfl⟩:=dD.count kN Sy (by simp;omega);rfl
   ·replace h3:=eE h3
    have wI:Int.ofNat sl.length=calls:=by simp;omega
    refine aY ?_;refine bQ [1,2,4,7,28,29,30] (nn [4,4,2,7]) (fun v σ_=>σ_.put (some 30) (.pv (.int .i64 (Int.ofNat v)))) (sl.length) (fun k=>¬(ng cl vl boxes sl k∨sB boxes sl k)) ?_;intro v hv hk;refine ej ?_;refine bp.af (fun hd=>?_) (fun hd=>?_)
    ·have aT:v<sl.length:=by rw[←aC,←ag]at hd;simp at hd;omega
     obtain⟨gI,bj⟩:∃x,sl[v]=x:=⟨_,rfl⟩
     have bG:aJ (Int.ofNat v) dK 1:=by rw[←aP,hs];exact aO (enc:=Stat.enc) aT rfl
     obtain⟨⟨rp,wJ⟩,bW⟩:∃y,gI=y:=⟨_,rfl⟩;subst bW
     have aW:aI dK (Int.ofNat v)=[.sl (rp.map aH.enc) wJ]:=by rw[←aQ,hs,aN (enc:=Stat.enc) aT,bj];rfl
     obtain⟨p,hp⟩:∃p,p=rp.map aH.enc:=⟨_,rfl⟩;rw[←hp]at aW;have xR:=yb _ (List.getElem_mem aT);rw[bj]at xR
     have CR:(tq sl v).l=rp:=by rw[mC aT,bj]
     have bad:=fun hb=>dD.bad kN Sy wI aT hb hk
     refine aY ?_;refine ae bG ?_;rw[aW];refine gK ?_;refine cU (by cbv) (Pb (fun hq=>Aj jI pN wU Hn CS AE hq) jI wU hp jb xR.1 lO vf xR.2 rfl) (fun h=>?_) (fun h=>?_)<;>simp only[decide_eq_true_eq,decide_eq_false_iff_not]at h
     ·have h1:¬ng cl vl boxes sl v:=fun h'=>h' (by rw[CR];exact h)
      refine gK ?_;obtain⟨I,hI⟩:∃I,I=ints (uc boxes (Int.ofNat v) boxes.length):=⟨_,rfl⟩;refine ao (by cbv) (Hr jb lO hI) (fun h=>by first|rfl|cases h) ?_;refine gK ?_;refine cU (by cbv) (Ht hp hI xR.1 rfl) (fun h=>?_) (fun h=>?_)<;>simp only[decide_eq_true_eq,decide_eq_false_iff_not]at h
      ·refine gK ?_;refine ak ⟨aT,?_,?_⟩
       ·rintro(h'|h')
        ·exact h1 h'
        ·exact h' (by rw[CR];exact h)
       rw[wS ah aw (v:=v) (by omega)]
       cbv
      ·refine gK ?_;refine dS ?_;obtain⟨rfl,rfl⟩:=bad (.inr (by unfold sB;rw[CR];exact h));rw[if_neg h1]
     ·refine gK ?_;refine dS ?_
      have h1:ng cl vl boxes sl v:=by unfold ng;rw[CR];exact h
      obtain⟨rfl,rfl⟩:=bad (.inl h1);rw[if_pos h1]
    ·have aT:v=sl.length:=by rw[←aC,←ag]at hd;simp at hd;omega
     refine aY ?_;refine ar rfl ?_;refine gK ?_;refine aX ?_;obtain⟨rfl,rfl⟩:=dD.q0 kN Sy wI (fun j hj=>hk j (by omega));rfl
  ·refine gK ?_;refine aX ?_;obtain⟨rfl,rfl⟩:=dD.abF kN h;rfl
 ·refine gK ?_;refine aX ?_;obtain⟨rfl,rfl⟩:=dD.abE h;rfl
end Go.b8
end
section
open Go Go.Am Go.Proofs
attribute [local irreducible] Am.bp.holds bH fw bP ek
namespace Go.b8
variable {mx:Int}
open Classical
theorem CA {rows sp:List (List PV)} {l:List b6} {calls:Int} {r:Bool} (hr:rows=l.map b6.enc) (hl:l.length<2^32) (dD:r=decide (je l calls)):pC mx 148 [.sl rows sp,.int .i64 calls] (.bool r):=by
 have hlen:rows.length=l.length:=by simp[hr]
 refine pZ Oa ?_
 iterate 119 intro _
 intro cP cY _ aw bu ah aI aQ aJ aP aB aU aV bC bA ag aC;refine gK ?_
 repeat' (first|refine gH ?_|(refine iE (fun hc=>?_) (fun hc=>?_)<;>(try simp at hc)<;>(try(exfalso;omega))))
 all_goals try(refine aX ?_;exact fa dD (fun h=>by have:=h.1;have:=h.2.1;omega))
 refine bQ [0,1,5] [] (fun v σ_=>σ_.put (some 5) (.pv (.int .i64 (Int.ofNat v)))) (l.length) (fun k=>PB l calls k) ?_;intro v hv hk;refine ej ?_;refine bp.af (fun hd=>?_) (fun hd=>?_)
 ·have aT:v<l.length:=by rw[←aC,←ag]at hd;simp at hd;omega
  obtain⟨gI,bj⟩:∃x,l[v]=x:=⟨_,rfl⟩
  have bG:aJ (Int.ofNat v) rows 9:=by rw[←aP,hr];exact aO (enc:=b6.enc) aT rfl
  obtain⟨⟨iN,fO,eZ,e6,eG,eA,gi,jl,dI⟩,bW⟩:∃y,gI=y:=⟨_,rfl⟩;subst bW
  have aW:aI rows (Int.ofNat v)=[.int .i64 iN,.str fO,.int .u8 eZ,.bool e6,.int .i64 eG,.int .i64 eA,.int .i64 gi,.int .u8 jl,.bool dI]:=by rw[←aQ,hr,aN (enc:=b6.enc) aT,bj];rfl
  have bad:¬PB l calls v→¬je l calls:=fun h h'=>h (h'.2.2 v aT)
  have l5:PB l calls v↔(1≤iN∧iN≤999999)∧(v≠0→∀h':v-1<l.length,l[v-1].id<iN)∧(eZ=40∨(eZ=20∧e6=false))∧0≤eA∧eA<gi∧gi<calls:=by
   constructor
   ·intro h;have:=h aT;rw[bj]at this;exact this
   ·intro h _;rw[bj];exact h
  rcases e6 with _|_
  all_goals
   refine aY ?_;refine ae bG ?_;rw[aW];refine gK ?_
   repeat' (first|refine gH ?_|(refine iE (fun hc=>?_) (fun hc=>?_)<;>(try simp at hc)<;>(try(exfalso;omega))))
   all_goals first
    |have h0:v=0:=by omega
     refine ak ⟨aT,l5.2 ⟨by omega,fun h=>absurd h0 h,by first|omega|(simp;omega)⟩,?_⟩;rw[wS ah aw (v:=v) (by omega)]
     cbv
    |skip
     refine dS ?_;exact fa dD (bad (fun h=>by obtain⟨h1,h2,h3⟩:=l5.1 h;clear h2 h l5;first|omega|(simp at h3;omega)))
    |obtain⟨w,hw⟩:∃w,v=w+1:=⟨v-1,by omega⟩
     have Iu:w<l.length:=by omega
     obtain⟨Ac,fv⟩:∃x,l[w]=x:=⟨_,rfl⟩
     have gw:aJ (Int.ofNat w) rows 9:=by rw[←aP,hr];exact aO (enc:=b6.enc) Iu rfl
     obtain⟨⟨Ov,JW,DV,DW,Ad,DX,JX,JY,wv⟩,jF⟩:∃y,Ac=y:=⟨_,rfl⟩;subst jF
     have dV:aI rows (Int.ofNat w)=[.int .i64 Ov,.str JW,.int .u8 DV,.bool DW,.int .i64 Ad,.int .i64 DX,.int .i64 JX,.int .u8 JY,.bool wv]:=by rw[←aQ,hr,aN (enc:=b6.enc) Iu,fv];rfl
     have fu:bu .i64 (cP (Int.ofNat v) 1)=Int.ofNat w:=by rw[←ah,←cY];simp only[di,iQ];rw[dy]<;>simp<;>omega
     have hpre:(v≠0→∀h':v-1<l.length,l[v-1].id<iN)↔Ov<iN:=by
      subst hw;simp only[Nat.add_sub_cancel,fv];exact⟨fun h=>h (by omega) Iu,fun h _ _=>h⟩
     rw[hpre]at l5;rw[fu];refine ae gw ?_;rw[dV];refine gK ?_
     repeat' (first|refine gH ?_|(refine iE (fun hc=>?_) (fun hc=>?_)<;>(try simp at hc)<;>(try(exfalso;omega))))
     all_goals first
      |refine ak ⟨aT,l5.2 (by first|omega|(simp;omega)),?_⟩
       rw[wS ah aw (v:=v) (by omega)]
       cbv
      |skip
       refine dS ?_;exact fa dD (bad (by rw[l5];first|omega|(simp;omega)))
 ·have aT:v=l.length:=by rw[←aC,←ag]at hd;simp at hd;omega
  refine aY ?_;refine ar rfl ?_;refine gK ?_;refine aX ?_;exact tr dD ⟨by omega,by omega,fun i hi=>hk i (by omega)⟩
end Go.b8
end
section
open Go Go.Am Go.Proofs
attribute [local irreducible] Am.bp.holds bH fw bP ek
namespace Go.b8
variable {mx:Int}
open Classical
theorem En {l:List b6} {calls k:Int} (h:je l calls):List.Pairwise (·<·) (uc l k l.length):=by
 have h1:List.Pairwise (fun a b:b6=>a.id<b.id) l:=by
  rw[List.pairwise_iff_getElem];intro i j hi hj ot
  induction j with
  |zero=>omega
  |succ j ih=>
   have hs:=(h.2.2 (j+1) hj hj).2.1 (by omega) (by omega);simp only[Nat.add_sub_cancel]at hs
   rcases Nat.lt_or_ge i j with bO|x7
   ·have:=ih (by omega) bO;omega
   ·have:i=j:=by omega
    subst this;exact hs
 unfold uc;rw[List.take_length];exact List.Pairwise.map _ (fun _ _ h=>h) (List.Pairwise.filter _ h1)
theorem KA {cl:List aL} {vl:List bz} {boxes:List b6} {sl:List Stat} {calls:Int} {v:Nat} (hp:je boxes calls) (hs:¬ng cl vl boxes sl v):
  ¬sB boxes sl v↔(uc boxes (Int.ofNat v) boxes.length).length=(tq sl v).l.length∧∀i,i<(uc boxes (Int.ofNat v) boxes.length).length→∃j,∃h:j<(tq sl v).l.length,(tq sl v).l[j].box=(uc boxes (Int.ofNat v) boxes.length).getD i 0:=by
 have hs:gC cl vl boxes (tq sl v).l:=Classical.byContradiction hs;have abG:=En (k:=Int.ofNat v) hp;unfold sB;generalize uc boxes (Int.ofNat v) boxes.length=I at abG ⊢;generalize (tq sl v).l=l at hs ⊢;rw[not_not];constructor
 ·rintro rfl;refine⟨by simp,fun i hi=>⟨i,by simpa using hi,?_⟩⟩
  have gQ:i<l.length:=by simpa using hi
  simp[List.getD_eq_getElem?_getD,gQ]
 ·rintro⟨hlen,h⟩
  have key:=Hf (n:=l.length) (a:=fun i=>I.getD i 0) (b:=fun i=>(l.map (·.box)).getD i 0) (fun i hi=>by
    have h1:i<I.length:=by omega
    have h2:i+1<I.length:=by omega
    simp only[List.getD_eq_getElem?_getD,List.getElem?_eq_getElem h1,List.getElem?_eq_getElem h2,Option.getD_some]
    exact(List.pairwise_iff_getElem.1 abG) i (i+1) h1 h2 (by omega)) (fun i hi=>by
    have h1:i<l.length:=by omega
    have:=((hs.2.1 (i+1) hi hi).2.2 i (by omega)).1
    simpa[List.getD_eq_getElem?_getD,h1,hi]using this) (fun i hi=>by
    obtain⟨j,hj,hb⟩:=h i (by omega)
    exact⟨j,hj,by rw[←hb];simp[List.getD_eq_getElem?_getD,hj]⟩)
  refine List.ext_getElem (by simp[hlen]) (fun i h1 h2=>?_)
  have hi:i<l.length:=by simpa using h1
  have:=key i hi;simp[List.getD_eq_getElem?_getD,hi,h2]at this;simp[this]
theorem Eo {c csp vv vsp r rsp f fsp t tsp:List (List PV)} {l1 l2 l3 l4 m1 m2 m3 m4:Int} {dK ssp wrows wsp brows bsp:List (List PV)} {cl:List aL} {vl:List bz} {sl:List Stat} {boxes:List b6} {calls k e:Int} (jI:c=cl.map aL.enc) (pN:vv=vl.map bz.enc) (wU:cl.length<2^32) (Hn:vl.length<2^32) (CS:∀x∈cl,x.cq.length<2^32) (AE:∀x∈vl,x.rows.length<2^16)
  (hs:dK=sl.map Stat.enc) (oa:sl.length<2^32) (jb:brows=boxes.map b6.enc) (lO:boxes.length<2^32) (vf:∀b∈boxes,og b) (yb:∀x∈sl,x.l.length<2^32∧∀y∈x.l,kL y) (dD:dq cl vl boxes calls sl k e):
  pC mx 69 [.agg [.sl c csp,.sl vv vsp,.int .i64 l1,.int .i64 l2,.int .i64 l3,.int .i64 l4,.sl r rsp,.sl f fsp,.sl t tsp,.int .i64 m1,.int .i64 m2,.int .i64 m3,.int .i64 m4],.sl brows bsp,.int .i64 calls,.agg [.sl dK ssp,.sl wrows wsp]] (.eN [.int .i64 k,.int .i64 e]):=by
 have hlen:dK.length=sl.length:=by simp[hs]
 have VS:∀x∈vl,x.rows.length<2^32:=fun x hx=>by have:=AE x hx;omega
 refine pZ U0 ?_
 iterate 122 intro _
 intro aw _ ah aI aQ aJ aP aB aU aV bC bA ag aC;refine gK ?_;refine cU (by cbv) (wD jI pN wU Hn CS VS rfl) (fun h=>?_) (fun h=>?_)<;>simp only[decide_eq_true_eq,decide_eq_false_iff_not]at h
 ·have kN:=h;refine gK ?_;refine cU (by cbv) (CA jb lO rfl) (fun h=>?_) (fun h=>?_)<;>simp only[decide_eq_true_eq,decide_eq_false_iff_not]at h
  ·have Sy:=h;refine gK ?_;refine bp.af (fun h3=>?_) (fun h3=>?_)
   ·replace h3:=eE h3
    refine aY ?_;refine aX ?_;obtain⟨rfl,rfl⟩:=dD.count kN Sy (by simp;omega);rfl
   ·replace h3:=eE h3
    have wI:Int.ofNat sl.length=calls:=by simp;omega
    refine aY ?_;refine bQ [1,2,4,7,10] (nn [4,4,2,7]) (fun v σ_=>σ_.put (some 10) (.pv (.int .i64 (Int.ofNat v)))) (sl.length) (fun k=>¬(ng cl vl boxes sl k∨sB boxes sl k)) ?_;intro v hv hk;refine ej ?_;refine bp.af (fun hd=>?_) (fun hd=>?_)
    ·have aT:v<sl.length:=by rw[←aC]at hd;simp at hd;omega
     obtain⟨gI,bj⟩:∃x,sl[v]=x:=⟨_,rfl⟩
     have bG:aJ (Int.ofNat v) dK 1:=by rw[←aP,hs];exact aO (enc:=Stat.enc) aT rfl
     obtain⟨⟨rp,wJ⟩,bW⟩:∃y,gI=y:=⟨_,rfl⟩;subst bW
     have aW:aI dK (Int.ofNat v)=[.sl (rp.map aH.enc) wJ]:=by rw[←aQ,hs,aN (enc:=Stat.enc) aT,bj];rfl
     obtain⟨p,hp⟩:∃p,p=rp.map aH.enc:=⟨_,rfl⟩
     have EP:p.length=rp.length:=by simp[hp]
     rw[←hp]at aW;have xR:=yb _ (List.getElem_mem aT);rw[bj]at xR
     have CR:(tq sl v).l=rp:=by rw[mC aT,bj]
     have bad:=fun hb=>dD.bad kN Sy wI aT hb hk
     refine aY ?_;refine ae bG ?_;rw[aW];refine gK ?_;refine gG (by cbv) (Ei jI pN wU Hn CS VS hp jb xR.1 lO vf xR.2 rfl) (fun h=>?_) (fun h=>?_)<;>simp only[decide_eq_true_eq,decide_eq_false_iff_not]at h
     ·have h1:¬ng cl vl boxes sl v:=fun h'=>h' (by rw[CR];exact h)
      have oA:=KA Sy h1;rw[CR]at oA;refine gK ?_;obtain⟨ids,VT⟩:∃ids,ids=uc boxes (Int.ofNat v) boxes.length:=⟨_,rfl⟩;obtain⟨I,hI⟩:∃I,I=ints ids:=⟨_,rfl⟩;rw[←VT]at oA
      have abC:I.length=ids.length:=by simp[hI]
      have hidl:ids.length≤boxes.length:=by rw[VT];exact Aq
      refine ao (by cbv) (Hs (I:=I) jb lO (by rw[hI,VT])) (fun h=>by first|rfl|cases h) ?_;refine gK ?_;refine ae bG ?_;rw[aW];refine gK ?_;refine bp.af (fun h2=>?_) (fun h2=>?_)
      ·replace h2:=eE h2
       refine aY ?_;refine dS ?_;obtain⟨rfl,rfl⟩:=bad (.inr (Classical.byContradiction fun hn=>by have:=(oA.1 hn).1;omega));rw[if_neg h1]
      ·replace h2:=eE h2
       refine aY ?_
       have QD:ids.length=rp.length:=by omega
       obtain⟨i,rfl⟩:∃i,i=v:=⟨v,rfl⟩;refine bQ [1,2,4,7,10,11,12] (nn [4,4,2,7]) (fun v σ_=>σ_.put (some 12) (.pv (.int .i64 (Int.ofNat v)))) (ids.length) (fun k=>(∃j,∃h:j<rp.length,rp[j].box=ids.getD k 0)) ?_;intro v hv hk;refine ej ?_;refine bp.af (fun he=>?_) (fun he=>?_)
       ·have gh:v<ids.length:=by rw[←aC,←ag]at he;simp at he;omega
        obtain⟨n,hn⟩:∃n,n=ids.getD v 0:=⟨_,rfl⟩
        have Kz:aJ (Int.ofNat v) I 1:=by rw[←aP,hI];exact gW (by simp) (by simp;omega)
        have Em:aI I (Int.ofNat v)=[.int .i64 n]:=by rw[←aQ,hI,gv (by simp) (by simp;omega),hn];rfl
        obtain⟨q,hq⟩:=eW.ex (fun j=>∀h:j<rp.length,rp[j].box=n) rp.length;have hqi:=hq.iff;refine aY ?_;refine ae bG ?_;rw[aW];refine gK ?_;refine ae Kz ?_;rw[Em];refine gK ?_;refine bF (by cbv) (abD hp xR.1 hq) (fun _=>rfl) ?_;refine gK ?_;refine bp.af (fun bO=>?_) (fun bO=>?_)
        ·replace bO:=eE bO
         refine aY ?_;refine ff rfl (de.oV rfl ?_);show fN _ _=_;refine F3 ?_
         obtain⟨rfl,rfl⟩:=bad (.inr (Classical.byContradiction fun hnb=>by
          obtain⟨j,hj,hb⟩:=(oA.1 hnb).2 v gh;have:=hqi.2 ⟨j,hj,fun _=>by rw[hb,hn]⟩
          omega))
         rw[if_neg h1]
        ·replace bO:=eE bO
         refine aY ?_;obtain⟨j,hj,hb⟩:=hqi.1 (by omega);refine ak ⟨gh,⟨j,hj,by rw[hb hj,hn]⟩,?_⟩;rw[wS ah aw (v:=v) (by omega)]
         cbv
       ·have gh:v=ids.length:=by rw[←aC,←ag]at he;simp at he;omega
        refine aY ?_;refine ar rfl ?_;refine gK ?_;refine ak ⟨aT,?_,?_⟩
        ·rintro(h'|h')
         ·exact h1 h'
         ·exact oA.2 ⟨QD,fun i hi=>hk i (by omega)⟩ h'
        rw[wS ah aw (v:=i) (by omega)]
        cbv
     ·refine gK ?_;refine dS ?_
      have h1:ng cl vl boxes sl v:=by unfold ng;rw[CR];exact h
      obtain⟨rfl,rfl⟩:=bad (.inl h1);rw[if_pos h1]
    ·have aT:v=sl.length:=by rw[←aC]at hd;simp at hd;omega
     refine aY ?_;refine ar rfl ?_;refine gK ?_;refine aX ?_;obtain⟨rfl,rfl⟩:=dD.q0 kN Sy wI (fun j hj=>hk j (by omega));rfl
  ·refine gK ?_;refine aX ?_;obtain⟨rfl,rfl⟩:=dD.abF kN h;rfl
 ·refine gK ?_;refine aX ?_;obtain⟨rfl,rfl⟩:=dD.abE h;rfl
end Go.b8
end
section
open Go Go.Am Go.Proofs
attribute [local irreducible] Am.bp.holds bH fw bP ek
namespace Go.b8
variable {mx:Int}
open Classical
theorem ud {l:List aH}:fS 4 (l.map aH.enc):=by
 intro r hr;obtain⟨x,-,rfl⟩:=List.mem_map.1 hr;obtain⟨b,c,t,h⟩:=x;exact⟨rfl,by simp[aH.enc]⟩
theorem KB {rows sp:List (List PV)} {l:List aH} (mn:rows=l.map aH.enc) (h:rows++sp≠[]) (hl:l.length<2^32):oQ Tryz.prog (GG mx) 65 [.sl rows sp] [(4,rows)] (.c8 0 0):=by
 have hlen:rows.length=l.length:=by simp[mn]
 refine BO (rs:=[.c8 0 0]) mixed U1 (leT rfl) (az (F:=fun A=>bH (CC Tryz.prog (GG mx)) A (bh Tryz.prog (GG mx)) [.code aaz] (nb [.tmp 2] [(4,rows)] [.c8 0 0]) .normal (Am.start 8 [.sl rows sp])) ?_)
 iterate 105 intro _
 intro yR
 iterate 10 intro _
 intro dF bJ bX
 iterate 10 intro _
 intro aB aU aV bC bA ag aC;refine gK ?_;refine ae (by rw[←yR,←bX];simpa using h) ?_;refine gK ?_;refine ae (by rw[←dF];exact⟨by simp;omega,by simp;omega,by rw[mn];exact ud,by simp⟩) ?_;refine gK ?_
 have hr:bJ [] rows=rows:=by rw[←bX];simp
 rw[hr];refine o6 (fg (vs:=[.c8 5 1]) (t:=[]) [some 5] (by cbv) rfl (by cbv) rfl rfl rfl)
end Go.b8
end
