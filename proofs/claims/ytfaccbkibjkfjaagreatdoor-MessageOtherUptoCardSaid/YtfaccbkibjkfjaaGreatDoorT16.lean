import Derived.Test.YtfaccbkibjkfjaaGreatDoorT11
import Derived.Test.YtfaccbkibjkfjaaGreatDoorT12
import Derived.Test.YtfaccbkibjkfjaaGreatDoorT10
import Derived.Test.YtfaccbkibjkfjaaGreatDoorT08
import Derived.Test.YtfaccbkibjkfjaaGreatDoorT07
set_option linter.all false
set_option maxRecDepth 100000
set_option maxHeartbeats 1000000
section
open Go Go.Am Go.Proofs
attribute [local irreducible] Am.bp.holds bH fw bP ek
namespace Go.bt
variable {mx:Int}
open Classical
def tc (p:List UInt8) (a d:Int):Prop:=yH p∧(0≤a∧a≤100000000)∧(0≤d∧d≤500000)
def jc (s:List UInt8) (i:Nat):Prop:=if i<3 then 65≤at_ s i∧at_ s i≤90 else if i=3 then at_ s i=85∨at_ s i=74∨at_ s i=90 else 48≤at_ s i∧at_ s i≤57
theorem DU {v:Nat} (h:v≤9):(1:Int)≤2^v∧(2:Int)^v≤512:=by
 have:v=0∨v=1∨v=2∨v=3∨v=4∨v=5∨v=6∨v=7∨v=8∨v=9:=by omega
 rcases this with rfl|rfl|rfl|rfl|rfl|rfl|rfl|rfl|rfl|rfl<;>decide
theorem JV {x:Int} {v:Nat} (hx:0≤x∧x≤40) (h:v≤9):0≤x*2^v∧x*2^v≤20480:=by
 have hp:=DU h;have h1:0≤x*2^v:=Int.mul_nonneg hx.1 (by omega);have h2:x*2^v≤40*2^v:=qcY hx.2 (by omega);omega
def ib (l:List bw) (i e:Int):Prop:=(2000<l.length∧i= -1∧e=5)∨(l.length≤2000∧∃v,v<l.length∧i=Int.ofNat v∧e=60∧(∀k,k<v→nf l k)∧¬nf l v)∨(l.length≤2000∧(∀k,k<l.length→nf l k)∧i= -1∧e=0)
theorem least {P:Nat→Prop} {n:Nat}:(∀k,k<n→P k)∨∃v,v<n∧(∀k,k<v→P k)∧¬P v:=by
 induction n with
 |zero=>exact Or.inl (fun k h=>by omega)
 |succ n ih=>
  rcases ih with h|⟨v,h1,h2⟩
  ·by_cases hp:P n
   ·left;intro k hk
    by_cases e:k=n
    ·subst e;exact hp
    ·exact h k (by omega)
   ·exact Or.inr ⟨n,by omega,h,hp⟩
  ·exact Or.inr ⟨v,by omega,h2⟩
theorem Ck (l:List bw):∃i e,ib l i e:=by
 by_cases hl:2000<l.length
 ·exact⟨_,_,.inl ⟨hl,rfl,rfl⟩⟩
 ·rcases least (P:=nf l) (n:=l.length)with h|⟨v,h1,h2,h3⟩
  ·exact⟨_,_,.inr (.inr ⟨by omega,h,rfl,rfl⟩)⟩
  ·exact⟨_,_,.inr (.inl ⟨by omega,v,h1,rfl,rfl,h2,h3⟩)⟩
theorem ib.iff {l:List bw} {i e:Int} (h:ib l i e):e=0↔wo l:=by
 rcases h with⟨h,_,rfl⟩|⟨h,v,hv,_,rfl,_,hn⟩|⟨h,ha,_,rfl⟩
 ·exact⟨fun h=>by omega,fun⟨h',_⟩=>by omega⟩
 ·exact⟨fun h=>by omega,fun⟨_,h'⟩=>absurd (h' v hv) hn⟩
 ·exact⟨fun _=>⟨h,ha⟩,fun _=>rfl⟩
theorem ib.bad {l:List bw} {i e:Int} (h:ib l i e) {v:Nat} (hl:l.length≤2000) (hv:v<l.length) (hk:∀k,k<v→nf l k) (hn:¬nf l v):i=Int.ofNat v∧e=60:=by
 rcases h with⟨h,_,rfl⟩|⟨h,w,hw,hi,rfl,ha,hb⟩|⟨h,ha,_,rfl⟩
 ·omega
 ·have:w=v:=by
   rcases qcG w v with h|h|h
   ·exact absurd (hk w h) hb
   ·exact h
   ·exact absurd (ha v h) hn
  subst this;exact⟨hi,rfl⟩
 ·exact absurd (ha v hv) hn
theorem ib.Hh {l:List bw} {i e:Int} (h:ib l i e) (hl:l.length≤2000) (hk:∀k,k<l.length→nf l k):i= -1∧e=0:=by
 rcases h with⟨h,_,rfl⟩|⟨h,w,hw,hi,rfl,ha,hb⟩|⟨h,ha,h1,rfl⟩
 ·omega
 ·exact absurd (hk w hw) hb
 ·exact⟨h1,rfl⟩
theorem D2 {f:FuncId} {p:Int→Bool} {s:List UInt8} {r:Int} (hf:∀x:Int,pC mx f [.int .i32 x] (.bool (p x))) (hp:∀x,128≤x→p x=true) (hl:s.length<2^32) (hr:eW (fun k=>p (at_ s k)=true) s.length r):
  pC mx 305 [.str s,.gM f [],.bool true] (.int .i64 r):=by
 refine pZ Ft ?_;intro _ _ _ Me _ _ _ _ _ _ _ _ zl
 iterate 30 intro _
 intro zq Ki zt
 iterate 25 intro _
 intro D3 Vm Vn
 iterate 55 intro _
 intro zI aU aV bC bA ag aC;refine gK ?_;refine bQ [0,1,2,10] (nn [10,10]) (fun v σ_=>σ_.aq 10 (.fz s (Int.ofNat v))) (s.length) (fun k=>(p (at_ s k)=false)) ?_;intro v hv hk;refine ej ?_
 cases hd:Me (Int.ofNat v) (zl s)
 ·have aT:v=s.length:=by rw[←aC,←zI]at hd;simp at hd;omega
  refine aY ?_;refine wW rfl ?_;refine gK ?_;refine aX ?_;rw[hr.none (fun k eR h'=>by rw[hk k (by omega)]at h';cases h')]
 ·have aT:v<s.length:=by rw[←aC,←zI]at hd;simp at hd;omega
  obtain⟨b,hb⟩:∃b,b=at_ s v:=⟨_,rfl⟩;obtain⟨u,hu⟩:∃u,zq s (Int.ofNat v)=u:=⟨_,rfl⟩;obtain⟨w,hw⟩:∃w,zt (Int.ofNat v) (Ki s (Int.ofNat v))=w:=⟨_,rfl⟩;refine aY ?_;rw[hu,hw];refine cU (by cbv) (hf u) (fun h=>?_) (fun h=>?_)
  ·refine gK ?_;refine dS ?_
   have XC:p (at_ s v)=true:=by
    by_cases Oy:at_ s v<128
    ·have:=(re Oy).1;rw[←D3]at hu;rw[←this];exact hu▸h
    ·exact hp _ (by omega)
   rw[hr.at aT XC (fun k eR h'=>by rw[hk k eR]at h';cases h')]
  ·have Oy:at_ s v<128:=by
    refine qaC fun hn=>?_
    have:=JT (s:=s) (v:=v) (by omega);rw[←D3]at hu;have qd:aF.rune s (Int.ofNat v)=u:=hu;rw[hp u (by rw[←qd];exact this)]at h
    cases h
   have XC:p (at_ s v)=false:=by
    have:=(re Oy).1;rw[←D3]at hu;rw[←this];exact hu▸h
   have Iu:w=Int.ofNat (v+1):=by
    rw[←hw,←Vn,←Vm];have:=(re Oy).2;show(Int.ofNat v)+aF.C0 s (Int.ofNat v)=_;rw[show aF.C0 s (Int.ofNat v)=1 from this];rfl
   rw[Iu];refine gK ?_;refine ta ⟨aT,XC,?_⟩
   cbv
theorem D4 {f:FuncId} {p:Int→Bool} {s:List UInt8} {r:Bool} (hf:∀x:Int,pC mx f [.int .i32 x] (.bool (p x))) (hp:∀x,128≤x→p x=true) (hl:s.length<2^32) (hr:r=decide (∃k,k<s.length∧p (at_ s k)=true)):
  pC mx 187 [.str s,.gM f []] (.bool r):=by
 obtain⟨n,hn⟩:=eW.ex (fun k=>p (at_ s k)=true) s.length;have h305:=D2 (mx:=mx) hf hp hl hn
 have h268:pC mx 268 [.str s,.gM f []] (.int .i64 n):=by
  refine pZ Fu ?_
  iterate 129 intro _
  intro zI aU aV bC bA ag aC;refine gK ?_;refine ao (by cbv) h305 (fun h=>by first|rfl|cases h) ?_;refine gK ?_;refine aX ?_;rfl
 have jr:=hn.iff;refine pZ Fv ?_
 iterate 129 intro _
 intro zI aU aV bC bA ag aC;refine gK ?_;refine ao (by cbv) h268 (fun h=>by first|rfl|cases h) ?_;refine gK ?_
 repeat' (first|refine gH ?_|(refine iE (fun hc=>?_) (fun hc=>?_)<;>(try simp at hc)<;>(try(exfalso;omega))))
 all_goals(refine aX ?_)
 all_goals first|exact tr hr (jr.1 (by omega))|exact fa hr (fun h=>by have:=jr.2 h;omega)
theorem J3 {x:Int} {r:Bool} (hr:r=decide (x<65∨90<x)):pC mx 186 [.int .i32 x] (.bool r):=by
 refine pZ Fw ?_
 iterate 129 intro _
 intro zI aU aV bC bA ag aC;refine gK ?_
 repeat' (first|refine gH ?_|(refine iE (fun hc=>?_) (fun hc=>?_)<;>(try simp at hc)<;>(try(exfalso;omega))))
 all_goals(refine aX ?_)
 all_goals first|(refine tr hr ?_;omega)|(refine fa hr ?_;omega)
theorem F9 {p:List UInt8} {a d:Int} {r:Bool} (hr:r=decide (tc p a d)):pC mx 92 [.agg [.str p,.int .i64 a,.int .i64 d]] (.bool r):=by
 have L3:(∃k,k<p.length∧(decide (at_ p k<65∨90<at_ p k))=true)↔¬∀i,i<p.length→65≤at_ p i∧at_ p i≤90:=by
  constructor
  ·rintro⟨k,h1,h2⟩ h;have:=h k h1;simp at h2;omega
  ·intro h
   refine qaC fun hn=>h fun i hi=>?_
   refine qaC fun h2=>hn ⟨i,hi,?_⟩
   simp;omega
 refine pZ Js ?_
 iterate 129 intro _
 intro zI aU aV bC bA ag aC;refine gK ?_;refine bp.af (fun h1=>?_) (fun h1=>?_)
 ·replace h1:=eE h1
  refine aY ?_;refine cU (by cbv) (D4 (f:=186) (p:=fun x=>decide (x<65∨90<x)) (fun x=>J3 rfl) (fun x hx=>by simp;omega) (by omega) rfl) (fun h=>?_) (fun h=>?_)<;>simp only[qae,qad]at h
  ·refine gK ?_;refine aX ?_;refine fa hr ?_;rintro⟨⟨-,h2⟩,-⟩;exact L3.1 (by simpa using h) h2
  ·have fF:∀i,i<p.length→65≤at_ p i∧at_ p i≤90:=qaC fun hn=>h (by simpa using L3.2 hn)
   refine gK ?_
   repeat' (first|refine gH ?_|(refine iE (fun hc=>?_) (fun hc=>?_)<;>(try simp at hc)<;>(try(exfalso;omega))))
   all_goals(refine aX ?_)
   all_goals first|exact tr hr ⟨⟨by omega,fF⟩,by omega,by omega⟩|(refine fa hr ?_;rintro⟨-,h3,h4⟩;omega)
 ·replace h1:=eE h1
  refine aY ?_;refine aX ?_;refine fa hr ?_;rintro⟨⟨h2,-⟩,-⟩;omega
theorem D5 {x:Int} {r:Bool} (hr:r=decide (65≤x∧x≤90)):pC mx 330 [.int .u8 x] (.bool r):=by
 refine pZ Nk ?_
 iterate 129 intro _
 intro zI aU aV bC bA ag aC;refine gK ?_
 repeat' (first|refine gH ?_|(refine iE (fun hc=>?_) (fun hc=>?_)<;>(try simp at hc)<;>(try(exfalso;omega))))
 all_goals(refine aX ?_)
 all_goals first|(refine tr hr ?_;omega)|(refine fa hr ?_;omega)
theorem Hk {x:Int} {r:Bool} (hr:r=decide (x=85∨x=74∨x=90)):pC mx 331 [.int .u8 x] (.bool r):=by
 refine pZ Nl ?_
 iterate 129 intro _
 intro zI aU aV bC bA ag aC;refine gK ?_
 repeat' (first|refine gH ?_|(refine iE (fun hc=>?_) (fun hc=>?_)<;>(try simp at hc)<;>(try(exfalso;omega))))
 all_goals(refine aX ?_)
 all_goals first|(refine tr hr ?_;omega)|(refine fa hr ?_;omega)
theorem Hl {x:Int} {r:Bool} (hr:r=decide (48≤x∧x≤57)):pC mx 332 [.int .u8 x] (.bool r):=by
 refine pZ Nn ?_
 iterate 129 intro _
 intro zI aU aV bC bA ag aC;refine gK ?_
 repeat' (first|refine gH ?_|(refine iE (fun hc=>?_) (fun hc=>?_)<;>(try simp at hc)<;>(try(exfalso;omega))))
 all_goals(refine aX ?_)
 all_goals first|(refine tr hr ?_;omega)|(refine fa hr ?_;omega)
theorem Vo:pC mx 328 [] (.agg [.gM 330 [],.gM 330 [],.gM 330 [],.gM 331 [],.gM 332 [],.gM 332 [],.gM 332 [],.gM 332 [],.gM 332 [],.gM 332 [],.gM 332 []]):=by
 refine pZ Np ?_
 iterate 129 intro _
 intro zI aU aV bC bA ag aC;refine gK ?_;refine aX ?_;rfl
theorem Hm {s:List UInt8} {r:Bool} (hl:s.length<2^32) (hr:r=decide (s.length≤11∧ra s)):pC mx 319 [.str s] (.bool r):=by
 have hF:ra s↔∀i,i<s.length→jc s i:=Iff.rfl;refine pZ Nq ?_
 iterate 78 intro _
 intro Ga vU Gb
 iterate 21 intro _
 intro lB _ _ _ _ _ _ mc km me
 iterate 10 intro _
 intro aw _ mz _ _ _ _ zI aU aV bC bA ag aC;refine gK ?_;refine ao (by cbv) Vo (fun h=>by first|rfl|cases h) ?_;refine gK ?_;refine bQ [0,3,6,7,8] (nn [3,3]) (fun v σ_=>σ_.put (some 8) (.pv (.int .i64 (Int.ofNat v)))) (s.length) (fun k=>(k<11∧jc s k)) ?_;intro v hv hk;refine ej ?_;refine bp.af (fun hd=>?_) (fun hd=>?_)
 ·have aT:v<s.length:=by rw[←aC,←zI]at hd;simp at hd;omega
  have qC:lB (Int.ofNat v) s:=by rw[←mc];simp;omega
  obtain⟨b_s,kA⟩:∃b,b=at_ s v:=⟨_,rfl⟩
  have Cj:0≤b_s∧b_s<256:=by rw[kA];exact wm _ _
  have qD:km s (Int.ofNat v)=b_s:=by rw[←me,kA];rfl
  have bad:¬jc s v→¬(s.length≤11∧ra s):=fun h h'=>h (h'.2 v aT)
  refine aY ?_;refine bp.af (fun h1=>?_) (fun h1=>?_)
  ·replace h1:=eE h1
   refine aY ?_;refine dS ?_;exact fa hr (fun h=>by omega)
  ·replace h1:=eE h1
   refine aY ?_;refine ae (by rw[←Ga];exact⟨by simp,by simp;omega⟩) ?_;rw[show vU (Int.ofNat v) 1=v by rw[←Gb];show(Int.ofNat v).toNat*1=v;simp]
   have mW:v=0∨v=1∨v=2∨v=3∨v=4∨v=5∨v=6∨v=7∨v=8∨v=9∨v=10:=by omega
   rcases mW with rfl|rfl|rfl|rfl|rfl|rfl|rfl|rfl|rfl|rfl|rfl
   all_goals
    refine gK ?_;refine ae qC ?_;rw[qD];refine gK ?_
    first
     |refine gG (by cbv) (D5 rfl) (fun h=>?_) (fun h=>?_)
     |refine gG (by cbv) (Hk rfl) (fun h=>?_) (fun h=>?_)
     |refine gG (by cbv) (Hl rfl) (fun h=>?_) (fun h=>?_)
   all_goals simp only[qae,qad]at h
   all_goals refine gK ?_
   all_goals first
    |(refine dS ?_;refine fa hr (bad ?_);unfold jc;rw[←kA];simp;omega)
    |(refine ta ⟨aT,⟨by omega,by unfold jc;rw[←kA];simp;omega⟩,?_⟩
      rw[wS mz aw (v:=_) (by omega)]
      cbv)
 ·have aT:v=s.length:=by rw[←aC,←zI]at hd;simp at hd;omega
  refine aY ?_;refine wW rfl ?_;refine gK ?_;refine aX ?_;refine tr hr ⟨?_,fun i hi=>(hk i (by omega)).2⟩
  refine qaC fun hn=>?_
  have:=(hk 11 (by omega)).1;omega
theorem Hi {a b:Int} {r:Bool} (hr:r=decide (pj a b)):pC mx 274 [.int .u8 a,.int .u8 b] (.bool r):=by
 refine pZ FJ ?_
 iterate 129 intro _
 intro zI aU aV bC bA ag aC;refine gK ?_
 repeat' (first|refine gH ?_|(refine iE (fun hc=>?_) (fun hc=>?_)<;>(try simp at hc)<;>(try(exfalso;omega))))
 all_goals(refine aX ?_)
 all_goals first|(refine tr hr ?_;unfold pj;omega)|(refine fa hr ?_;unfold pj;omega)
theorem F5 {a b:Slot} {r:Bool} (hr:r=decide (zV a b)):pC mx 192 [.agg [.int .i64 a.column,.int .i64 a.tier,.int .u8 a.half],.agg [.int .i64 b.column,.int .i64 b.tier,.int .u8 b.half]] (.bool r):=by
 obtain⟨c1,t1,h1⟩:=a;obtain⟨c2,t2,h2⟩:=b;dsimp only;refine pZ FK ?_
 iterate 129 intro _
 intro zI aU aV bC bA ag aC;refine gK ?_
 repeat' (first|refine gH ?_|(refine iE (fun hc=>?_) (fun hc=>?_)<;>(try simp at hc)<;>(try(exfalso;omega))))
 all_goals try(refine cU (by cbv) (Hi rfl) (fun h=>?_) (fun h=>?_)<;>simp only[qae,qad]at h<;>refine gK ?_)
 all_goals(refine aX ?_)
 all_goals first|(refine tr hr ⟨?_,?_,?_⟩<;>assumption)|(refine fa hr ?_;rintro⟨h3,h4,h5⟩;dsimp only at h3 h4 h5;first|omega|contradiction)
theorem acW {x:bw} {cs:List PV} {k:Int} (hcs:cs=x.enc) {r:Bool} (hr:r=decide (lG x k)):pC mx 66 [.agg cs,.int .i64 k] (.bool r):=by
 subst hcs;obtain⟨id,num,size,high,cD,load,oz,cls,cK⟩:=x;show pC mx 66 [.agg [.int .i64 id,.str num,.int .u8 size,.bool high,.int .i64 cD,.int .i64 load,.int .i64 oz,.int .u8 cls,.bool cK],.int .i64 k] (.bool r);refine pZ Jv ?_
 iterate 129 intro _
 intro zI aU aV bC bA ag aC;refine gK ?_
 repeat' (first|refine gH ?_|(refine iE (fun hc=>?_) (fun hc=>?_)<;>(try simp at hc)<;>(try(exfalso;omega))))
 all_goals(refine aX ?_)
 all_goals first|(refine tr hr ⟨?_,?_⟩<;>dsimp only<;>omega)|(refine fa hr ?_;rintro⟨h1,h2⟩;dsimp only at h1 h2;omega)
theorem J0 {rows sp S:List (List PV)} {l:List aH} (eS:rows=l.map aH.enc) (hS:S=(l.map (·.slot)).map Slot.enc) (hl:l.length<2^32):pC mx 188 [.sl rows sp] (.sl S []):=by
 have hlen:rows.length=l.length:=by simp[eS]
 have hSl:S.length=l.length:=by simp[hS]
 have bS:aK 3 S:=by rw[hS];exact Kh (enc:=Slot.enc) (fun _=>rfl) _
 have htk:∀v,aK 3 (S.take v):=fun v r hr=>bS r (qbf hr)
 refine pZ Fx ?_
 iterate 116 intro _
 intro dF bJ bX _ _ _ aw _ mz aI aQ aJ aP zI aU aV bC bA ag aC;refine gK ?_;refine JJ [3,6,7,8] (nn [3,3]) (fun v σ_=>(σ_.T5 3 3 3).put (some 8) (.pv (.int .i64 (Int.ofNat v)))|>.aq 3 (.rows 3 (S.take v) 0)) (l.length) (fun k=>True) (Fg.E5 [3,6,7,8] (nn [3,3]) 3 3 3 rfl (by first|rfl|(cbv;done)) (by first|rfl|(cbv;done)) (by first|exact qaH rfl|(cbv;done)) (by first|(cbv;done)|(simp;cbv;done)|(simp;rfl))) ?_
 intro v hv hk
 try dsimp only
 generalize dA:S.take v=cur;refine ej ?_;refine bp.af (fun hd=>?_) (fun hd=>?_)
 ·have aT:v<l.length:=by rw[←aC,←ag]at hd;simp at hd;omega
  obtain⟨gI,bj⟩:∃x,l[v]=x:=⟨_,rfl⟩
  have bG:aJ (Int.ofNat v) rows 4:=by rw[←aP,eS];exact aO (enc:=aH.enc) aT rfl
  obtain⟨⟨eH,⟨dO,du,fH⟩⟩,bW⟩:∃y,gI=y:=⟨_,rfl⟩;subst bW
  have aW:aI rows (Int.ofNat v)=[.int .i64 eH,.int .i64 dO,.int .i64 du,.int .u8 fH]:=by rw[←aQ,eS,aN (enc:=aH.enc) aT,bj];rfl
  have hvS:v<S.length:=by omega
  refine aY ?_;refine ae bG ?_;rw[aW];refine gK ?_;refine ae ?_ ?_
  ·rw[←dF,←dA];have:=htk v;simp[this,hSl];omega
  refine gK ?_;refine ta ⟨aT,trivial,?_⟩;rw[wS mz aw (v:=v) (by omega)]
  rw[show bJ cur [[.int .i64 dO,.int .i64 du,.int .u8 fH]]=S.take (v+1) by
   rw[←bX,←dA,qan hvS,dj]
   congr 2
   subst hS;simp only[qcf];rw[bj]
   rfl]
  cbv
 ·have aT:v=l.length:=by rw[←aC,←ag]at hd;simp at hd;omega
  refine aY ?_;refine wW rfl ?_;refine gK ?_;refine aX ?_;rw[←dA,qbI (by omega)]
def acO (s:List UInt8) (low high:Int) (dg:Bool):Prop:=(low≤s.length∧s.length≤high)∧∀i,i<s.length→(65≤at_ s i∧at_ s i≤90)∨(dg=true∧48≤at_ s i∧at_ s i≤57)
theorem adu {s:List UInt8} {low high:Int} {dg res:Bool} (hl:s.length<2^32) (hr:res=decide (acO s low high dg)):pC mx 254 [.str s,.int .i64 low,.int .i64 high,.bool dg] (.bool res):=by
 cases dg
 ·refine pZ zG ?_
  iterate 102 intro _
  intro lB _ _ _ _ _ _ mc km me
  iterate 10 intro _
  intro aw _ mz _ _ _ _ zI aU aV bC bA ag aC;refine gK ?_;refine bQ [0,1,2,3,11,12] [] (fun v σ_=>σ_.put (some 12) (.pv (.int .i64 (Int.ofNat v)))) (s.length) (fun k=>((65≤at_ s k∧at_ s k≤90)∨(false=true∧48≤at_ s k∧at_ s k≤57))) ?_;intro v hv hk;refine ej ?_;refine bp.af (fun hd=>?_) (fun hd=>?_)
  ·have aT:v<s.length:=by rw[←aC,←zI]at hd;simp at hd;omega
   have qC:lB (Int.ofNat v) s:=by rw[←mc];simp;omega
   obtain⟨b_s,kA⟩:∃b,b=at_ s v:=⟨_,rfl⟩
   have Cj:0≤b_s∧b_s<256:=by rw[kA];exact wm _ _
   have qD:km s (Int.ofNat v)=b_s:=by rw[←me,kA];rfl
   have bad:¬((65≤b_s∧b_s≤90)∨(false=true∧48≤b_s∧b_s≤57))→¬acO s low high false:=fun h h'=>h (by rw[kA];exact h'.2 v aT)
   refine aY ?_
   repeat' (first
    |refine gH ?_
    |(refine ae qC ?_;rw[qD];refine gK ?_)
    |(refine bp.af (fun hc=>?_) (fun hc=>?_)<;>(rw[←aC]at hc)<;>(try simp at hc)))
   all_goals first
    |(refine dS ?_;exact fa hr (bad (by simp;omega)))
    |(refine ta ⟨aT,by rw[←kA];simp;omega,?_⟩
      rw[wS mz aw (v:=v) (by omega)]
      cbv)
  ·have aT:v=s.length:=by rw[←aC,←zI]at hd;simp at hd;omega
   refine aY ?_;refine wW rfl ?_;refine gK ?_
   repeat' (first|refine gH ?_|(refine iE (fun hc=>?_) (fun hc=>?_)<;>(try simp at hc)<;>(try(exfalso;omega))))
   all_goals(refine aX ?_)
   all_goals first|exact tr hr ⟨⟨by omega,by omega⟩,fun i h=>hk i (by omega)⟩|(refine fa hr ?_;rintro⟨⟨h1,h2⟩,-⟩;omega)
 ·refine pZ zG ?_
  iterate 102 intro _
  intro lB _ _ _ _ _ _ mc km me
  iterate 10 intro _
  intro aw _ mz _ _ _ _ zI aU aV bC bA ag aC;refine gK ?_;refine bQ [0,1,2,3,11,12] [] (fun v σ_=>σ_.put (some 12) (.pv (.int .i64 (Int.ofNat v)))) (s.length) (fun k=>((65≤at_ s k∧at_ s k≤90)∨(true=true∧48≤at_ s k∧at_ s k≤57))) ?_;intro v hv hk;refine ej ?_;refine bp.af (fun hd=>?_) (fun hd=>?_)
  ·have aT:v<s.length:=by rw[←aC,←zI]at hd;simp at hd;omega
   have qC:lB (Int.ofNat v) s:=by rw[←mc];simp;omega
   obtain⟨b_s,kA⟩:∃b,b=at_ s v:=⟨_,rfl⟩
   have Cj:0≤b_s∧b_s<256:=by rw[kA];exact wm _ _
   have qD:km s (Int.ofNat v)=b_s:=by rw[←me,kA];rfl
   have bad:¬((65≤b_s∧b_s≤90)∨(true=true∧48≤b_s∧b_s≤57))→¬acO s low high true:=fun h h'=>h (by rw[kA];exact h'.2 v aT)
   refine aY ?_
   repeat' (first
    |refine gH ?_
    |(refine ae qC ?_;rw[qD];refine gK ?_)
    |(refine bp.af (fun hc=>?_) (fun hc=>?_)<;>(rw[←aC]at hc)<;>(try simp at hc)))
   all_goals first
    |(refine dS ?_;exact fa hr (bad (by simp;omega)))
    |(refine ta ⟨aT,by rw[←kA];simp;omega,?_⟩
      rw[wS mz aw (v:=v) (by omega)]
      cbv)
  ·have aT:v=s.length:=by rw[←aC,←zI]at hd;simp at hd;omega
   refine aY ?_;refine wW rfl ?_;refine gK ?_
   repeat' (first|refine gH ?_|(refine iE (fun hc=>?_) (fun hc=>?_)<;>(try simp at hc)<;>(try(exfalso;omega))))
   all_goals(refine aX ?_)
   all_goals first|exact tr hr ⟨⟨by omega,by omega⟩,fun i h=>hk i (by omega)⟩|(refine fa hr ?_;rintro⟨⟨h1,h2⟩,-⟩;omega)
theorem ahF {s:List UInt8} {res:Bool} (hl:s.length<2^32) (hr:res=decide (ab2 s)):pC mx 162 [.str s] (.bool res):=by
 have jr:acO s 6 6 false↔ab2 s:=by unfold acO ab2 adI;simp;omega
 refine pZ FP ?_
 iterate 129 intro _
 intro zI aU aV bC bA ag aC;refine gK ?_;refine cU (by cbv) (adu hl rfl) (fun h=>?_) (fun h=>?_)<;>simp only[qae,qad]at h
 ·refine gK ?_;refine aX ?_;exact tr hr (jr.1 h)
 ·refine gK ?_;refine aX ?_;exact fa hr (fun h'=>h (jr.2 h'))
theorem ae9 {s:List UInt8} {res:Bool} (hl:s.length<2^32) (hr:res=decide (acU s)):pC mx 163 [.str s] (.bool res):=by
 have jr:acO s 1 14 true↔acU s:=
  ⟨fun⟨⟨h1,h2⟩,h3⟩=>⟨by omega,by omega,fun i hi=>by have:=h3 i hi;simpa using this⟩,fun⟨h1,h2,h3⟩=>⟨⟨by omega,by omega⟩,fun i hi=>by have:=h3 i hi;simpa using this⟩⟩
 refine pZ FQ ?_
 iterate 129 intro _
 intro zI aU aV bC bA ag aC;refine gK ?_;refine cU (by cbv) (adu hl rfl) (fun h=>?_) (fun h=>?_)<;>simp only[qae,qad]at h
 ·refine gK ?_;refine aX ?_;exact tr hr (jr.1 h)
 ·refine gK ?_;refine aX ?_;exact fa hr (fun h'=>h (jr.2 h'))
theorem aik {s:List UInt8} {res:Bool} (hl:s.length<2^32) (hr:res=decide (Y0 s)):pC mx 166 [.str s] (.bool res):=by
 have jr:acO s 3 3 false↔(s.length=3∧adI s):=by unfold acO adI;simp;omega
 refine pZ FT ?_
 iterate 129 intro _
 intro zI aU aV bC bA ag aC;refine gK ?_;refine cU (by cbv) (adu hl rfl) (fun h=>?_) (fun h=>?_)<;>simp only[qae,qad]at h
 ·have h':=jr.1 h;refine gK ?_
  repeat' (first|refine gH ?_|(refine iE (fun hc=>?_) (fun hc=>?_)<;>(try simp at hc)<;>(try(exfalso;omega))))
  all_goals(refine aX ?_)
  all_goals first|exact tr hr ⟨h'.1,h'.2,by assumption,by assumption⟩|(refine fa hr ?_;rintro⟨-,-,h2,h3⟩;contradiction)
 ·refine gK ?_;refine aX ?_;exact fa hr (fun h'=>h (jr.2 ⟨h'.1,h'.2.1⟩))
def Letter (b:Int):Prop:=(48≤b∧b≤57)∨(65≤b∧b≤90)
theorem jc.letter {s:List UInt8} {i:Nat} (h:jc s i):Letter (at_ s i):=by
 unfold jc at h;unfold Letter;split at h
 ·omega
 ·split at h<;>omega
theorem J4 {b r:Int} (hb:Letter b) (hr:r=val b):pC mx 329 [.int .u8 b] (.eN [.int .i64 r,.bool true]):=by
 unfold Letter at hb;refine pZ Nr ?_
 iterate 101 intro _
 intro Ab _ tV Ci _ yy J5 _ _ _ _ oZ sg _ _ _ _ _ cP cY df aw bu mz _ _ _ _ zI aU aV bC bA ag aC
 have zc:∀x y,df x y=x+y:=fun _ _=>by rw[←aw];rfl
 have fu:∀x y,cP x y=x-y:=fun _ _=>by rw[←cY];rfl
 have hmul:∀x y,tV x y=x*y:=fun _ _=>by rw[←Ci];rfl
 have aaZ:∀x y,0≤x→yy x y=x/y:=fun _ _ h=>by rw[←J5];exact qbj h
 have Vp:∀x y,0≤x→oZ x y=x%y:=fun _ _ h=>by rw[←sg];exact qa8 h
 have hW:∀x,-9223372036854775808≤x→x<9223372036854775808→bu .i64 x=x:=fun _ h1 h2=>by rw[←mz];exact dy h1 h2
 have YG:∀x,0≤x→x<256→bu .u8 x=x:=fun _ h1 h2=>by rw[←mz];exact Zx h1 h2
 refine gK ?_
 repeat' (first|refine gH ?_|(refine iE (fun hc=>?_) (fun hc=>?_)<;>(try simp at hc)<;>(try(exfalso;omega))))
 ·refine aX ?_;rw[fu,YG _ (by omega) (by omega),hW _ (by omega) (by omega),hr];unfold val;rw[qao (by omega)]
 ·refine ae (by rw[←Ab];simp) ?_;refine gK ?_;refine aX ?_;simp(disch:=omega) only[fu,zc,aaZ,YG,hW];rw[hr];unfold val;rw[qai (by omega)]
theorem yL {b:Int} (h:Letter b):0≤val b∧val b≤40:=by
 unfold Letter at h;unfold val;split<;>omega
theorem wA {s:List UInt8}:∀{n:Nat},(∀k,k<n→Letter (at_ s k))→0≤summed s n∧summed s n≤40*(2^n-1)
 |0,_=>by simp[summed]
 |n+1,h=>by
  obtain⟨h1,h2⟩:=wA (n:=n) (fun k hk=>h k (by omega));have hv:=yL (h n (by omega));simp only[summed];have hp:(0:Int)<2^n:=Int.pow_pos (by decide);have h3:0≤val (at_ s n)*2^n:=Int.mul_nonneg hv.1 (by omega);have h4:val (at_ s n)*2^n≤40*2^n:=qcY hv.2 (by omega);rw[Int.pow_succ];omega
theorem J6 {s:List UInt8} {r:Int} (hs:∀k,k<s.length→Letter (at_ s k)) (hl:s.length≤10) (hr:r=48+summed s s.length%11%10):pC mx 320 [.str s] (.int .u8 r):=by
 refine pZ Ns ?_;intro _ Bv
 iterate 45 intro _
 intro aa0 _ _ _ Vq
 iterate 49 intro _
 intro Ab lB tV Ci _ yy J5 _ mc km me oZ sg _ _ _ _ _ cP cY df aw bu mz _ _ _ _ zI aU aV bC bA ag aC;refine gK ?_;refine bQ [0,3,7,8,9] [] (fun v σ_=>σ_.put (some 3) (.pv (.int .i64 (summed s v)))|>.put (some 9) (.pv (.int .i64 (Int.ofNat v)))) (s.length) (fun k=>True) ?_;intro v hv hk
 try dsimp only
 generalize hm:summed s v=m;refine ej ?_;have LU:=wA (s:=s) (n:=v) (fun k hk=>hs k (by omega));rw[hm]at LU;refine bp.af (fun hd=>?_) (fun hd=>?_)
 ·have aT:v<s.length:=by rw[←aC,←zI]at hd;simp at hd;omega
  have qC:lB (Int.ofNat v) s:=by rw[←mc];simp;omega
  obtain⟨b_s,kA⟩:∃b,b=at_ s v:=⟨_,rfl⟩
  have Cj:0≤b_s∧b_s<256:=by rw[kA];exact wm _ _
  have qD:km s (Int.ofNat v)=b_s:=by rw[←me,kA];rfl
  have Vr:=hs v aT;rw[←kA]at Vr;have aa1:=yL Vr;obtain⟨x,hx⟩:∃x,x=val b_s:=⟨_,rfl⟩;rw[←hx]at aa1;have hp9:=DU (v:=v) (by omega);have hmul:=JV aa1 (v:=v) (by omega)
  have hz:summed s (v+1)=m+x*2^v:=by simp only[summed];rw[hm,←kA,←hx]
  obtain⟨z,hz'⟩:∃z,z=summed s (v+1):=⟨_,rfl⟩;refine aY ?_;refine ae qC ?_;rw[qD];refine gK ?_;refine ao (by cbv) (J4 Vr hx) (fun h=>by first|rfl|cases h) ?_;refine gK ?_;refine ae (by rw[←Vq];simp) ?_
  have hshl:Bv .i64 x (Int.ofNat v)=x*2^v:=by
   rw[←aa0];show IntKind.wrap .i64 (x*2^(min (Int.ofNat v).toNat IntKind.i64.bits))=_;rw[show min (Int.ofNat v).toNat IntKind.i64.bits=v by simp[IntKind.bits];omega,dy (by omega) (by omega)]
  have AD:bu .i64 (df m (Bv .i64 x (Int.ofNat v)))=z:=by
   rw[hshl,←mz,←aw];simp only[n9,kT];rw[hz',hz,dy]<;>omega
  refine gK ?_;refine ta ⟨aT,trivial,?_⟩;rw[AD,←hz'];rw[wS mz aw (v:=v) (by omega)]
  cbv
 ·have aT:v=s.length:=by rw[←aC,←zI]at hd;simp at hd;omega
  have hpw:(2:Int)^v≤1024:=by
   have h1:v=0∨v=1∨v=2∨v=3∨v=4∨v=5∨v=6∨v=7∨v=8∨v=9∨v=10:=by omega
   rcases h1 with h|h|h|h|h|h|h|h|h|h|h<;>rw[h]<;>decide
  have zc:∀x y,df x y=x+y:=fun _ _=>by rw[←aw];rfl
  have fu:∀x y,cP x y=x-y:=fun _ _=>by rw[←cY];rfl
  have hmul:∀x y,tV x y=x*y:=fun _ _=>by rw[←Ci];rfl
  have aaZ:∀x y,0≤x→yy x y=x/y:=fun _ _ h=>by rw[←J5];exact qbj h
  have Vp:∀x y,0≤x→oZ x y=x%y:=fun _ _ h=>by rw[←sg];exact qa8 h
  have hW:∀x,-9223372036854775808≤x→x<9223372036854775808→bu .i64 x=x:=fun _ h1 h2=>by rw[←mz];exact dy h1 h2
  have YG:∀x,0≤x→x<256→bu .u8 x=x:=fun _ h1 h2=>by rw[←mz];exact Zx h1 h2
  refine aY ?_;refine wW rfl ?_;refine gK ?_;refine ae (by rw[←Ab];simp) ?_;refine gK ?_;refine ae (by rw[←Ab];simp) ?_;refine gK ?_;refine aX ?_;rw[Vp m _ (by omega),Vp _ _ (by omega),zc,hW _ (by omega) (by omega),YG _ (by omega) (by omega),hr,←aT,hm]
theorem tZ {s:List UInt8} {n:Nat}:∀{k:Nat},k≤n→summed (s.take n) k=summed s k
 |0,_=>rfl
 |k+1,h=>by
  simp only[summed];rw[tZ (k:=k) (by omega)]
  congr 2
  unfold at_;simp only[qab,qch,show k<n by omega,qao]
noncomputable def wB (s:List UInt8):Int:=if s.length=11∧ra s then(if 48+summed s 10%11%10=at_ s 10 then 0 else 31)else 30
theorem D6 {s:List UInt8}:wB s=0↔hU s:=by
 unfold wB hU;split
 ·rename_i h;split
  ·rename_i h2;exact⟨fun _=>⟨h.1,h.2,by omega⟩,fun _=>rfl⟩
  ·rename_i h2;exact⟨fun h3=>by omega,fun h3=>absurd h3.2.2 (by omega)⟩
 ·rename_i h;exact⟨fun h3=>by omega,fun h3=>absurd ⟨h3.1,h3.2.1⟩ h⟩
theorem J7 {s:List UInt8} {e:Int} (hr:e=wB s):pC mx 292 [.str s] (.int .i64 e):=by
 unfold wB at hr;refine pZ Nt ?_
 iterate 90 intro _
 intro aa2 zw Vs
 iterate 16 intro _
 intro mc km me
 iterate 17 intro _
 intro zI aU aV bC bA ag aC;refine gK ?_;refine bp.af (fun h1=>?_) (fun h1=>?_)
 ·replace h1:=eE h1
  refine aY ?_;refine aX ?_;rw[hr,qai (fun h=>by omega)]
 ·replace h1:=eE h1
  have hlen:s.length=11:=by omega
  refine aY ?_;refine cU (by cbv) (Hm (by omega) rfl) (fun h=>?_) (fun h=>?_)<;>simp only[qae,qad]at h
  ·have hF:=h.2;obtain⟨t,ht⟩:∃t,t=s.take 10:=⟨_,rfl⟩
   have X0:t.length=10:=by rw[ht];simp;omega
   have pY:∀k,k<10→at_ t k=at_ s k:=fun k hk=>by
    rw[ht];unfold at_;simp only[qab,qch,hk,qao]
   obtain⟨d,hd⟩:∃d,d=48+summed t t.length%11%10:=⟨_,rfl⟩
   have HI:d=48+summed s 10%11%10:=by rw[hd,X0,ht,tZ (by omega)]
   obtain⟨b,hb⟩:∃b,b=at_ s 10:=⟨_,rfl⟩
   have Y5:km s 10=b:=by rw[←me,hb];rfl
   rw[←HI,←hb]at hr;refine gK ?_;refine ae (by rw[←aa2];simp;omega) ?_;rw[show zw s 0 10=t by rw[←Vs,ht];simp];refine gK ?_;refine bF (by cbv) (J6 (fun k hk=>by rw[pY k (by omega)];exact jc.letter (hF k (by omega))) (by omega) hd) (fun h=>by first|rfl|cases h) ?_;refine gK ?_;refine ae (by rw[←mc];simp;omega) ?_;rw[Y5];refine gK ?_
   repeat' (first|refine gH ?_|(refine iE (fun hc=>?_) (fun hc=>?_)<;>(try simp at hc)<;>(try(exfalso;omega))))
   all_goals(refine aX ?_)
   ·rw[hr,qao ⟨hlen,hF⟩,qai (by omega)]
   ·rw[hr,qao ⟨hlen,hF⟩,qao (by omega)]
  ·refine gK ?_;refine aX ?_;rw[hr,qai (fun h'=>h ⟨by omega,h'.2⟩)]
theorem Vt {s:List UInt8} {r:Bool} (hr:r=decide (hU s)):pC mx 230 [.str s] (.bool r):=by
 obtain⟨e,he⟩:∃e,e=wB s:=⟨_,rfl⟩;have jr:=D6 (s:=s);rw[←he]at jr;refine pZ Nu ?_
 iterate 129 intro _
 intro zI aU aV bC bA ag aC;refine gK ?_;refine ao (by cbv) (J7 he) (fun h=>by first|rfl|cases h) ?_;refine gK ?_
 repeat' (first|refine gH ?_|(refine iE (fun hc=>?_) (fun hc=>?_)<;>(try simp at hc)<;>(try(exfalso;omega))))
 all_goals(refine aX ?_)
 all_goals first|exact tr hr (jr.1 (by omega))|exact fa hr (fun h=>by have:=jr.2 h;omega)
theorem J8 {n lo hi:Int} {r:Bool} (hr:r=decide (In n lo hi)):pC mx 228 [.int .i64 n,.int .i64 lo,.int .i64 hi] (.bool r):=by
 refine pZ Ni ?_
 iterate 129 intro _
 intro zI aU aV bC bA ag aC;refine gK ?_
 repeat' (first|refine gH ?_|(refine iE (fun hc=>?_) (fun hc=>?_)<;>(try simp at hc)<;>(try(exfalso;omega))))
 all_goals(refine aX ?_)
 all_goals first|exact tr hr ⟨by assumption,by assumption⟩|(refine fa hr ?_;rintro⟨h1,h2⟩;omega)
theorem Oz {size r:Int} (hr:r=most size):pC mx 233 [.int .u8 size] (.int .i64 r):=by
 unfold most at hr;refine pZ Nx ?_
 iterate 129 intro _
 intro zI aU aV bC bA ag aC;refine gK ?_
 repeat' (first|refine gH ?_|(refine iE (fun hc=>?_) (fun hc=>?_)<;>(try simp at hc)<;>(try(exfalso;omega))))
 all_goals(refine aX ?_)
 all_goals(subst hr;(repeat' split)<;>first|rfl|(exfalso;omega)|contradiction)
theorem aa3 {id:Int} {num:List UInt8} {size:Int} {high:Bool} {cD load oz cls:Int} {cK:Bool} {r:Bool} (hr:r=decide (In id 1 999999)):pC mx 227 [.ptr [.int .i64 id,.str num,.int .u8 size,.bool high,.int .i64 cD,.int .i64 load,.int .i64 oz,.int .u8 cls,.bool cK]] (.bool r):=by
 refine pZ Nj ?_
 iterate 129 intro _
 intro zI aU aV bC bA ag aC;refine gK ?_;refine cU (by cbv) (J8 hr) (fun h=>?_) (fun h=>?_)
 all_goals
  refine gK ?_;refine aX ?_;rw[h]
theorem aa4 {id:Int} {num:List UInt8} {size:Int} {high:Bool} {cD load oz cls:Int} {cK:Bool} {r:Bool} (hr:r=decide (num=[]∨hU num)):pC mx 229 [.ptr [.int .i64 id,.str num,.int .u8 size,.bool high,.int .i64 cD,.int .i64 load,.int .i64 oz,.int .u8 cls,.bool cK]] (.bool r):=by
 refine pZ Nv ?_
 iterate 129 intro _
 intro zI aU aV bC bA ag aC;refine gK ?_;refine bp.af (fun h1=>?_) (fun h1=>?_)
 ·replace h1:=eE h1
  refine aY ?_;refine aX ?_;exact tr hr (Or.inl h1)
 ·replace h1:=eE h1
  refine aY ?_;refine cU (by cbv) (Vt rfl) (fun h=>?_) (fun h=>?_)<;>simp only[qae,qad]at h
  ·refine gK ?_;refine aX ?_;exact tr hr (Or.inr h)
  ·refine gK ?_;refine aX ?_;refine fa hr ?_;rintro(h2|h2)
   ·exact h1 h2
   ·exact h h2
theorem aa5 {id:Int} {num:List UInt8} {size:Int} {high:Bool} {cD load oz cls:Int} {cK:Bool} {r:Bool} (hr:r=decide (high=true→size=40)):pC mx 231 [.ptr [.int .i64 id,.str num,.int .u8 size,.bool high,.int .i64 cD,.int .i64 load,.int .i64 oz,.int .u8 cls,.bool cK]] (.bool r):=by
 cases high
 all_goals
  refine pZ Nw ?_
  iterate 129 intro _
  intro zI aU aV bC bA ag aC;refine gK ?_
  repeat' (first|refine gH ?_|(refine iE (fun hc=>?_) (fun hc=>?_)<;>(try simp at hc)<;>(try(exfalso;omega))))
  all_goals(refine aX ?_)
  all_goals first|(refine tr hr (fun h=>?_);first|assumption|(cases h))|(refine fa hr (fun h=>?_);have:=h rfl;contradiction)
theorem aa6 {id:Int} {num:List UInt8} {size:Int} {high:Bool} {cD load oz cls:Int} {cK:Bool} {r:Bool} (hr:r=decide (In cD 1 (most size))):pC mx 232 [.ptr [.int .i64 id,.str num,.int .u8 size,.bool high,.int .i64 cD,.int .i64 load,.int .i64 oz,.int .u8 cls,.bool cK]] (.bool r):=by
 obtain⟨m,hm⟩:∃m,m=most size:=⟨_,rfl⟩;rw[←hm]at hr;refine pZ Ny ?_
 iterate 129 intro _
 intro zI aU aV bC bA ag aC;refine gK ?_;refine bF (by cbv) (Oz hm) (fun h=>by first|rfl|cases h) ?_;refine gK ?_;refine gG (by cbv) (J8 hr) (fun h=>?_) (fun h=>?_)
 all_goals
  refine gK ?_;refine aX ?_;rw[h]
theorem aa7 {id:Int} {num:List UInt8} {size:Int} {high:Bool} {cD load oz cls:Int} {cK:Bool} {r:Bool} (hr:r=decide (0≤load∧load<oz∧oz<20)):pC mx 234 [.ptr [.int .i64 id,.str num,.int .u8 size,.bool high,.int .i64 cD,.int .i64 load,.int .i64 oz,.int .u8 cls,.bool cK]] (.bool r):=by
 refine pZ Nz ?_
 iterate 129 intro _
 intro zI aU aV bC bA ag aC;refine gK ?_
 repeat' (first|refine gH ?_|(refine iE (fun hc=>?_) (fun hc=>?_)<;>(try simp at hc)<;>(try(exfalso;omega))))
 all_goals(refine aX ?_)
 all_goals first|(refine tr hr ?_;omega)|(refine fa hr ?_;omega)
theorem aa8 {id:Int} {num:List UInt8} {size:Int} {high:Bool} {cD load oz cls:Int} {cK:Bool} {r:Bool} (hr:r=decide (cls≤9)):pC mx 235 [.ptr [.int .i64 id,.str num,.int .u8 size,.bool high,.int .i64 cD,.int .i64 load,.int .i64 oz,.int .u8 cls,.bool cK]] (.bool r):=by
 refine pZ NA ?_
 iterate 129 intro _
 intro zI aU aV bC bA ag aC;refine gK ?_
 repeat' (first|refine gH ?_|(refine iE (fun hc=>?_) (fun hc=>?_)<;>(try simp at hc)<;>(try(exfalso;omega))))
 all_goals(refine aX ?_)
 all_goals first|(refine tr hr ?_;omega)|(refine fa hr ?_;omega)
theorem OA {f:FuncId} {cs:List PV} {b:Bool} (hf:pC mx f [.ptr cs] (.bool b)) {r:Bool} (hr:r= !b):pC mx 237 [.gM f [.ptr cs]] (.bool r):=by
 refine pZ NB ?_
 iterate 129 intro _
 intro zI aU aV bC bA ag aC;refine gK ?_;refine cU (by cbv) hf (fun h=>?_) (fun h=>?_)
 all_goals
  refine gK ?_;refine aX ?_;rw[hr,h];rfl
theorem D7 {l:List (FuncId×Bool)} {cs:List PV} {rows sp:List (List PV)} {r:Int} (eS:rows=l.map fun x=>[.gM x.1 [.ptr cs]]) (hl:l.length<2^32) (hf:∀x∈l,pC mx x.1 [.ptr cs] (.bool x.2)) (hr:eW (fun k=>∃h:k<l.length,l[k].2=false) l.length r):
  pC mx 293 [.sl rows sp,.gM 237 []] (.int .i64 r):=by
 have hlen:rows.length=l.length:=by simp[eS]
 refine pZ Ng ?_
 iterate 122 intro _
 intro aw _ mz aI aQ aJ aP zI aU aV bC bA ag aC;refine gK ?_;refine bQ [0,1,6,7,8] [] (fun v σ_=>σ_.put (some 8) (.pv (.int .i64 (Int.ofNat v)))) (l.length) (fun k=>(∀h:k<l.length,l[k].2=true)) ?_;intro v hv hk;refine ej ?_;refine bp.af (fun hd=>?_) (fun hd=>?_)
 ·have aT:v<l.length:=by rw[←aC,←ag]at hd;simp at hd;omega
  obtain⟨⟨f,b⟩,hx⟩:∃x,l[v]=x:=⟨_,rfl⟩;have hc:=hf _ (qaf aT);rw[hx]at hc
  have ec:aJ (Int.ofNat v) rows 1:=by rw[←aP,eS];exact aO (enc:=fun x:FuncId×Bool=>[PV.gM x.1 [.ptr cs]]) aT rfl
  have bK:aI rows (Int.ofNat v)=[.gM f [.ptr cs]]:=by rw[←aQ,eS,aN (enc:=fun x:FuncId×Bool=>[PV.gM x.1 [.ptr cs]]) aT,hx]
  refine aY ?_;refine ae ec ?_;rw[bK];refine gK ?_;refine cU (by cbv) (OA hc rfl) (fun h=>?_) (fun h=>?_)
  ·refine gK ?_;refine dS ?_;rw[hr.at aT ⟨aT,by rw[hx];simpa using h⟩ (fun k eR h'=>by have:=hk k eR h'.1;rw[h'.2]at this;cases this)]
  ·refine gK ?_;refine ta ⟨aT,fun _=>by rw[hx];simpa using h,?_⟩;rw[wS mz aw (v:=v) (by omega)]
   cbv
 ·have aT:v=l.length:=by rw[←aC,←ag]at hd;simp at hd;omega
  refine aY ?_;refine wW rfl ?_;refine gK ?_;refine aX ?_;rw[hr.none (fun k eR h'=>by have:=hk k (by omega) h'.1;rw[h'.2]at this;cases this)]
theorem D8 {l:List (FuncId×Bool)} {cs:List PV} {rows sp:List (List PV)} {r:Bool} (eS:rows=l.map fun x=>[.gM x.1 [.ptr cs]]) (hl:l.length<2^32) (hf:∀x∈l,pC mx x.1 [.ptr cs] (.bool x.2)) (hr:r=decide (∃x∈l,x.2=false)):
  pC mx 236 [.sl rows sp,.gM 237 []] (.bool r):=by
 obtain⟨n,hn⟩:=eW.ex (fun k=>∃h:k<l.length,l[k].2=false) l.length
 have jr:0≤n↔∃x∈l,x.2=false:=by
  rw[hn.iff];constructor
  ·rintro⟨v,h1,h2,h3⟩;exact⟨_,qaf h2,h3⟩
  ·rintro⟨x,hx,h2⟩;obtain⟨v,h3,h4⟩:=qaI hx;exact⟨v,h3,h3,by rw[h4];exact h2⟩
 refine pZ Nh ?_
 iterate 129 intro _
 intro zI aU aV bC bA ag aC;refine gK ?_;refine ao (by cbv) (D7 eS hl hf hn) (fun h=>by first|rfl|cases h) ?_;refine gK ?_
 repeat' (first|refine gH ?_|(refine iE (fun hc=>?_) (fun hc=>?_)<;>(try simp at hc)<;>(try(exfalso;omega))))
 all_goals(refine aX ?_)
 all_goals first|exact tr hr (jr.1 (by omega))|exact fa hr (fun h=>by have:=jr.2 h;omega)
theorem D9 {x:bw} {cs:List PV} (hcs:cs=x.enc) {r:Bool} (hr:r=decide (iL x)):pC mx 140 [.agg cs] (.bool r):=by
 subst hcs;obtain⟨id,num,size,high,cD,load,oz,cls,cK⟩:=x;show pC mx 140 [.agg [.int .i64 id,.str num,.int .u8 size,.bool high,.int .i64 cD,.int .i64 load,.int .i64 oz,.int .u8 cls,.bool cK]] (.bool r);obtain⟨cs,hcs⟩:∃cs:List PV,cs=[.int .i64 id,.str num,.int .u8 size,.bool high,.int .i64 cD,.int .i64 load,.int .i64 oz,.int .u8 cls,.bool cK]:=⟨_,rfl⟩;obtain⟨l,xH⟩:∃l:List (FuncId×Bool),l=[(227,decide (In id 1 999999)),(229,decide (num=[]∨hU num)),(231,decide (high=true→size=40)),(232,decide (In cD 1 (most size))),(234,decide (0≤load∧load<oz∧oz<20)),(235,decide (cls≤9))]:=⟨_,rfl⟩
 have hf:∀x∈l,pC mx x.1 [.ptr cs] (.bool x.2):=by
  intro x hx;rw[xH]at hx;simp only[qam,qaB,qa7]at hx;rw[hcs]
  rcases hx with rfl|rfl|rfl|rfl|rfl|rfl
  ·exact aa3 rfl
  ·exact aa4 rfl
  ·exact aa5 rfl
  ·exact aa6 rfl
  ·exact aa7 rfl
  ·exact aa8 rfl
 have aa9:(∃x∈l,x.2=false)↔¬iL ⟨id,num,size,high,cD,load,oz,cls,cK⟩:=by
  constructor
  ·rintro⟨x,hx,h⟩ ⟨h1,h2,h3,h4,h5,h6⟩;rw[xH]at hx;simp only[qam,qaB,qa7]at hx
   rcases hx with rfl|rfl|rfl|rfl|rfl|rfl
   ·exact qbL h h1
   ·exact qbL h h2
   ·exact qbL h h3
   ·exact qbL h h4
   ·exact qbL h h5
   ·exact qbL h h6
  ·intro h
   refine qaC fun hn=>h ⟨?_,?_,?_,?_,?_,?_⟩
   ·exact qaC fun hc=>hn ⟨(227,decide (In id 1 999999)),by rw[xH];simp,qa4 hc⟩
   ·exact qaC fun hc=>hn ⟨(229,decide (num=[]∨hU num)),by rw[xH];simp,qa4 hc⟩
   ·exact qaC fun hc=>hn ⟨(231,decide (high=true→size=40)),by rw[xH];simp,qa4 hc⟩
   ·exact qaC fun hc=>hn ⟨(232,decide (In cD 1 (most size))),by rw[xH];simp,qa4 hc⟩
   ·exact qaC fun hc=>hn ⟨(234,decide (0≤load∧load<oz∧oz<20)),by rw[xH];simp,qa4 hc⟩
   ·exact qaC fun hc=>hn ⟨(235,decide (cls≤9)),by rw[xH];simp,qa4 hc⟩
 obtain⟨q,hq⟩:∃q:Bool,q=decide (∃x∈l,x.2=false):=⟨_,rfl⟩;have px:=D8 (mx:=mx) (sp:=[]) (rows:=[[.gM 227 [.ptr cs]],[.gM 229 [.ptr cs]],[.gM 231 [.ptr cs]],[.gM 232 [.ptr cs]],[.gM 234 [.ptr cs]],[.gM 235 [.ptr cs]]]) (l:=l) (cs:=cs) (by rw[xH];rfl) (by rw[xH];simp) hf hq;rw[hcs]at px;refine pZ NC ?_
 iterate 129 intro _
 intro zI aU aV bC bA ag aC;refine go 7 (by cbv) ?_;refine BA ?_;refine vW (Fg.M0 (id:=1) rfl rfl (by cbv)) ?_;refine gK ?_;refine cU (by cbv) px (fun h=>?_) (fun h=>?_)
 ·refine gK ?_;refine aX ?_;refine fa hr ?_;exact aa9.1 (qaZ (hq.symm.trans h))
 ·refine gK ?_;refine aX ?_;exact tr hr (qaC fun hn=>qbL (hq.symm.trans h) (aa9.2 hn))
def fY (l:List bw):Nat→List (List PV)
 |0=>[]
 |n+1=>match l[n]? with
  |none=>fY l n
  |some b=>match b.number with
   |[]=>fY l n
   |c::r=>fY l n++[[.str (c::r),.int .i64 (Int.ofNat n)]]
theorem lH {l:List bw} {r:List PV}:∀{n:Nat},r∈fY l n→∃k,k<n∧∃h:k<l.length,l[k].number≠[]∧r=[.str l[k].number,.int .i64 (Int.ofNat k)]
 |0,h=>by simp[fY]at h
 |n+1,h=>by
  unfold fY at h;split at h
  ·obtain⟨k,h1,h2⟩:=lH h;exact⟨k,by omega,h2⟩
  ·rename_i b hb;obtain⟨hn,fP⟩:=qat.1 hb;split at h
   ·obtain⟨k,h1,h2⟩:=lH h;exact⟨k,by omega,h2⟩
   ·rename_i c q afs
    rcases qav.1 h with h|h
    ·obtain⟨k,h1,h2⟩:=lH h;exact⟨k,by omega,h2⟩
    ·rw[qaO]at h;exact⟨n,by omega,hn,by rw[fP,afs];simp,by rw[fP,afs];exact h⟩
theorem wC {l:List bw}:∀{n k:Nat},k<n→∀h:k<l.length,l[k].number≠[]→[PV.str l[k].number,.int .i64 (Int.ofNat k)]∈fY l n
 |0,k,h,_,_=>by omega
 |n+1,k,h,hk,MB=>by
  unfold fY
  by_cases e:k=n
  ·subst e;rw[qag hk];simp only
   cases afs:l[k].number with
   |nil=>exact absurd afs MB
   |cons c r=>simp
  ·have:=wC (n:=n) (by omega) hk MB;split
   ·exact this
   ·split
    ·exact this
    ·exact qcU _ this
theorem ua {l:List bw} {n:Nat} {s:List UInt8}:dQ 1 (fY l n) [.str s]=true↔s≠[]∧∃k,k<n∧∃h:k<l.length,l[k].number=s:=by
 unfold dQ;rw[List.any_eq_true];constructor
 ·rintro⟨r,h1,h2⟩;obtain⟨k,h3,h4,h5,rfl⟩:=lH h1;simp[JK]at h2;subst h2;exact⟨h5,k,h3,h4,rfl⟩
 ·rintro⟨h0,k,h1,h2,rfl⟩;exact⟨_,wC h1 h2 h0,by simp[JK]⟩
theorem J9 {l:List bw} {n:Nat} {s:List UInt8}:aF.CZ [2] 1 (fY l n) [.str s]:=by
 refine⟨rfl,by simp[aR],fun r hr=>?_⟩;obtain⟨k,h3,h4,h5,rfl⟩:=lH hr;simp[aR]
theorem Ea {l:List bw} {v:Nat} (h:v<l.length) (hn:l[v].number=[]):fY l (v+1)=fY l v:=by
 simp only[fY,qag h,hn]
theorem Cp {l:List bw} {v:Nat} (h:v<l.length) (hn:l[v].number≠[]):fY l (v+1)=fY l v++[[.str l[v].number,.int .i64 (Int.ofNat v)]]:=by
 simp only[fY,qag h]
 cases hq:l[v].number with
 |nil=>exact absurd hq hn
 |cons c r=>rfl
theorem Ka {rows sp:List (List PV)} {l:List bw} {i e:Int} (hr:rows=l.map bw.enc) (dD:ib l i e):pC mx 63 [.sl rows sp] (.eN [.int .i64 i,.int .i64 e]):=by
 have hlen:rows.length=l.length:=by simp[hr]
 refine pZ Jt ?_
 iterate 33 intro _
 intro zm
 iterate 27 intro _
 intro Kb
 iterate 12 intro _
 intro zu Vu
 iterate 12 intro _
 intro yw Kc
 iterate 32 intro _
 intro aw _ mz aI aQ aJ aP zI aU aV bC bA ag aC;refine gK ?_;refine bp.af (fun h1=>?_) (fun h1=>?_)
 ·replace h1:=eE h1
  refine aY ?_;refine aX ?_
  rcases dD with⟨h,rfl,rfl⟩|⟨h,_⟩|⟨h,_⟩
  ·rfl
  ·omega
  ·omega
 ·replace h1:=eE h1
  have LI:l.length≤2000:=by omega
  obtain⟨last,vx⟩:∃f:Nat→Int,f=fun v=>if v=0 then 0 else match l[v-1]? with|some b=>b.id|none=>0:=⟨_,rfl⟩
  have Vv:last 0=0:=by rw[vx];rfl
  have Eb:∀v (h:v<l.length),last (v+1)=l[v].id:=fun v h=>by rw[vx];simp[h]
  obtain⟨sn,Xb⟩:∃f:Nat→List (List PV),f=fY l:=⟨_,rfl⟩
  have hsn0:sn 0=[]:=by rw[Xb];rfl
  refine aY ?_;refine jJ (fun v σ_=>(((σ_.tidy [4,5,14,15,16] (nn [13,13])).put (some 5) (.pv (.int .i64 (last v)))).put (some 16) (.pv (.int .i64 (Int.ofNat v)))).aq 13 (.map false false 1 (sn v))) l.length (fun k=>nf l k) (by rw[Vv,hsn0];exact Fg.ca [4,5,14,15,16] (nn [13,13]) rfl (by cbv)) ?_;intro v hv hk
  try dsimp only
  generalize hm:sn v=m;generalize hq:last v=q;refine ej ?_;refine bp.af (fun hd=>?_) (fun hd=>?_)
  ·have aT:v<l.length:=by rw[←aC,←ag]at hd;simp at hd;omega
   obtain⟨gI,bj⟩:∃x,l[v]=x:=⟨_,rfl⟩
   have bG:aJ (Int.ofNat v) rows 9:=by rw[←aP,hr];exact aO (enc:=bw.enc) aT rfl
   obtain⟨⟨iN,fO,eZ,Ut,eG,eA,gi,jl,dI⟩,bW⟩:∃y,gI=y:=⟨_,rfl⟩;subst bW
   have aW:aI rows (Int.ofNat v)=[.int .i64 iN,.str fO,.int .u8 eZ,.bool Ut,.int .i64 eG,.int .i64 eA,.int .i64 gi,.int .u8 jl,.bool dI]:=by rw[←aQ,hr,aN (enc:=bw.enc) aT,bj];rfl
   have bad:¬nf l v→i=Int.ofNat v∧e=60:=fun h=>dD.bad LI aT hk h
   have sw:yw [2] 1 m [.str fO]:=by rw[←Kc,←hm,Xb];exact J9
   refine aY ?_;refine ae bG ?_;rw[aW];refine gK ?_;refine ae sw ?_
   cases hh:zm 1 m [.str fO]
   rotate_left
   ·rw[←Kb,←hm,Xb]at hh;obtain⟨hh1,k,XJ,hh3,hh4⟩:=ua.1 hh;refine gK ?_;refine dS ?_;obtain⟨rfl,rfl⟩:=bad (fun hb=>(hb aT).2.1 k XJ (by rw[bj];exact hh1) (by rw[bj];exact hh4));rfl
   ·rw[←Kb,←hm,Xb]at hh
    have ae6:∀k,(eR:k<v)→(fO≠[]→l[k].number≠fO):=fun k eR h1 h2=>by
     rw[show aF.yU 1 (fY l v) [.str fO]=true from ua.2 ⟨h1,k,eR,by omega,h2⟩]at hh
     cases hh
    refine gK ?_;refine bp.af (fun h2=>?_) (fun h2=>?_)
    ·replace h2:=eE h2
     refine aY ?_;refine dS ?_
     obtain⟨rfl,rfl⟩:=bad (fun hb=>by
      have h3:=hb aT;rw[bj]at h3
      by_cases e0:v=0
      ·subst e0;have:=h3.1.1.1;dsimp only at this;omega
      ·obtain⟨w,rfl⟩:∃w,v=w+1:=⟨v-1,by omega⟩;have:=h3.2.2 (by omega) (by omega);rw[Eb w (by omega)]at hq;simp only[qbp]at this
       try dsimp only at this
       omega)
     rfl
    ·replace h2:=eE h2
     have hid:v≠0→∀hk:v-1<l.length,l[v-1].id<iN:=fun h0 _=>by
      obtain⟨w,rfl⟩:∃w,v=w+1:=⟨v-1,by omega⟩;rw[Eb w (by omega)]at hq;simp only[qbp];rw[hq];exact h2
     refine aY ?_;refine cU (by cbv) (D9 (x:=⟨iN,fO,eZ,Ut,eG,eA,gi,jl,dI⟩) rfl rfl) (fun h=>?_) (fun h=>?_)<;>simp only[qae,qad]at h
     ·have eL:nf l v:=fun _=>⟨by rw[bj];exact h,fun k eR=>by rw[bj];exact ae6 k eR,fun h0 h1=>by rw[bj];exact hid h0 h1⟩
      have hlv:last (v+1)=iN:=by rw[Eb v aT,bj]
      refine gK ?_;refine bp.af (fun h3=>?_) (fun h3=>?_)
      ·replace h3:=eE h3
       have CR:zu 1 m [.str fO] [.int .i64 (Int.ofNat v)]=sn (v+1):=by
        rw[←Vu,←hm,Xb,Cp aT (by rw[bj];exact h3),bj];show(match dQ 1 (fY l v) [.str fO]with|true=>_|false=>_)=_;rw[show dQ 1 (fY l v) [.str fO]=false from hh];rfl
       refine aY ?_;refine ae sw ?_;refine gK ?_;refine ta ⟨aT,eL,?_⟩;rw[CR,hlv];rw[wS mz aw (v:=v) (by omega)];exact Fg.ca [4,5,14,15,16] (nn [13,13]) rfl (by cbv)
      ·replace h3:=eE h3
       have CR:m=sn (v+1):=by rw[←hm,Xb,Ea aT (by rw[bj];exact h3)]
       refine aY ?_;refine ta ⟨aT,eL,?_⟩;rw[hlv,←CR];rw[wS mz aw (v:=v) (by omega)];exact Fg.ca [4,5,14,15,16] (nn [13,13]) rfl (by cbv)
     ·refine gK ?_;refine dS ?_;obtain⟨rfl,rfl⟩:=bad (fun hb=>h (by have:=(hb aT).1;rw[bj]at this;exact this));rfl
  ·have aT:v=l.length:=by rw[←aC,←ag]at hd;simp at hd;omega
   refine aY ?_;refine wW rfl ?_;refine gK ?_;refine aX ?_;obtain⟨rfl,rfl⟩:=dD.Hh LI (fun k h=>hk k (by omega));rfl
end Go.bt
end
