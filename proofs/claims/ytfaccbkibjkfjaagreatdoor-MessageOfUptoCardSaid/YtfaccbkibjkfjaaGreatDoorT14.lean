import Derived.Test.YtfaccbkibjkfjaaGreatDoorT11
import Derived.Test.YtfaccbkibjkfjaaGreatDoorT12
import Derived.Test.YtfaccbkibjkfjaaGreatDoorT41
set_option linter.all false
set_option maxRecDepth 100000
set_option maxHeartbeats 1000000
section
open Go Go.Am Go.Proofs
attribute [local irreducible] Am.bp.holds bH fw bP ek
namespace Go.b8
variable {mx:Int}
open Classical
def tc (p:List UInt8) (a d:Int):Prop:=yH p∧(0≤a∧a≤100000000)∧(0≤d∧d≤500000)
theorem DT {p:List UInt8} {a d:Int} {r:Bool} (hr:r=decide (tc p a d)):pC mx 115 [.agg [.str p,.int .i64 a,.int .i64 d]] (.bool r):=by
 refine pZ MI ?_
 iterate 102 intro _
 intro lB _ _ _ _ _ _ mc km me
 iterate 10 intro _
 intro aw _ ah _ _ _ _ aB aU aV bC bA ag aC;refine gK ?_
 repeat' (first|refine gH ?_|refine bp.af (fun hc=>?_) (fun hc=>?_))
 all_goals try(refine aX ?_;refine fa hr ?_;rintro⟨⟨h1,-⟩,h2,h3⟩;subst_vars;simp at*;omega)
 have h5:p.length=5∧(0≤a∧a≤100000000)∧(0≤d∧d≤500000):=by subst_vars;simp at*;omega
 refine bQ [1,3] [none,some 1] (fun v σ_=>σ_.put (some 3) (.pv (.int .i64 (Int.ofNat v)))) (5) (fun k=>(65≤at_ p k∧at_ p k≤90)) ?_;intro v hv hk;refine ej ?_;refine bp.af (fun hd=>?_) (fun hd=>?_)
 ·have aT:v<5:=by rw[←aC]at hd;simp at hd;omega
  have RZ:lB (Int.ofNat v) p:=by rw[←mc];simp;omega
  obtain⟨b_p,aaQ⟩:∃b,b=at_ p v:=⟨_,rfl⟩
  have hlt_p:0≤b_p∧b_p<256:=by rw[aaQ];exact wm _ _
  have R0:km p (Int.ofNat v)=b_p:=by rw[←me,aaQ];rfl
  refine aY ?_;refine ae RZ ?_;rw[R0];refine gK ?_;refine bp.af (fun hg=>?_) (fun hg=>?_)
  ·refine aY ?_;refine dS ?_;refine fa hr ?_;rintro⟨⟨_,h1⟩,-⟩;have:=h1 v (by omega);subst_vars;simp at hg;omega
  ·refine aY ?_;refine ae RZ ?_;rw[R0];refine gK ?_;refine bp.af (fun hg2=>?_) (fun hg2=>?_)
   ·refine aY ?_;refine dS ?_;refine fa hr ?_;rintro⟨⟨_,h1⟩,-⟩;have:=h1 v (by omega);subst_vars;simp at hg2;omega
   ·refine aY ?_;refine ak ⟨aT,by subst_vars;simp at hg hg2;omega,?_⟩;rw[wS ah aw (v:=v) (by omega)]
    cbv
 ·refine aY ?_;refine ar rfl ?_;refine gK ?_;refine aX ?_
  have:v=5:=by rw[←aC]at hd;simp at hd;omega
  exact tr hr ⟨⟨h5.1,fun i hi=>hk i (by omega)⟩,h5.2⟩
end Go.b8
end
section
open Go Go.Am Go.Proofs
attribute [local irreducible] Am.bp.holds bH fw bP ek
namespace Go.b8
variable {mx:Int}
open Classical
theorem z8 {k:Int} (h0:0≤k):val (65+k)=10+k+(k+9)/10:=by
 unfold val;rw[if_neg (by omega)]
 have:65+k-65=k:=by omega
 rw[this]
theorem JU {k:Int} (h0:0≤k) (h1:k≤25):val (65+(k+1))=if(val (65+k)+1)%11=0 then val (65+k)+1+1 else val (65+k)+1:=by
 rw[z8 h0,z8 (k:=k+1) (by omega)];split<;>omega
theorem Vd {k:Int} (h0:0≤k) (h1:k≤26):10≤val (65+k)∧val (65+k)≤40:=by
 rw[z8 h0];omega
theorem Hg {c:Int} {n:Nat} (hc:c=65+Int.ofNat n) (hn:n≤25) {r:Int} (hr:r=val c):pC mx 295 [.int .u8 c] (.int .i64 r):=by
 refine pZ MF ?_
 iterate 112 intro _
 intro oZ sr _ _ _ _ _ _ _ df aw bu ah _ _ _ _ aB aU aV bC bA ag aC;refine gK ?_;refine bQ [0,3,4] [] (fun v σ_=>σ_.put (some 3) (.pv (.int .i64 (val (65+Int.ofNat v))))|>.put (some 4) (.pv (.int .u8 (65+Int.ofNat v)))) (n) (fun k=>True) ?_;intro v hv hk
 try dsimp only
 generalize hm:val (65+Int.ofNat v)=m;generalize hb:65+Int.ofNat v=b;refine ej ?_;have yi:=Vd (k:=Int.ofNat v) (by simp) (by simp;omega);rw[hm]at yi;refine bp.af (fun hd=>?_) (fun hd=>?_)
 ·have aT:v<n:=by rw[←aC]at hd;subst hc hb;simp at hd;omega
  have h8:bu .u8 (df b 1)=65+Int.ofNat (v+1):=by
   rw[←ah,←aw,←hb];simp only[di,kT];rw[wr8]<;>simp<;>omega
  obtain⟨m1,h1⟩:∃x,x=m+1:=⟨_,rfl⟩;obtain⟨m2,h2⟩:∃x,x=m1+1:=⟨_,rfl⟩;have hs:=JU (k:=Int.ofNat v) (by simp) (by simp;omega);rw[hm,←h1,←h2]at hs
  have w1:bu .i64 (df m 1)=m1:=by rw[←ah,←aw,h1];simp only[di,kT];rw[dy]<;>omega
  have w2:bu .i64 (df m1 1)=m2:=by rw[←ah,←aw,h2];simp only[di,kT];rw[dy]<;>omega
  have w3:oZ m1 11=m1%11:=by rw[←sr,E4,Int.tmod_eq_emod_of_nonneg (by omega)]
  generalize m1%11=q at hs w3;refine aY ?_;refine ae (by subst_vars;simp) ?_;rw[w1,w3];refine gK ?_;refine bp.af (fun he=>?_) (fun he=>?_)
  ·rw[←bA]at he;simp at he;rw[if_pos he]at hs;refine aY ?_;refine ak ⟨aT,trivial,?_⟩;rw[h8,w2,←hs]
   cbv
  ·rw[←bA]at he;simp at he;rw[if_neg he]at hs;refine aY ?_;refine ak ⟨aT,trivial,?_⟩;rw[h8,←hs]
   cbv
 ·have aT:v=n:=by rw[←aC]at hd;subst hc hb;simp at hd;omega
  refine aY ?_;refine ar rfl ?_;refine gK ?_;refine aX ?_;rw[←hm,hr,hc,aT]
def jc (s:List UInt8) (i:Nat):Prop:=if i<3 then 65≤at_ s i∧at_ s i≤90 else if i=3 then at_ s i=85∨at_ s i=74∨at_ s i=90 else 48≤at_ s i∧at_ s i≤57
theorem Ch {s:List UInt8} {n:Nat} (hc:jc s n):0≤val (at_ s n)∧val (at_ s n)≤40:=by
 unfold jc at hc;unfold val;split at hc
 ·rw[if_neg (by omega)];omega
 ·split at hc
  ·rw[if_neg (by omega)];omega
  ·rw[if_pos (by omega)];omega
theorem DU {v:Nat} (h:v≤9):(1:Int)≤2^v∧(2:Int)^v≤512:=by
 have:v=0∨v=1∨v=2∨v=3∨v=4∨v=5∨v=6∨v=7∨v=8∨v=9:=by omega
 rcases this with rfl|rfl|rfl|rfl|rfl|rfl|rfl|rfl|rfl|rfl<;>decide
theorem JV {x:Int} {v:Nat} (hx:0≤x∧x≤40) (h:v≤9):0≤x*2^v∧x*2^v≤20480:=by
 have hp:=DU h;have h1:0≤x*2^v:=Int.mul_nonneg hx.1 (by omega);have h2:x*2^v≤40*2^v:=Int.mul_le_mul_of_nonneg_right hx.2 (by omega);omega
theorem td {s:List UInt8}:∀{n:Nat},(∀k,k<n→jc s k)→0≤summed s n∧summed s n≤40*(2^n-1)
 |0,_=>by simp[summed]
 |n+1,h=>by
  obtain⟨h1,h2⟩:=td (n:=n) (fun k hk=>h k (by omega));have hc:=h n (by omega);have hv:=Ch hc;simp only[summed];have hp:(0:Int)<2^n:=Int.pow_pos (by decide);have h3:0≤val (at_ s n)*2^n:=Int.mul_nonneg hv.1 (by omega);have h4:val (at_ s n)*2^n≤40*2^n:=Int.mul_le_mul_of_nonneg_right hv.2 (by omega);rw[Int.pow_succ];omega
theorem Aa {s:List UInt8} {r:Bool} (hr:r=decide (hU s)):pC mx 239 [.str s] (.bool r):=by
 refine pZ MG ?_
 iterate 101 intro _
 intro Ab lB tV Ci _ _ _ _ mc km me oZ sr _ _ _ _ _ cP cY df aw bu ah _ _ _ _ aB aU aV bC bA ag aC;refine gK ?_;refine bp.af (fun h1=>?_) (fun h1=>?_)
 ·refine aY ?_;refine aX ?_;refine fa hr ?_;rintro⟨h,-⟩;subst_vars;simp at h1;omega
 ·have hl:s.length=11:=by subst_vars;simp at h1;omega
  refine aY ?_;refine bQ [0,3,4] [] (fun v σ_=>σ_.put (some 3) (.pv (.int .i64 (summed s v)))|>.put (some 4) (.pv (.int .i64 (Int.ofNat v)))) (10) (fun k=>jc s k) ?_;intro v hv hk
  try dsimp only
  generalize hm:summed s v=m;refine ej ?_;refine bp.af (fun hd=>?_) (fun hd=>?_)
  ·have aT:v<10:=by rw[←aC]at hd;simp at hd;omega
   have qC:lB (Int.ofNat v) s:=by rw[←mc];simp;omega
   obtain⟨qc,kA⟩:∃b,b=at_ s v:=⟨_,rfl⟩
   have Cj:0≤qc∧qc<256:=by rw[kA];exact wm _ _
   have qD:km s (Int.ofNat v)=qc:=by rw[←me,kA];rfl
   refine aY ?_;refine ae qC ?_;rw[qD];refine gK ?_
   repeat' (first|refine gH ?_|(refine iE (fun hc=>?_) (fun hc=>?_)<;>(try simp at hc)<;>(try(exfalso;omega))))
   all_goals try(refine dS ?_;refine fa hr ?_;rintro⟨_,h,_⟩;have hq:=h v (by omega);rw[←kA]at hq;(split at hq<;>(try split at hq)<;>omega))
   all_goals first
    |(refine vR (by cbv) (Hg (n:=(qc-65).toNat) (by simp;omega) (by omega) rfl) (fun _=>rfl) ?_;intro x hx;refine gK ?_)
    |(rw[show bu .i64 (cP (bu .i64 qc) 48)=qc-48 by rw[←ah,←cY];simp only[di,iQ];rw[dy,dy]<;>(try rw[dy])<;>omega];obtain⟨x,hx⟩:∃x,val qc=x:=⟨_,rfl⟩;rw[show qc-48=x by rw[←hx];unfold val;rw[if_pos (by omega)]];skip)
   all_goals
    have eL:jc s v:=by unfold jc;rw[←kA];split<;>(try split)<;>omega
    have aaR:=Ch eL;rw[←kA,hx]at aaR
    clear qC Cj qD
    obtain⟨i,rfl⟩:∃i,i=v:=⟨v,rfl⟩;have LU:=td hk;rw[hm]at LU;have hp9:=DU (v:=i) (by omega);refine bQ [0,3,4,6,7] [] (fun v σ_=>σ_.put (some 6) (.pv (.int .i64 (x*2^v)))|>.put (some 7) (.pv (.int .i64 (Int.ofNat v)))) (i) (fun k=>True) ?_;intro v hv hk
    try dsimp only
    generalize hy:x*2^v=y;refine ej ?_;have Tx:=hy
    clear hy
    have hy:=JV aaR (v:=v) (by omega);rw[Tx]at hy;refine bp.af (fun he=>?_) (fun he=>?_)
    ·have gh:v<i:=by rw[←aC]at he;simp at he;omega
     refine aY ?_;refine ak ⟨gh,trivial,?_⟩;rw[show bu .i64 (tV 2 y)=x*2^(v+1) by rw[←ah,←Ci];simp only[di,E3];rw[Int.pow_succ,←Int.mul_assoc,Tx,dy]<;>omega];rw[wS ah aw (v:=v) (by omega)]
     cbv
    ·have gh:v=i:=by rw[←aC]at he;simp at he;omega
     subst gh;refine aY ?_;refine ar rfl ?_;refine gK ?_;refine ak ⟨aT,eL,?_⟩;rw[show bu .i64 (df m y)=summed s (v+1) by rw[←ah,←aw];simp only[di,kT,summed];rw[←kA,hx,Tx,hm,dy]<;>omega];rw[wS ah aw (v:=v) (by omega)];generalize summed s (v+1)=z
     cbv
  ·have aT:v=10:=by rw[←aC]at hd;simp at hd;omega
   subst aT
   have h10:lB 10 s:=by rw[←mc];simp;omega
   obtain⟨b,hb⟩:∃b,b=at_ s 10:=⟨_,rfl⟩
   have lO:0≤b∧b<256:=by rw[hb];exact wm _ _
   have pY:km s 10=b:=by rw[←me,hb];rfl
   have LU:=td hk;rw[hm]at LU;refine aY ?_;refine ar rfl ?_;refine gK ?_;refine ae h10 ?_;rw[pY];refine gK ?_;refine ae (by rw[←Ab];simp) ?_;refine gK ?_;refine ae (by rw[←Ab];simp) ?_;refine gK ?_
   have hc48:bu .i64 (cP (bu .i64 b) 48)=b-48:=by rw[←ah,←cY];simp only[di,iQ];rw[dy,dy]<;>(try rw[dy])<;>omega
   have hrm:oZ (oZ m 11) 10=m%11%10:=by rw[←sr];simp only[E4];rw[show m.tmod 11=m%11 from Int.tmod_eq_emod_of_nonneg (by omega),Int.tmod_eq_emod_of_nonneg (by omega)]
   rw[hc48,hrm];refine bp.af (fun he=>?_) (fun he=>?_)
   ·rw[←bA]at he;simp at he;refine aY ?_;refine aX ?_
    exact tr hr ⟨hl,fun i hi=>by
     by_cases h:i=10
     ·subst h;rw[if_neg (by omega),if_neg (by omega),←hb];omega
     ·exact hk i (by omega),by rw[←hb,hm];exact he⟩
   ·rw[←bA]at he;simp at he;refine aY ?_;refine aX ?_;refine fa hr ?_;rintro⟨-,-,h⟩;rw[←hb,hm]at h;exact he h
end Go.b8
end
section
open Go Go.Am Go.Proofs
attribute [local irreducible] Am.bp.holds bH fw bP ek
namespace Go.b8
variable {mx:Int}
open Classical
abbrev boxC (id:Int) (num:List UInt8) (size:Int) (high:Bool) (cD load oz cls:Int) (cK:Bool):List PV:=[.int .i64 id,.str num,.int .u8 size,.bool high,.int .i64 cD,.int .i64 load,.int .i64 oz,.int .u8 cls,.bool cK]
theorem Hh {x:b6} {cs:List PV} (hcs:cs=x.enc) {r:Bool} (hr:r=decide (iL x)):pC mx 146 [.agg cs] (.bool r):=by
 subst hcs;obtain⟨id,num,size,high,cD,load,oz,cls,cK⟩:=x;show pC mx 146 [.agg [.int .i64 id,.str num,.int .u8 size,.bool high,.int .i64 cD,.int .i64 load,.int .i64 oz,.int .u8 cls,.bool cK]] (.bool r);obtain⟨n,hn⟩:∃n,n=decide (hU num):=⟨_,rfl⟩
 cases high<;>cases n<;>have hN:=hn<;>simp at hn
 all_goals
  refine pZ MH ?_
  iterate 129 intro _
  intro aB aU aV bC bA ag aC;refine gK ?_
  repeat' (first|refine gH ?_|(refine iE (fun hc=>?_) (fun hc=>?_)<;>(try simp at hc)<;>(try(exfalso;omega))))
  all_goals try(refine ao (by cbv) (Aa hN) (fun _=>rfl) ?_;refine gK ?_)
  repeat' (first|refine gH ?_|(refine iE (fun hc=>?_) (fun hc=>?_)<;>(try simp at hc)<;>(try(exfalso;omega))))
  all_goals(refine aX ?_)
  all_goals first
   |(refine fa hr ?_;rintro⟨h1,h2,h3,h4,h5,h6⟩;dsimp only at h1 h2 h3 h4 h5 h6;first|omega|(rcases h2 with h2|h2<;>contradiction)|(simp only[most]at h4;split at h4<;>(try split at h4)<;>omega)|(have:=h3 rfl;omega))
   |(refine tr hr ⟨⟨by assumption,by assumption⟩,?_,?_,⟨by assumption,?_⟩,⟨by assumption,by assumption,by assumption⟩,?_⟩<;>dsimp only<;>first|omega|exact Or.inr hn|exact Or.inl (by assumption)|(intro h;first|omega|cases h)|(simp only[most];(repeat' split)<;>omega))
theorem su {x:b6} {cs:List PV} {k:Int} (hcs:cs=x.enc) {r:Bool} (hr:r=decide (lG x k)):pC mx 70 [.agg cs,.int .i64 k] (.bool r):=by
 subst hcs;obtain⟨id,num,size,high,cD,load,oz,cls,cK⟩:=x;show pC mx 70 [.agg [.int .i64 id,.str num,.int .u8 size,.bool high,.int .i64 cD,.int .i64 load,.int .i64 oz,.int .u8 cls,.bool cK],.int .i64 k] (.bool r);refine pZ Ur ?_
 iterate 129 intro _
 intro aB aU aV bC bA ag aC;refine gK ?_
 repeat' (first|refine gH ?_|(refine iE (fun hc=>?_) (fun hc=>?_)<;>(try simp at hc)<;>(try(exfalso;omega))))
 all_goals(refine aX ?_)
 all_goals first|(refine tr hr ⟨?_,?_⟩<;>dsimp only<;>omega)|(refine fa hr ?_;rintro⟨h1,h2⟩;dsimp only at h1 h2;omega)
theorem Ve {x:b6} {cs:List PV} (hcs:cs=x.enc) {t:List UInt8} {e:Int} (hr:zU x=(t,e)):pC mx 215 [.agg cs] (.eN [.str t,.int .i64 e]):=by
 subst hcs;obtain⟨id,num,size,high,cD,load,oz,cls,cK⟩:=x;show pC mx 215 [.agg [.int .i64 id,.str num,.int .u8 size,.bool high,.int .i64 cD,.int .i64 load,.int .i64 oz,.int .u8 cls,.bool cK]] (.eN [.str t,.int .i64 e])
 cases high<;>cases cK
 all_goals
  refine pZ MZ ?_
  iterate 95 intro _
  intro Vf Vg
  iterate 32 intro _
  intro aB aU aV bC bA ag aC;refine gK ?_
  repeat' (first|refine gH ?_|(refine iE (fun hc=>?_) (fun hc=>?_)<;>(try simp at hc)<;>(try(exfalso;omega))))
  all_goals try(refine ae (by rw[←Vf];simp) ?_;rw[←Vg];refine gK ?_)
  all_goals(refine aX ?_)
  all_goals(unfold zU at hr;dsimp only at hr;(repeat' split at hr)<;>first|(cases hr;rfl)|(exfalso;omega)|(exfalso;simp at*;omega)|(exfalso;simp at*;done))
end Go.b8
end
section
open Go Go.Am Go.Proofs
attribute [local irreducible] Am.bp.holds bH fw bP ek
namespace Go.b8
variable {mx:Int}
open Classical
def ib (l:List b6) (i e:Int):Prop:=(2000<l.length∧i= -1∧e=5)∨(l.length≤2000∧∃v,v<l.length∧i=Int.ofNat v∧e=60∧(∀k,k<v→nf l k)∧¬nf l v)∨(l.length≤2000∧(∀k,k<l.length→nf l k)∧i= -1∧e=0)
theorem least {P:Nat→Prop} {n:Nat}:(∀k,k<n→P k)∨∃v,v<n∧(∀k,k<v→P k)∧¬P v:=by
 induction n with
 |zero=>exact Or.inl (fun k h=>by omega)
 |succ n ih=>
  rcases ih with h|⟨v,h1,h2⟩
  ·by_cases hp:P n
   ·left;intro k hk
    by_cases e:k=n
    ·subst e;exact hp
    ·exact h k (by omega)
   ·exact Or.inr ⟨n,by omega,h,hp⟩
  ·exact Or.inr ⟨v,by omega,h2⟩
theorem Ck (l:List b6):∃i e,ib l i e:=by
 by_cases hl:2000<l.length
 ·exact⟨_,_,.inl ⟨hl,rfl,rfl⟩⟩
 ·rcases least (P:=nf l) (n:=l.length)with h|⟨v,h1,h2,h3⟩
  ·exact⟨_,_,.inr (.inr ⟨by omega,h,rfl,rfl⟩)⟩
  ·exact⟨_,_,.inr (.inl ⟨by omega,v,h1,rfl,rfl,h2,h3⟩)⟩
theorem ib.iff {l:List b6} {i e:Int} (h:ib l i e):e=0↔wo l:=by
 rcases h with⟨h,_,rfl⟩|⟨h,v,hv,_,rfl,_,hn⟩|⟨h,ha,_,rfl⟩
 ·exact⟨fun h=>by omega,fun⟨h',_⟩=>by omega⟩
 ·exact⟨fun h=>by omega,fun⟨_,h'⟩=>absurd (h' v hv) hn⟩
 ·exact⟨fun _=>⟨h,ha⟩,fun _=>rfl⟩
theorem ib.bad {l:List b6} {i e:Int} (h:ib l i e) {v:Nat} (hl:l.length≤2000) (hv:v<l.length) (hk:∀k,k<v→nf l k) (hn:¬nf l v):i=Int.ofNat v∧e=60:=by
 rcases h with⟨h,_,rfl⟩|⟨h,w,hw,hi,rfl,ha,hb⟩|⟨h,ha,_,rfl⟩
 ·omega
 ·have:w=v:=by
   rcases Nat.lt_trichotomy w v with h|h|h
   ·exact absurd (hk w h) hb
   ·exact h
   ·exact absurd (ha v h) hn
  subst this;exact⟨hi,rfl⟩
 ·exact absurd (ha v hv) hn
theorem ib.q0 {l:List b6} {i e:Int} (h:ib l i e) (hl:l.length≤2000) (hk:∀k,k<l.length→nf l k):i= -1∧e=0:=by
 rcases h with⟨h,_,rfl⟩|⟨h,w,hw,hi,rfl,ha,hb⟩|⟨h,ha,h1,rfl⟩
 ·omega
 ·exact absurd (hk w hw) hb
 ·exact⟨h1,rfl⟩
theorem Cl {rows sp:List (List PV)} {l:List b6} {i e:Int} (hr:rows=l.map b6.enc) (dD:ib l i e):pC mx 68 [.sl rows sp] (.eN [.int .i64 i,.int .i64 e]):=by
 have hlen:rows.length=l.length:=by simp[hr]
 refine pZ Uq ?_
 iterate 119 intro _
 intro cP cY _ aw bu ah aI aQ aJ aP aB aU aV bC bA ag aC;refine gK ?_;refine bp.af (fun h1=>?_) (fun h1=>?_)
 ·replace h1:=eE h1
  refine aY ?_;refine aX ?_
  rcases dD with⟨h,rfl,rfl⟩|⟨h,_⟩|⟨h,_⟩
  ·rfl
  ·omega
  ·omega
 ·replace h1:=eE h1
  have LI:l.length≤2000:=by omega
  refine aY ?_;refine bQ [0,4] [] (fun v σ_=>σ_.put (some 4) (.pv (.int .i64 (Int.ofNat v)))) (l.length) (fun k=>nf l k) ?_;intro v hv hk;refine ej ?_;refine bp.af (fun hd=>?_) (fun hd=>?_)
  ·have aT:v<l.length:=by rw[←aC,←ag]at hd;simp at hd;omega
   obtain⟨gI,bj⟩:∃x,l[v]=x:=⟨_,rfl⟩
   have bG:aJ (Int.ofNat v) rows 9:=by rw[←aP,hr];exact aO (enc:=b6.enc) aT rfl
   obtain⟨⟨iN,fO,eZ,e6,eG,eA,gi,jl,dI⟩,bW⟩:∃y,gI=y:=⟨_,rfl⟩;subst bW
   have aW:aI rows (Int.ofNat v)=[.int .i64 iN,.str fO,.int .u8 eZ,.bool e6,.int .i64 eG,.int .i64 eA,.int .i64 gi,.int .u8 jl,.bool dI]:=by rw[←aQ,hr,aN (enc:=b6.enc) aT,bj];rfl
   obtain⟨n,hn⟩:∃n,n=decide (iL l[v]):=⟨_,rfl⟩;refine aY ?_;refine ae bG ?_;rw[aW];refine gK ?_;refine gG (by cbv) (Hh (x:=l[v]) (by rw[bj];rfl) hn) (fun h=>?_) (fun h=>?_)
   ·have jb:iL l[v]:=by rw[h]at hn;simpa using hn
    refine gK ?_
    have key:∀q:Prop,(∀k,(hk:k<v)→(l[v].number≠[]→l[k].number≠l[v].number))→(v≠0→∀hk:v-1<l.length,l[v-1].id<l[v].id)→nf l v:=fun _ h1 h2 _=>⟨jb,h1,h2⟩
    repeat' (first|refine gH ?_|(refine iE (fun hc=>?_) (fun hc=>?_)<;>(try simp at hc)<;>(try(exfalso;omega))))
    ·obtain⟨w,hw⟩:∃w,v=w+1:=⟨v-1,by omega⟩
     have Iu:w<l.length:=by omega
     obtain⟨Ac,fv⟩:∃x,l[w]=x:=⟨_,rfl⟩
     have gw:aJ (Int.ofNat w) rows 9:=by rw[←aP,hr];exact aO (enc:=b6.enc) Iu rfl
     obtain⟨⟨Ov,JW,DV,DW,Ad,DX,JX,JY,wv⟩,jF⟩:∃y,Ac=y:=⟨_,rfl⟩;subst jF
     have dV:aI rows (Int.ofNat w)=[.int .i64 Ov,.str JW,.int .u8 DV,.bool DW,.int .i64 Ad,.int .i64 DX,.int .i64 JX,.int .u8 JY,.bool wv]:=by rw[←aQ,hr,aN (enc:=b6.enc) Iu,fv];rfl
     have fu:bu .i64 (cP (Int.ofNat v) 1)=Int.ofNat w:=by rw[←ah,←cY];simp only[di,iQ];rw[dy]<;>simp<;>omega
     refine ae bG ?_;rw[aW];refine gK ?_;rw[fu];refine ae gw ?_;rw[dV];refine gK ?_
     repeat' (first|refine gH ?_|(refine iE (fun hc=>?_) (fun hc=>?_)<;>(try simp at hc)<;>(try(exfalso;omega))))
     ·refine dS ?_
      obtain⟨rfl,rfl⟩:=dD.bad LI aT hk (fun hb=>by
       have:=(hb aT).2.2 (by omega) (by omega);simp only[hw,Nat.add_sub_cancel]at this;simp only[hw]at bj;rw[bj,fv]at this;dsimp only at this
       omega)
      rfl
     ·have hid:v≠0→∀hk:v-1<l.length,l[v-1].id<l[v].id:=fun _ _=>by
       simp only[hw,Nat.add_sub_cancel];simp only[hw]at bj;rw[bj,fv];exact hc
      obtain⟨i,rfl⟩:∃i,i=v:=⟨v,rfl⟩;refine bQ [0,4,5] [] (fun v σ_=>σ_.put (some 5) (.pv (.int .i64 (Int.ofNat v)))) (i) (fun k=>(∀hk:k<i,(l[i].number≠[]→l[k].number≠l[i].number))) ?_;intro v hv hk;refine ej ?_;refine bp.af (fun he=>?_) (fun he=>?_)
      ·have gh:v<i:=by rw[←aC]at he;simp at he;omega
       have rB:v<l.length:=by omega
       obtain⟨x_c,wx⟩:∃x,l[v]=x:=⟨_,rfl⟩
       have Cm:aJ (Int.ofNat v) rows 9:=by rw[←aP,hr];exact aO (enc:=b6.enc) rB rfl
       obtain⟨⟨id_c,aaS,Vh,Vi,Ow,Vj,aaT,aaU,JZ⟩,aaV⟩:∃y,x_c=y:=⟨_,rfl⟩;subst aaV
       have wy:aI rows (Int.ofNat v)=[.int .i64 id_c,.str aaS,.int .u8 Vh,.bool Vi,.int .i64 Ow,.int .i64 Vj,.int .i64 aaT,.int .u8 aaU,.bool JZ]:=by rw[←aQ,hr,aN (enc:=b6.enc) rB,wx];rfl
       refine aY ?_;refine ae bG ?_;rw[aW];refine gK ?_
       repeat' (first|refine gH ?_|(refine iE (fun hc=>?_) (fun hc=>?_)<;>(try simp at hc)<;>(try(exfalso;omega))))
       ·refine ae Cm ?_;rw[wy];refine gK ?_;refine ae bG ?_;rw[aW];refine gK ?_;refine bp.af (fun hq=>?_) (fun hq=>?_)
        ·replace hq:=eE hq
         refine aY ?_;refine ff rfl (de.oV rfl ?_);show fN _ _=_;refine F3 ?_;obtain⟨rfl,rfl⟩:=dD.bad LI aT ‹_› (fun hb=>(hb aT).2.1 v gh (by rw[bj];assumption) (by rw[bj,wx];exact hq));rfl
        ·replace hq:=eE hq
         refine aY ?_;refine ak ⟨gh,fun _ _=>by rw[bj,wx];exact hq,?_⟩;rw[wS ah aw (v:=v) (by omega)]
         cbv
       ·refine ak ⟨gh,fun _ h=>absurd (by rw[bj];assumption) h,?_⟩;rw[wS ah aw (v:=v) (by omega)]
        cbv
      ·have gh:v=i:=by rw[←aC]at he;simp at he;omega
       subst gh;refine aY ?_;refine ar rfl ?_;refine gK ?_;refine ak ⟨aT,key True (fun k eR=>hk k eR eR) hid,?_⟩;rw[wS ah aw (v:=v) (by omega)]
       cbv
    ·have hid:v≠0→∀hk:v-1<l.length,l[v-1].id<l[v].id:=fun h _=>absurd (by omega) h
     obtain⟨i,rfl⟩:∃i,i=v:=⟨v,rfl⟩;refine bQ [0,4,5] [] (fun v σ_=>σ_.put (some 5) (.pv (.int .i64 (Int.ofNat v)))) (i) (fun k=>(∀hk:k<i,(l[i].number≠[]→l[k].number≠l[i].number))) ?_;intro v hv hk;refine ej ?_;refine bp.af (fun he=>?_) (fun he=>?_)
     ·have gh:v<i:=by rw[←aC]at he;simp at he;omega
      exfalso;omega
     ·have gh:v=i:=by rw[←aC]at he;simp at he;omega
      subst gh;refine aY ?_;refine ar rfl ?_;refine gK ?_;refine ak ⟨aT,key True (fun k eR=>hk k eR eR) hid,?_⟩;rw[wS ah aw (v:=v) (by omega)]
      cbv
   ·refine gK ?_
    repeat' (first|refine gH ?_|refine bp.af (fun hc=>?_) (fun hc=>?_))
    refine dS ?_;obtain⟨rfl,rfl⟩:=dD.bad LI aT hk (fun hb=>by rw[h]at hn;simp at hn;exact hn (hb aT).1);rfl
  ·have aT:v=l.length:=by rw[←aC,←ag]at hd;simp at hd;omega
   refine aY ?_;refine ar rfl ?_;refine gK ?_;refine aX ?_;obtain⟨rfl,rfl⟩:=dD.q0 LI (fun k h=>hk k (by omega));rfl
end Go.b8
end
