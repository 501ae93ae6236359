import Derived.Test.YtfaccbkibjkfjaaGreatDoorT11
import Derived.Test.YtfaccbkibjkfjaaGreatDoorT12
import Derived.Test.YtfaccbkibjkfjaaGreatDoorT41
set_option linter.all false
set_option maxRecDepth 100000
set_option maxHeartbeats 1000000
section
open Go Go.Am Go.Proofs
attribute [local irreducible] Am.bl.holds bA fw bC dv
namespace Go.bW
variable {mx:Int}
open Classical
def zY (p:List UInt8) (a d:Int):Prop:=zV p∧(0≤a∧a≤100000000)∧(0≤d∧d≤500000)
theorem EZ {p:List UInt8} {a d:Int} {r:Bool} (hr:r=decide (zY p a d)):pC mx 115 [.agg [.str p,.int .i64 a,.int .i64 d]] (.bool r):=by
 refine pZ NV ?_
 iterate 102 intro _
 intro ga _ _ _ _ _ _ gy fE gA
 iterate 10 intro _
 intro aO _ ak _ _ _ _ aB aV aW bp bu ah aD;refine gK ?_
 repeat' (first|refine rQ ?_|refine bl.af (fun hc=>?_) (fun hc=>?_))
 all_goals try(refine aN ?_;refine fa hr ?_;rintro⟨⟨h1,-⟩,h2,h3⟩;subst_vars;simp at*;omega)
 have h5:p.length=5∧(0≤a∧a≤100000000)∧(0≤d∧d≤500000):=by subst_vars;simp at*;omega
 refine bG [1,3] [none,some 1] (fun v σ_=>σ_.put (some 3) (.pv (.int .i64 (Int.ofNat v)))) (5) (fun k=>(65≤at_ p k∧at_ p k≤90)) ?_;intro v hv hk;refine dC ?_;refine bl.af (fun hd=>?_) (fun hd=>?_)
 ·have aY:v<5:=by rw[←aD]at hd;simp at hd;omega
  have SC:ga (Int.ofNat v) p:=by rw[←gy];simp;omega
  obtain⟨b_p,aaX⟩:∃b,b=at_ p v:=⟨_,rfl⟩
  have hlt_p:0≤b_p∧b_p<256:=by rw[aaX];exact nZ _ _
  have SD:fE p (Int.ofNat v)=b_p:=by rw[←gA,aaX];rfl
  refine dp ?_;refine ae SC ?_;rw[SD];refine gK ?_;refine bl.af (fun hg=>?_) (fun hg=>?_)
  ·refine dp ?_;refine dm ?_;refine fa hr ?_;rintro⟨⟨_,h1⟩,-⟩;have:=h1 v (by omega);subst_vars;simp at hg;omega
  ·refine dp ?_;refine ae SC ?_;rw[SD];refine gK ?_;refine bl.af (fun hg2=>?_) (fun hg2=>?_)
   ·refine dp ?_;refine dm ?_;refine fa hr ?_;rintro⟨⟨_,h1⟩,-⟩;have:=h1 v (by omega);subst_vars;simp at hg2;omega
   ·refine dp ?_;refine ai ⟨aY,by subst_vars;simp at hg hg2;omega,?_⟩;rw[wS ak aO (v:=v) (by omega)]
    cbv
 ·refine dp ?_;refine au rfl ?_;refine gK ?_;refine aN ?_
  have:v=5:=by rw[←aD]at hd;simp at hd;omega
  exact tr hr ⟨⟨h5.1,fun i hi=>hk i (by omega)⟩,h5.2⟩
end Go.bW
end
section
open Go Go.Am Go.Proofs
attribute [local irreducible] Am.bl.holds bA fw bC dv
namespace Go.bW
variable {mx:Int}
open Classical
theorem Bw {k:Int} (h0:0≤k):val (65+k)=10+k+(k+9)/10:=by
 unfold val;rw[if_neg (by omega)]
 have:65+k-65=k:=by omega
 rw[this]
theorem KU {k:Int} (h0:0≤k) (h1:k≤25):val (65+(k+1))=if(val (65+k)+1)%11=0 then val (65+k)+1+1 else val (65+k)+1:=by
 rw[Bw h0,Bw (k:=k+1) (by omega)];split<;>omega
theorem VI {k:Int} (h0:0≤k) (h1:k≤26):10≤val (65+k)∧val (65+k)≤40:=by
 rw[Bw h0];omega
theorem Il {c:Int} {n:Nat} (hc:c=65+Int.ofNat n) (hn:n≤25) {r:Int} (hr:r=val c):pC mx 295 [.int .u8 c] (.int .i64 r):=by
 refine pZ NS ?_
 iterate 112 intro _
 intro eO iu _ _ _ _ _ _ _ bg aO aw ak _ _ _ _ aB aV aW bp bu ah aD;refine gK ?_;refine bG [0,3,4] [] (fun v σ_=>σ_.put (some 3) (.pv (.int .i64 (val (65+Int.ofNat v))))|>.put (some 4) (.pv (.int .u8 (65+Int.ofNat v)))) (n) (fun k=>True) ?_;intro v hv hk
 try dsimp only
 generalize hm:val (65+Int.ofNat v)=m;generalize hb:65+Int.ofNat v=b;refine dC ?_;have zG:=VI (k:=Int.ofNat v) (by simp) (by simp;omega);rw[hm]at zG;refine bl.af (fun hd=>?_) (fun hd=>?_)
 ·have aY:v<n:=by rw[←aD]at hd;subst hc hb;simp at hd;omega
  have h8:aw .u8 (bg b 1)=65+Int.ofNat (v+1):=by
   rw[←ak,←aO,←hb];simp only[ct,jk];rw[KD]<;>simp<;>omega
  obtain⟨m1,h1⟩:∃x,x=m+1:=⟨_,rfl⟩;obtain⟨m2,h2⟩:∃x,x=m1+1:=⟨_,rfl⟩;have hs:=KU (k:=Int.ofNat v) (by simp) (by simp;omega);rw[hm,←h1,←h2]at hs
  have w1:aw .i64 (bg m 1)=m1:=by rw[←ak,←aO,h1];simp only[ct,jk];rw[dh]<;>omega
  have w2:aw .i64 (bg m1 1)=m2:=by rw[←ak,←aO,h2];simp only[ct,jk];rw[dh]<;>omega
  have w3:eO m1 11=m1%11:=by rw[←iu,A3,Int.tmod_eq_emod_of_nonneg (by omega)]
  generalize m1%11=q at hs w3;refine dp ?_;refine ae (by subst_vars;simp) ?_;rw[w1,w3];refine gK ?_;refine bl.af (fun he=>?_) (fun he=>?_)
  ·rw[←bu]at he;simp at he;rw[if_pos he]at hs;refine dp ?_;refine ai ⟨aY,trivial,?_⟩;rw[h8,w2,←hs]
   cbv
  ·rw[←bu]at he;simp at he;rw[if_neg he]at hs;refine dp ?_;refine ai ⟨aY,trivial,?_⟩;rw[h8,←hs]
   cbv
 ·have aY:v=n:=by rw[←aD]at hd;subst hc hb;simp at hd;omega
  refine dp ?_;refine au rfl ?_;refine gK ?_;refine aN ?_;rw[←hm,hr,hc,aY]
def ju (s:List UInt8) (i:Nat):Prop:=if i<3 then 65≤at_ s i∧at_ s i≤90 else if i=3 then at_ s i=85∨at_ s i=74∨at_ s i=90 else 48≤at_ s i∧at_ s i≤57
theorem De {s:List UInt8} {n:Nat} (hc:ju s n):0≤val (at_ s n)∧val (at_ s n)≤40:=by
 unfold ju at hc;unfold val;split at hc
 ·rw[if_neg (by omega)];omega
 ·split at hc
  ·rw[if_neg (by omega)];omega
  ·rw[if_pos (by omega)];omega
theorem E0 {v:Nat} (h:v≤9):(1:Int)≤2^v∧(2:Int)^v≤512:=by
 have:v=0∨v=1∨v=2∨v=3∨v=4∨v=5∨v=6∨v=7∨v=8∨v=9:=by omega
 rcases this with rfl|rfl|rfl|rfl|rfl|rfl|rfl|rfl|rfl|rfl<;>decide
theorem KV {x:Int} {v:Nat} (hx:0≤x∧x≤40) (h:v≤9):0≤x*2^v∧x*2^v≤20480:=by
 have hp:=E0 h;have h1:0≤x*2^v:=Int.mul_nonneg hx.1 (by omega);have h2:x*2^v≤40*2^v:=Int.mul_le_mul_of_nonneg_right hx.2 (by omega);omega
theorem uF {s:List UInt8}:∀{n:Nat},(∀k,k<n→ju s k)→0≤summed s n∧summed s n≤40*(2^n-1)
 |0,_=>by simp[summed]
 |n+1,h=>by
  obtain⟨h1,h2⟩:=uF (n:=n) (fun k hk=>h k (by omega));have hc:=h n (by omega);have hv:=De hc;simp only[summed];have hp:(0:Int)<2^n:=Int.pow_pos (by decide);have h3:0≤val (at_ s n)*2^n:=Int.mul_nonneg hv.1 (by omega);have h4:val (at_ s n)*2^n≤40*2^n:=Int.mul_le_mul_of_nonneg_right hv.2 (by omega);rw[Int.pow_succ];omega
theorem Bx {s:List UInt8} {r:Bool} (hr:r=decide (iq s)):pC mx 239 [.str s] (.bool r):=by
 refine pZ NT ?_
 iterate 101 intro _
 intro iR ga eW j6 _ _ _ _ gy fE gA eO iu _ _ _ _ _ b5 cQ bg aO aw ak _ _ _ _ aB aV aW bp bu ah aD;refine gK ?_;refine bl.af (fun h1=>?_) (fun h1=>?_)
 ·refine dp ?_;refine aN ?_;refine fa hr ?_;rintro⟨h,-⟩;subst_vars;simp at h1;omega
 ·have hl:s.length=11:=by subst_vars;simp at h1;omega
  refine dp ?_;refine bG [0,3,4] [] (fun v σ_=>σ_.put (some 3) (.pv (.int .i64 (summed s v)))|>.put (some 4) (.pv (.int .i64 (Int.ofNat v)))) (10) (fun k=>ju s k) ?_;intro v hv hk
  try dsimp only
  generalize hm:summed s v=m;refine dC ?_;refine bl.af (fun hd=>?_) (fun hd=>?_)
  ·have aY:v<10:=by rw[←aD]at hd;simp at hd;omega
   have lG:ga (Int.ofNat v) s:=by rw[←gy];simp;omega
   obtain⟨my,iG⟩:∃b,b=at_ s v:=⟨_,rfl⟩
   have xO:0≤my∧my<256:=by rw[iG];exact nZ _ _
   have lH:fE s (Int.ofNat v)=my:=by rw[←gA,iG];rfl
   refine dp ?_;refine ae lG ?_;rw[lH];refine gK ?_
   repeat' (first|refine rQ ?_|(refine vy (fun hc=>?_) (fun hc=>?_)<;>(try simp at hc)<;>(try(exfalso;omega))))
   all_goals try(refine dm ?_;refine fa hr ?_;rintro⟨_,h,_⟩;have hq:=h v (by omega);rw[←iG]at hq;(split at hq<;>(try split at hq)<;>omega))
   all_goals first
    |(refine xv (by cbv) (Il (n:=(my-65).toNat) (by simp;omega) (by omega) rfl) (fun _=>rfl) ?_;intro x hx;refine gK ?_)
    |(rw[show aw .i64 (b5 (aw .i64 my) 48)=my-48 by rw[←ak,←cQ];simp only[ct,kP];rw[dh,dh]<;>(try rw[dh])<;>omega];obtain⟨x,hx⟩:∃x,val my=x:=⟨_,rfl⟩;rw[show my-48=x by rw[←hx];unfold val;rw[if_pos (by omega)]];skip)
   all_goals
    have e6:ju s v:=by unfold ju;rw[←iG];split<;>(try split)<;>omega
    have aaY:=De e6;rw[←iG,hx]at aaY
    clear lG xO lH
    obtain⟨i,rfl⟩:∃i,i=v:=⟨v,rfl⟩;have DZ:=uF hk;rw[hm]at DZ;have hp9:=E0 (v:=i) (by omega);refine bG [0,3,4,6,7] [] (fun v σ_=>σ_.put (some 6) (.pv (.int .i64 (x*2^v)))|>.put (some 7) (.pv (.int .i64 (Int.ofNat v)))) (i) (fun k=>True) ?_;intro v hv hk
    try dsimp only
    generalize hy:x*2^v=y;refine dC ?_;have Us:=hy
    clear hy
    have hy:=KV aaY (v:=v) (by omega);rw[Us]at hy;refine bl.af (fun he=>?_) (fun he=>?_)
    ·have gu:v<i:=by rw[←aD]at he;simp at he;omega
     refine dp ?_;refine ai ⟨gu,trivial,?_⟩;rw[show aw .i64 (eW 2 y)=x*2^(v+1) by rw[←ak,←j6];simp only[ct,Gl];rw[Int.pow_succ,←Int.mul_assoc,Us,dh]<;>omega];rw[wS ak aO (v:=v) (by omega)]
     cbv
    ·have gu:v=i:=by rw[←aD]at he;simp at he;omega
     subst gu;refine dp ?_;refine au rfl ?_;refine gK ?_;refine ai ⟨aY,e6,?_⟩;rw[show aw .i64 (bg m y)=summed s (v+1) by rw[←ak,←aO];simp only[ct,jk,summed];rw[←iG,hx,Us,hm,dh]<;>omega];rw[wS ak aO (v:=v) (by omega)];generalize summed s (v+1)=z
     cbv
  ·have aY:v=10:=by rw[←aD]at hd;simp at hd;omega
   subst aY
   have h10:ga 10 s:=by rw[←gy];simp;omega
   obtain⟨b,hb⟩:∃b,b=at_ s 10:=⟨_,rfl⟩
   have ph:0≤b∧b<256:=by rw[hb];exact nZ _ _
   have nV:fE s 10=b:=by rw[←gA,hb];rfl
   have DZ:=uF hk;rw[hm]at DZ;refine dp ?_;refine au rfl ?_;refine gK ?_;refine ae h10 ?_;rw[nV];refine gK ?_;refine ae (by rw[←iR];simp) ?_;refine gK ?_;refine ae (by rw[←iR];simp) ?_;refine gK ?_
   have hc48:aw .i64 (b5 (aw .i64 b) 48)=b-48:=by rw[←ak,←cQ];simp only[ct,kP];rw[dh,dh]<;>(try rw[dh])<;>omega
   have hrm:eO (eO m 11) 10=m%11%10:=by rw[←iu];simp only[A3];rw[show m.tmod 11=m%11 from Int.tmod_eq_emod_of_nonneg (by omega),Int.tmod_eq_emod_of_nonneg (by omega)]
   rw[hc48,hrm];refine bl.af (fun he=>?_) (fun he=>?_)
   ·rw[←bu]at he;simp at he;refine dp ?_;refine aN ?_
    exact tr hr ⟨hl,fun i hi=>by
     by_cases h:i=10
     ·subst h;rw[if_neg (by omega),if_neg (by omega),←hb];omega
     ·exact hk i (by omega),by rw[←hb,hm];exact he⟩
   ·rw[←bu]at he;simp at he;refine dp ?_;refine aN ?_;refine fa hr ?_;rintro⟨-,-,h⟩;rw[←hb,hm]at h;exact he h
end Go.bW
end
section
open Go Go.Am Go.Proofs
attribute [local irreducible] Am.bl.holds bA fw bC dv
namespace Go.bW
variable {mx:Int}
open Classical
abbrev boxC (id:Int) (num:List UInt8) (size:Int) (high:Bool) (ca load nC cls:Int) (bS:Bool):List PV:=[.int .i64 id,.str num,.int .u8 size,.bool high,.int .i64 ca,.int .i64 load,.int .i64 nC,.int .u8 cls,.bool bS]
theorem Im {x:cE} {cs:List PV} (kh:cs=x.enc) {r:Bool} (hr:r=decide (ir x)):pC mx 146 [.agg cs] (.bool r):=by
 subst kh;obtain⟨id,num,size,high,ca,load,nC,cls,bS⟩:=x;show pC mx 146 [.agg [.int .i64 id,.str num,.int .u8 size,.bool high,.int .i64 ca,.int .i64 load,.int .i64 nC,.int .u8 cls,.bool bS]] (.bool r);obtain⟨n,hn⟩:∃n,n=decide (iq num):=⟨_,rfl⟩
 cases high<;>cases n<;>have hN:=hn<;>simp at hn
 all_goals
  refine pZ NU ?_
  iterate 129 intro _
  intro aB aV aW bp bu ah aD;refine gK ?_
  repeat' (first|refine rQ ?_|(refine vy (fun hc=>?_) (fun hc=>?_)<;>(try simp at hc)<;>(try(exfalso;omega))))
  all_goals try(refine an (by cbv) (Bx hN) (fun _=>rfl) ?_;refine gK ?_)
  repeat' (first|refine rQ ?_|(refine vy (fun hc=>?_) (fun hc=>?_)<;>(try simp at hc)<;>(try(exfalso;omega))))
  all_goals(refine aN ?_)
  all_goals first
   |(refine fa hr ?_;rintro⟨h1,h2,h3,h4,h5,h6⟩;dsimp only at h1 h2 h3 h4 h5 h6;first|omega|(rcases h2 with h2|h2<;>contradiction)|(simp only[most]at h4;split at h4<;>(try split at h4)<;>omega)|(have:=h3 rfl;omega))
   |(refine tr hr ⟨⟨by assumption,by assumption⟩,?_,?_,⟨by assumption,?_⟩,⟨by assumption,by assumption,by assumption⟩,?_⟩<;>dsimp only<;>first|omega|exact Or.inr hn|exact Or.inl (by assumption)|(intro h;first|omega|cases h)|(simp only[most];(repeat' split)<;>omega))
theorem Bz {x:cE} {cs:List PV} {k:Int} (kh:cs=x.enc) {r:Bool} (hr:r=decide (nx x k)):pC mx 70 [.agg cs,.int .i64 k] (.bool r):=by
 subst kh;obtain⟨id,num,size,high,ca,load,nC,cls,bS⟩:=x;show pC mx 70 [.agg [.int .i64 id,.str num,.int .u8 size,.bool high,.int .i64 ca,.int .i64 load,.int .i64 nC,.int .u8 cls,.bool bS],.int .i64 k] (.bool r);refine pZ Vo ?_
 iterate 129 intro _
 intro aB aV aW bp bu ah aD;refine gK ?_
 repeat' (first|refine rQ ?_|(refine vy (fun hc=>?_) (fun hc=>?_)<;>(try simp at hc)<;>(try(exfalso;omega))))
 all_goals(refine aN ?_)
 all_goals first|(refine tr hr ⟨?_,?_⟩<;>dsimp only<;>omega)|(refine fa hr ?_;rintro⟨h1,h2⟩;dsimp only at h1 h2;omega)
theorem sJ {x:cE} {cs:List PV} (kh:cs=x.enc) {t:List UInt8} {e:Int} (hr:gH x=(t,e)):pC mx 215 [.agg cs] (.ep [.str t,.int .i64 e]):=by
 subst kh;obtain⟨id,num,size,high,ca,load,nC,cls,bS⟩:=x;show pC mx 215 [.agg [.int .i64 id,.str num,.int .u8 size,.bool high,.int .i64 ca,.int .i64 load,.int .i64 nC,.int .u8 cls,.bool bS]] (.ep [.str t,.int .i64 e])
 cases high<;>cases bS
 all_goals
  refine pZ Ol ?_
  iterate 95 intro _
  intro dE dF
  iterate 32 intro _
  intro aB aV aW bp bu ah aD;refine gK ?_
  repeat' (first|refine rQ ?_|(refine vy (fun hc=>?_) (fun hc=>?_)<;>(try simp at hc)<;>(try(exfalso;omega))))
  all_goals try(refine ae (by rw[←dE];simp) ?_;rw[←dF];refine gK ?_)
  all_goals(refine aN ?_)
  all_goals(unfold gH at hr;dsimp only at hr;(repeat' split at hr)<;>first|(cases hr;rfl)|(exfalso;omega)|(exfalso;simp at*;omega)|(exfalso;simp at*;done))
end Go.bW
end
section
open Go Go.Am Go.Proofs
attribute [local irreducible] Am.bl.holds bA fw bC dv
namespace Go.bW
variable {mx:Int}
open Classical
def ka (l:List cE) (i e:Int):Prop:=(2000<l.length∧i= -1∧e=5)∨(l.length≤2000∧∃v,v<l.length∧i=Int.ofNat v∧e=60∧(∀k,k<v→n0 l k)∧¬n0 l v)∨(l.length≤2000∧(∀k,k<l.length→n0 l k)∧i= -1∧e=0)
theorem least {P:Nat→Prop} {n:Nat}:(∀k,k<n→P k)∨∃v,v<n∧(∀k,k<v→P k)∧¬P v:=by
 induction n with
 |zero=>exact Or.inl (fun k h=>by omega)
 |succ n ih=>
  rcases ih with h|⟨v,h1,h2⟩
  ·by_cases hp:P n
   ·left;intro k hk
    by_cases e:k=n
    ·subst e;exact hp
    ·exact h k (by omega)
   ·exact Or.inr ⟨n,by omega,h,hp⟩
  ·exact Or.inr ⟨v,by omega,h2⟩
theorem vA (l:List cE):∃i e,ka l i e:=by
 by_cases hl:2000<l.length
 ·exact⟨_,_,.inl ⟨hl,rfl,rfl⟩⟩
 ·rcases least (P:=n0 l) (n:=l.length)with h|⟨v,h1,h2,h3⟩
  ·exact⟨_,_,.inr (.inr ⟨by omega,h,rfl,rfl⟩)⟩
  ·exact⟨_,_,.inr (.inl ⟨by omega,v,h1,rfl,rfl,h2,h3⟩)⟩
theorem ka.iff {l:List cE} {i e:Int} (h:ka l i e):e=0↔mq l:=by
 rcases h with⟨h,_,rfl⟩|⟨h,v,hv,_,rfl,_,hn⟩|⟨h,ha,_,rfl⟩
 ·exact⟨fun h=>by omega,fun⟨h',_⟩=>by omega⟩
 ·exact⟨fun h=>by omega,fun⟨_,h'⟩=>absurd (h' v hv) hn⟩
 ·exact⟨fun _=>⟨h,ha⟩,fun _=>rfl⟩
theorem ka.bad {l:List cE} {i e:Int} (h:ka l i e) {v:Nat} (hl:l.length≤2000) (hv:v<l.length) (hk:∀k,k<v→n0 l k) (hn:¬n0 l v):i=Int.ofNat v∧e=60:=by
 rcases h with⟨h,_,rfl⟩|⟨h,w,hw,hi,rfl,ha,hb⟩|⟨h,ha,_,rfl⟩
 ·omega
 ·have:w=v:=by
   rcases Nat.lt_trichotomy w v with h|h|h
   ·exact absurd (hk w h) hb
   ·exact h
   ·exact absurd (ha v h) hn
  subst this;exact⟨hi,rfl⟩
 ·exact absurd (ha v hv) hn
theorem ka.EE {l:List cE} {i e:Int} (h:ka l i e) (hl:l.length≤2000) (hk:∀k,k<l.length→n0 l k):i= -1∧e=0:=by
 rcases h with⟨h,_,rfl⟩|⟨h,w,hw,hi,rfl,ha,hb⟩|⟨h,ha,h1,rfl⟩
 ·omega
 ·exact absurd (hk w hw) hb
 ·exact⟨h1,rfl⟩
theorem Dr {rows sp:List (List PV)} {l:List cE} {i e:Int} (hr:rows=l.map cE.enc) (mO:ka l i e):pC mx 68 [.sl rows sp] (.ep [.int .i64 i,.int .i64 e]):=by
 have hlen:rows.length=l.length:=by simp[hr]
 refine pZ Vn ?_
 iterate 119 intro _
 intro b5 cQ _ aO aw ak aI aU aL aP aB aV aW bp bu ah aD;refine gK ?_;refine bl.af (fun h1=>?_) (fun h1=>?_)
 ·replace h1:=eT h1
  refine dp ?_;refine aN ?_
  rcases mO with⟨h,rfl,rfl⟩|⟨h,_⟩|⟨h,_⟩
  ·rfl
  ·omega
  ·omega
 ·replace h1:=eT h1
  have Mb:l.length≤2000:=by omega
  refine dp ?_;refine bG [0,4] [] (fun v σ_=>σ_.put (some 4) (.pv (.int .i64 (Int.ofNat v)))) (l.length) (fun k=>n0 l k) ?_;intro v hv hk;refine dC ?_;refine bl.af (fun hd=>?_) (fun hd=>?_)
  ·have aY:v<l.length:=by rw[←aD,←ah]at hd;simp at hd;omega
   obtain⟨kD,bh⟩:∃x,l[v]=x:=⟨_,rfl⟩
   have bx:aL (Int.ofNat v) rows 9:=by rw[←aP,hr];exact aR (enc:=cE.enc) aY rfl
   obtain⟨⟨mP,eH,gi,gj,dY,gk,jJ,jK,dJ⟩,cK⟩:∃y,kD=y:=⟨_,rfl⟩;subst cK
   have a6:aI rows (Int.ofNat v)=[.int .i64 mP,.str eH,.int .u8 gi,.bool gj,.int .i64 dY,.int .i64 gk,.int .i64 jJ,.int .u8 jK,.bool dJ]:=by rw[←aU,hr,aQ (enc:=cE.enc) aY,bh];rfl
   obtain⟨n,hn⟩:∃n,n=decide (ir l[v]):=⟨_,rfl⟩;refine dp ?_;refine ae bx ?_;rw[a6];refine gK ?_;refine im (by cbv) (Im (x:=l[v]) (by rw[bh];rfl) hn) (fun h=>?_) (fun h=>?_)
   ·have gN:ir l[v]:=by rw[h]at hn;simpa using hn
    refine gK ?_
    have key:∀q:Prop,(∀k,(hk:k<v)→(l[v].number≠[]→l[k].number≠l[v].number))→(v≠0→∀hk:v-1<l.length,l[v-1].id<l[v].id)→n0 l v:=fun _ h1 h2 _=>⟨gN,h1,h2⟩
    repeat' (first|refine rQ ?_|(refine vy (fun hc=>?_) (fun hc=>?_)<;>(try simp at hc)<;>(try(exfalso;omega))))
    ·obtain⟨w,hw⟩:∃w,v=w+1:=⟨v-1,by omega⟩
     have UI:w<l.length:=by omega
     obtain⟨C8,dq⟩:∃x,l[w]=x:=⟨_,rfl⟩
     have dT:aL (Int.ofNat w) rows 9:=by rw[←aP,hr];exact aR (enc:=cE.enc) UI rfl
     obtain⟨⟨id_b,acS,VS,VT,Pc,VU,abd,abe,K1⟩,lk⟩:∃y,C8=y:=⟨_,rfl⟩;subst lk
     have cL:aI rows (Int.ofNat w)=[.int .i64 id_b,.str acS,.int .u8 VS,.bool VT,.int .i64 Pc,.int .i64 VU,.int .i64 abd,.int .u8 abe,.bool K1]:=by rw[←aU,hr,aQ (enc:=cE.enc) UI,dq];rfl
     have dD:aw .i64 (b5 (Int.ofNat v) 1)=Int.ofNat w:=by rw[←ak,←cQ];simp only[ct,kP];rw[dh]<;>simp<;>omega
     refine ae bx ?_;rw[a6];refine gK ?_;rw[dD];refine ae dT ?_;rw[cL];refine gK ?_
     repeat' (first|refine rQ ?_|(refine vy (fun hc=>?_) (fun hc=>?_)<;>(try simp at hc)<;>(try(exfalso;omega))))
     ·refine dm ?_
      obtain⟨rfl,rfl⟩:=mO.bad Mb aY hk (fun hb=>by
       have:=(hb aY).2.2 (by omega) (by omega);simp only[hw,Nat.add_sub_cancel]at this;simp only[hw]at bh;rw[bh,dq]at this;dsimp only at this
       omega)
      rfl
     ·have hid:v≠0→∀hk:v-1<l.length,l[v-1].id<l[v].id:=fun _ _=>by
       simp only[hw,Nat.add_sub_cancel];simp only[hw]at bh;rw[bh,dq];exact hc
      obtain⟨i,rfl⟩:∃i,i=v:=⟨v,rfl⟩;refine bG [0,4,5] [] (fun v σ_=>σ_.put (some 5) (.pv (.int .i64 (Int.ofNat v)))) (i) (fun k=>(∀hk:k<i,(l[i].number≠[]→l[k].number≠l[i].number))) ?_;intro v hv hk;refine dC ?_;refine bl.af (fun he=>?_) (fun he=>?_)
      ·have gu:v<i:=by rw[←aD]at he;simp at he;omega
       have sP:v<l.length:=by omega
       obtain⟨O5,gP⟩:∃x,l[v]=x:=⟨_,rfl⟩
       have jL:aL (Int.ofNat v) rows 9:=by rw[←aP,hr];exact aR (enc:=cE.enc) sP rfl
       obtain⟨⟨qC,fI,iv,iw,eo,iy,ll,ln,eC⟩,tJ⟩:∃y,O5=y:=⟨_,rfl⟩;subst tJ
       have jx:aI rows (Int.ofNat v)=[.int .i64 qC,.str fI,.int .u8 iv,.bool iw,.int .i64 eo,.int .i64 iy,.int .i64 ll,.int .u8 ln,.bool eC]:=by rw[←aU,hr,aQ (enc:=cE.enc) sP,gP];rfl
       refine dp ?_;refine ae bx ?_;rw[a6];refine gK ?_
       repeat' (first|refine rQ ?_|(refine vy (fun hc=>?_) (fun hc=>?_)<;>(try simp at hc)<;>(try(exfalso;omega))))
       ·refine ae jL ?_;rw[jx];refine gK ?_;refine ae bx ?_;rw[a6];refine gK ?_;refine bl.af (fun hq=>?_) (fun hq=>?_)
        ·replace hq:=eT hq
         refine dp ?_;refine dS rfl (cO.ml rfl ?_);show eV _ _=_;refine zeT ?_;obtain⟨rfl,rfl⟩:=mO.bad Mb aY ‹_› (fun hb=>(hb aY).2.1 v gu (by rw[bh];assumption) (by rw[bh,gP];exact hq));rfl
        ·replace hq:=eT hq
         refine dp ?_;refine ai ⟨gu,fun _ _=>by rw[bh,gP];exact hq,?_⟩;rw[wS ak aO (v:=v) (by omega)]
         cbv
       ·refine ai ⟨gu,fun _ h=>absurd (by rw[bh];assumption) h,?_⟩;rw[wS ak aO (v:=v) (by omega)]
        cbv
      ·have gu:v=i:=by rw[←aD]at he;simp at he;omega
       subst gu;refine dp ?_;refine au rfl ?_;refine gK ?_;refine ai ⟨aY,key True (fun k eZ=>hk k eZ eZ) hid,?_⟩;rw[wS ak aO (v:=v) (by omega)]
       cbv
    ·have hid:v≠0→∀hk:v-1<l.length,l[v-1].id<l[v].id:=fun h _=>absurd (by omega) h
     obtain⟨i,rfl⟩:∃i,i=v:=⟨v,rfl⟩;refine bG [0,4,5] [] (fun v σ_=>σ_.put (some 5) (.pv (.int .i64 (Int.ofNat v)))) (i) (fun k=>(∀hk:k<i,(l[i].number≠[]→l[k].number≠l[i].number))) ?_;intro v hv hk;refine dC ?_;refine bl.af (fun he=>?_) (fun he=>?_)
     ·have gu:v<i:=by rw[←aD]at he;simp at he;omega
      exfalso;omega
     ·have gu:v=i:=by rw[←aD]at he;simp at he;omega
      subst gu;refine dp ?_;refine au rfl ?_;refine gK ?_;refine ai ⟨aY,key True (fun k eZ=>hk k eZ eZ) hid,?_⟩;rw[wS ak aO (v:=v) (by omega)]
      cbv
   ·refine gK ?_
    repeat' (first|refine rQ ?_|refine bl.af (fun hc=>?_) (fun hc=>?_))
    refine dm ?_;obtain⟨rfl,rfl⟩:=mO.bad Mb aY hk (fun hb=>by rw[h]at hn;simp at hn;exact hn (hb aY).1);rfl
  ·have aY:v=l.length:=by rw[←aD,←ah]at hd;simp at hd;omega
   refine dp ?_;refine au rfl ?_;refine gK ?_;refine aN ?_;obtain⟨rfl,rfl⟩:=mO.EE Mb (fun k h=>hk k (by omega));rfl
end Go.bW
end
