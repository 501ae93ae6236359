import Derived.Test.YtfaccbkibjkfjaaGreatDoorT13
import Derived.Test.YtfaccbkibjkfjaaGreatDoorT12
import Derived.Test.YtfaccbkibjkfjaaGreatDoorT07
import Derived.Test.YtfaccbkibjkfjaaGreatDoorT41
import Derived.Test.YtfaccbkibjkfjaaGreatDoorT29
import Derived.Test.YtfaccbkibjkfjaaGreatDoorT14
set_option linter.all false
set_option maxRecDepth 100000
set_option maxHeartbeats 1000000
section
open Go Go.Am Go.Proofs
attribute [local irreducible] Am.bl.holds bA fw bC dv
namespace Go.bW
variable {mx:Int}
open Classical
theorem Iv {a b:Int} {r:Bool} (hr:r=decide (qo a b)):pC mx 274 [.int .u8 a,.int .u8 b] (.bool r):=by
 refine pZ GJ ?_
 iterate 129 intro _
 intro aB aV aW bp bu ah aD;refine gK ?_
 repeat' (first|refine rQ ?_|(refine vy (fun hc=>?_) (fun hc=>?_)<;>(try simp at hc)<;>(try(exfalso;omega))))
 all_goals(refine aN ?_)
 all_goals first|(refine tr hr ?_;unfold qo;omega)|(refine fa hr ?_;unfold qo;omega)
theorem Hh {a b:Slot} {r:Bool} (hr:r=decide (Bo a b)):pC mx 192 [.agg [.int .i64 a.column,.int .i64 a.gG,.int .u8 a.half],.agg [.int .i64 b.column,.int .i64 b.gG,.int .u8 b.half]] (.bool r):=by
 obtain⟨c1,t1,h1⟩:=a;obtain⟨c2,t2,h2⟩:=b;dsimp only;refine pZ GK ?_
 iterate 129 intro _
 intro aB aV aW bp bu ah aD;refine gK ?_
 repeat' (first|refine rQ ?_|(refine vy (fun hc=>?_) (fun hc=>?_)<;>(try simp at hc)<;>(try(exfalso;omega))))
 all_goals try(refine bX (by cbv) (Iv rfl) (fun h=>?_) (fun h=>?_)<;>simp only[decide_eq_true_eq,decide_eq_false_iff_not]at h<;>refine gK ?_)
 all_goals(refine aN ?_)
 all_goals first|(refine tr hr ⟨?_,?_,?_⟩<;>assumption)|(refine fa hr ?_;rintro⟨h3,h4,h5⟩;dsimp only at h3 h4 h5;first|omega|contradiction)
theorem Iw {x:cE} {cs:List PV} {k:Int} (kh:cs=x.enc) {r:Bool} (hr:r=decide (nx x k)):pC mx 66 [.agg cs,.int .i64 k] (.bool r):=by
 subst kh;obtain⟨id,num,size,high,ca,load,nC,cls,bS⟩:=x;show pC mx 66 [.agg [.int .i64 id,.str num,.int .u8 size,.bool high,.int .i64 ca,.int .i64 load,.int .i64 nC,.int .u8 cls,.bool bS],.int .i64 k] (.bool r);refine pZ KR ?_
 iterate 129 intro _
 intro aB aV aW bp bu ah aD;refine gK ?_
 repeat' (first|refine rQ ?_|(refine vy (fun hc=>?_) (fun hc=>?_)<;>(try simp at hc)<;>(try(exfalso;omega))))
 all_goals(refine aN ?_)
 all_goals first|(refine tr hr ⟨?_,?_⟩<;>dsimp only<;>omega)|(refine fa hr ?_;rintro⟨h1,h2⟩;dsimp only at h1 h2;omega)
theorem K9 {rows sp S:List (List PV)} {l:List aT} (cq:rows=l.map aT.enc) (hS:S=(l.map (·.slot)).map Slot.enc) (hl:l.length<2^32):pC mx 188 [.sl rows sp] (.sl S []):=by
 have hlen:rows.length=l.length:=by simp[cq]
 have R7:S.length=l.length:=by simp[hS]
 have bP:aS 3 S:=by rw[hS];exact bj (enc:=Slot.enc) (fun _=>rfl) _
 have htk:∀v,aS 3 (S.take v):=fun v r hr=>bP r (List.mem_of_mem_take hr)
 refine pZ Gv ?_
 iterate 116 intro _
 intro bO bs bE _ _ _ aO _ ak aI aU aL aP aB aV aW bp bu ah aD;refine gK ?_;refine zT [3,6,7,8] (nn [3,3]) (fun v σ_=>(σ_.Kb 3 3 3).put (some 8) (.pv (.int .i64 (Int.ofNat v)))|>.aC 3 (.rows 3 (S.take v) 0)) (l.length) (fun k=>True) (Fg.wc [3,6,7,8] (nn [3,3]) 3 3 3 rfl (by first|rfl|(cbv;done)) (by first|rfl|(cbv;done)) (by first|exact Nat.le_of_ble_eq_true rfl|(cbv;done)) (by first|(cbv;done)|(simp;cbv;done)|(simp;rfl))) ?_
 intro v hv hk
 try dsimp only
 generalize cw:S.take v=cur;refine dC ?_;refine bl.af (fun hd=>?_) (fun hd=>?_)
 ·have aY:v<l.length:=by rw[←aD,←ah]at hd;simp at hd;omega
  obtain⟨kD,bh⟩:∃x,l[v]=x:=⟨_,rfl⟩
  have bx:aL (Int.ofNat v) rows 4:=by rw[←aP,cq];exact aR (enc:=aT.enc) aY rfl
  obtain⟨⟨fH,⟨eB,dX,cG⟩⟩,cK⟩:∃y,kD=y:=⟨_,rfl⟩;subst cK
  have a6:aI rows (Int.ofNat v)=[.int .i64 fH,.int .i64 eB,.int .i64 dX,.int .u8 cG]:=by rw[←aU,cq,aQ (enc:=aT.enc) aY,bh];rfl
  have hvS:v<S.length:=by omega
  refine dp ?_;refine ae bx ?_;rw[a6];refine gK ?_;refine ae ?_ ?_
  ·rw[←bO,←cw];have:=htk v;simp[this,R7];omega
  refine gK ?_;refine ai ⟨aY,trivial,?_⟩;rw[wS ak aO (v:=v) (by omega)]
  rw[show bs cur [[.int .i64 eB,.int .i64 dX,.int .u8 cG]]=S.take (v+1) by
   rw[←bE,←cw,List.take_succ_eq_append_getElem hvS,bK]
   congr 2
   subst hS;simp only[List.getElem_map];rw[bh]
   rfl]
  cbv
 ·have aY:v=l.length:=by rw[←aD,←ah]at hd;simp at hd;omega
  refine dp ?_;refine au rfl ?_;refine gK ?_;refine aN ?_;rw[←cw,List.take_of_length_le (by omega)]
def nh (s:List UInt8) (low high:Int) (dg:Bool):Prop:=(low≤s.length∧s.length≤high)∧∀i,i<s.length→(65≤at_ s i∧at_ s i≤90)∨(dg=true∧48≤at_ s i∧at_ s i≤57)
theorem sM {s:List UInt8} {low high:Int} {dg res:Bool} (hl:s.length<2^32) (hr:res=decide (nh s low high dg)):pC mx 254 [.str s,.int .i64 low,.int .i64 high,.bool dg] (.bool res):=by
 cases dg
 ·refine pZ BD ?_
  iterate 102 intro _
  intro ga _ _ _ _ _ _ gy fE gA
  iterate 10 intro _
  intro aO _ ak _ _ _ _ aB aV aW bp bu ah aD;refine gK ?_;refine bG [0,1,2,3,11,12] [] (fun v σ_=>σ_.put (some 12) (.pv (.int .i64 (Int.ofNat v)))) (s.length) (fun k=>((65≤at_ s k∧at_ s k≤90)∨(false=true∧48≤at_ s k∧at_ s k≤57))) ?_;intro v hv hk;refine dC ?_;refine bl.af (fun hd=>?_) (fun hd=>?_)
  ·have aY:v<s.length:=by rw[←aD,←aB]at hd;simp at hd;omega
   have lG:ga (Int.ofNat v) s:=by rw[←gy];simp;omega
   obtain⟨my,iG⟩:∃b,b=at_ s v:=⟨_,rfl⟩
   have xO:0≤my∧my<256:=by rw[iG];exact nZ _ _
   have lH:fE s (Int.ofNat v)=my:=by rw[←gA,iG];rfl
   have bad:¬((65≤my∧my≤90)∨(false=true∧48≤my∧my≤57))→¬nh s low high false:=fun h h'=>h (by rw[iG];exact h'.2 v aY)
   refine dp ?_
   repeat' (first
    |refine rQ ?_
    |(refine ae lG ?_;rw[lH];refine gK ?_)
    |(refine bl.af (fun hc=>?_) (fun hc=>?_)<;>(rw[←aD]at hc)<;>(try simp at hc)))
   all_goals first
    |(refine dm ?_;exact fa hr (bad (by simp;omega)))
    |(refine ai ⟨aY,by rw[←iG];simp;omega,?_⟩
      rw[wS ak aO (v:=v) (by omega)]
      cbv)
  ·have aY:v=s.length:=by rw[←aD,←aB]at hd;simp at hd;omega
   refine dp ?_;refine au rfl ?_;refine gK ?_
   repeat' (first|refine rQ ?_|(refine vy (fun hc=>?_) (fun hc=>?_)<;>(try simp at hc)<;>(try(exfalso;omega))))
   all_goals(refine aN ?_)
   all_goals first|exact tr hr ⟨⟨by omega,by omega⟩,fun i h=>hk i (by omega)⟩|(refine fa hr ?_;rintro⟨⟨h1,h2⟩,-⟩;omega)
 ·refine pZ BD ?_
  iterate 102 intro _
  intro ga _ _ _ _ _ _ gy fE gA
  iterate 10 intro _
  intro aO _ ak _ _ _ _ aB aV aW bp bu ah aD;refine gK ?_;refine bG [0,1,2,3,11,12] [] (fun v σ_=>σ_.put (some 12) (.pv (.int .i64 (Int.ofNat v)))) (s.length) (fun k=>((65≤at_ s k∧at_ s k≤90)∨(true=true∧48≤at_ s k∧at_ s k≤57))) ?_;intro v hv hk;refine dC ?_;refine bl.af (fun hd=>?_) (fun hd=>?_)
  ·have aY:v<s.length:=by rw[←aD,←aB]at hd;simp at hd;omega
   have lG:ga (Int.ofNat v) s:=by rw[←gy];simp;omega
   obtain⟨my,iG⟩:∃b,b=at_ s v:=⟨_,rfl⟩
   have xO:0≤my∧my<256:=by rw[iG];exact nZ _ _
   have lH:fE s (Int.ofNat v)=my:=by rw[←gA,iG];rfl
   have bad:¬((65≤my∧my≤90)∨(true=true∧48≤my∧my≤57))→¬nh s low high true:=fun h h'=>h (by rw[iG];exact h'.2 v aY)
   refine dp ?_
   repeat' (first
    |refine rQ ?_
    |(refine ae lG ?_;rw[lH];refine gK ?_)
    |(refine bl.af (fun hc=>?_) (fun hc=>?_)<;>(rw[←aD]at hc)<;>(try simp at hc)))
   all_goals first
    |(refine dm ?_;exact fa hr (bad (by simp;omega)))
    |(refine ai ⟨aY,by rw[←iG];simp;omega,?_⟩
      rw[wS ak aO (v:=v) (by omega)]
      cbv)
  ·have aY:v=s.length:=by rw[←aD,←aB]at hd;simp at hd;omega
   refine dp ?_;refine au rfl ?_;refine gK ?_
   repeat' (first|refine rQ ?_|(refine vy (fun hc=>?_) (fun hc=>?_)<;>(try simp at hc)<;>(try(exfalso;omega))))
   all_goals(refine aN ?_)
   all_goals first|exact tr hr ⟨⟨by omega,by omega⟩,fun i h=>hk i (by omega)⟩|(refine fa hr ?_;rintro⟨⟨h1,h2⟩,-⟩;omega)
theorem Pg {s:List UInt8} {res:Bool} (hl:s.length<2^32) (hr:res=decide (kB s)):pC mx 162 [.str s] (.bool res):=by
 have fV:nh s 6 6 false↔kB s:=by unfold nh kB oP;simp;omega
 refine pZ GZ ?_
 iterate 129 intro _
 intro aB aV aW bp bu ah aD;refine gK ?_;refine bX (by cbv) (sM hl rfl) (fun h=>?_) (fun h=>?_)<;>simp only[decide_eq_true_eq,decide_eq_false_iff_not]at h
 ·refine gK ?_;refine aN ?_;exact tr hr (fV.1 h)
 ·refine gK ?_;refine aN ?_;exact fa hr (fun h'=>h (fV.2 h'))
theorem BG {s:List UInt8} {res:Bool} (hl:s.length<2^32) (hr:res=decide (mr s)):pC mx 163 [.str s] (.bool res):=by
 have fV:nh s 1 14 true↔mr s:=
  ⟨fun⟨⟨h1,h2⟩,h3⟩=>⟨by omega,by omega,fun i hi=>by have:=h3 i hi;simpa using this⟩,fun⟨h1,h2,h3⟩=>⟨⟨by omega,by omega⟩,fun i hi=>by have:=h3 i hi;simpa using this⟩⟩
 refine pZ G0 ?_
 iterate 129 intro _
 intro aB aV aW bp bu ah aD;refine gK ?_;refine bX (by cbv) (sM hl rfl) (fun h=>?_) (fun h=>?_)<;>simp only[decide_eq_true_eq,decide_eq_false_iff_not]at h
 ·refine gK ?_;refine aN ?_;exact tr hr (fV.1 h)
 ·refine gK ?_;refine aN ?_;exact fa hr (fun h'=>h (fV.2 h'))
theorem V1 {s:List UInt8} {res:Bool} (hl:s.length<2^32) (hr:res=decide (eP s)):pC mx 166 [.str s] (.bool res):=by
 have fV:nh s 3 3 false↔(s.length=3∧oP s):=by unfold nh oP;simp;omega
 refine pZ G3 ?_
 iterate 129 intro _
 intro aB aV aW bp bu ah aD;refine gK ?_;refine bX (by cbv) (sM hl rfl) (fun h=>?_) (fun h=>?_)<;>simp only[decide_eq_true_eq,decide_eq_false_iff_not]at h
 ·have h':=fV.1 h;refine gK ?_
  repeat' (first|refine rQ ?_|(refine vy (fun hc=>?_) (fun hc=>?_)<;>(try simp at hc)<;>(try(exfalso;omega))))
  all_goals(refine aN ?_)
  all_goals first|exact tr hr ⟨h'.1,h'.2,by assumption,by assumption⟩|(refine fa hr ?_;rintro⟨-,-,h2,h3⟩;contradiction)
 ·refine gK ?_;refine aN ?_;exact fa hr (fun h'=>h (fV.2 ⟨h'.1,h'.2.1⟩))
end Go.bW
end
section
open Go Go.Am
namespace Go.bW
open Classical
abbrev Key:=Int×Int×Int
def iz (k:Key):List PV:=[.int .i64 k.1,.int .i64 k.2.1,.int .i64 k.2.2]
def BH (x:Key×Nat):List PV:=[.int .i64 x.1.1,.int .i64 x.1.2.1,.int .i64 x.1.2.2,.int .i64 (Int.ofNat x.2)]
def ec (m:List (Key×Nat)):List (List PV):=m.map BH
def bump:List (Key×Nat)→Key→List (Key×Nat)
 |[],k=>[(k,1)]
 |(k',n)::r,k=>if k=k' then(k',n+1)::r else(k',n)::bump r k
def uc:List (Key×Nat)→Key→Nat
 |[],_=>0
 |(k',n)::r,k=>if k=k' then n else uc r k
def jN (ks:List Key):List (Key×Nat):=ks.foldl bump []
theorem oY (ks:List Key) (k:Key):jN (ks++[k])=bump (jN ks) k:=by simp[jN,List.foldl_append]
theorem Hm (k:Key) (x:Key×Nat):bw (iz k) ((BH x).take 3)=decide (k=x.1):=by
 obtain⟨a,b,c⟩:=k;obtain⟨⟨a',b',c'⟩,n⟩:=x;simp only[iz,BH,List.take_succ_cons,List.take_zero,bw]
 by_cases h1:a=a'<;>by_cases h2:b=b'<;>by_cases h3:c=c'<;>simp[h1,h2,h3]
theorem Ll {k:Key}:∀{m:List (Key×Nat)},dP 3 (ec m) (iz k)=true↔∃n,(k,n)∈m
 |[]=>by simp[dP,ec]
 |(k',n)::r=>by
  have ih:=Ll (k:=k) (m:=r);simp only[dP,ec,List.map_cons,List.any_cons,Hm,Bool.or_eq_true,decide_eq_true_eq]at ih ⊢;rw[ih];constructor
  ·rintro(rfl|⟨n',h⟩)
   ·exact⟨n,List.mem_cons_self ..⟩
   ·exact⟨n',List.mem_cons_of_mem _ h⟩
  ·rintro⟨n',h⟩
   rcases List.mem_cons.1 h with h|h
   ·left;exact congrArg Prod.fst h
   ·right;exact⟨n',h⟩
theorem S6 {k:Key}:∀{m:List (Key×Nat)},aG.zb 3 (ec m) (iz k) [.int .i64 0]=.int .i64 (Int.ofNat (uc m k))
 |[]=>by simp[aG,jn,ec,uc]
 |(k',n)::r=>by
  have ih:=S6 (k:=k) (m:=r);simp only[aG,jn,ec,List.map_cons,List.find?_cons,Hm]at ih ⊢
  by_cases h:k=k'
  ·subst h;simp[uc,BH]
  ·simp only[h,decide_false,uc,if_false];exact ih
theorem uJ {α:Type} (f:α→α) (a:α) (l:List α) (i:Nat):(a::l).modify (i+1) f=a::l.modify i f:=by simp
theorem Dx {k:Key} {x:Key×Nat} {r:List (Key×Nat)}:dP 3 (ec (x::r)) (iz k)=(decide (k=x.1)||dP 3 (ec r) (iz k)):=by
 simp only[dP,ec,List.map_cons,List.any_cons,Hm]
theorem Fs {k:Key} {x:Key×Nat} {r:List (Key×Nat)}:fe 3 (ec (x::r)) (iz k)=if k=x.1 then 0 else fe 3 (ec r) (iz k)+1:=by
 simp only[fe,ec,List.map_cons,List.findIdx_cons,Hm]
 by_cases h:k=x.1<;>simp[h]
def setRow (rows:List (List PV)) (k:Key) (n:Nat):List (List PV):=((match dP 3 rows (iz k)with|true=>rows|false=>rows++[iz k++[PV.int .i64 0]]).modify (fe 3 rows (iz k)) (fun r=>r.take 3++[PV.int .i64 (Int.ofNat n)]))
theorem Af {k:Key}:∀{m:List (Key×Nat)},setRow (ec m) k (uc m k+1)=ec (bump m k)
 |[]=>by simp[setRow,ec,dP,fe,bump,uc,BH,iz]
 |(k',n)::r=>by
  have ih:=Af (k:=k) (m:=r);unfold setRow at ih ⊢;rw[Dx,Fs]
  by_cases h:k=k'
  ·subst h;simp[bump,uc,ec,BH]
  ·simp only[h,decide_false,Bool.false_or,if_false,uc,bump]
   have e3:(match dP 3 (ec r) (iz k)with|true=>ec ((k',n)::r)|false=>ec ((k',n)::r)++[iz k++[PV.int .i64 0]])=BH (k',n)::(match dP 3 (ec r) (iz k)with|true=>ec r|false=>ec r++[iz k++[PV.int .i64 0]]):=by
    cases dP 3 (ec r) (iz k)<;>simp[ec]
   refine Eq.trans (congrArg (fun z=>List.modify z _ _) e3) ?_;rw[uJ,ih];rfl
theorem We {k:Key} {m:List (Key×Nat)}:aG.Jl 3 (aG.ug 3 (ec m) (iz k) [.int .i64 0]) (aG.mix 3 (ec m) (iz k)) [.int .i64 (Int.ofNat (uc m k+1))]=ec (bump m k):=Af
theorem abw {k:Key} {m:List (Key×Nat)}:aG.Ea [1,1,1] 3 (ec m) (iz k):=by
 refine⟨rfl,by simp[aX,iz],fun r hr=>?_⟩;obtain⟨x,_,rfl⟩:=List.mem_map.1 hr;simp[aX,iz,BH]
theorem abx {k:Key} {m:List (Key×Nat)}:aG.MA (aG.mix 3 (ec m) (iz k)) (aG.ug 3 (ec m) (iz k) [.int .i64 0]):=by
 refine⟨by simp[aG],?_⟩;simp only[aG]
 by_cases h:dP 3 (ec m) (iz k)=true
 ·rw[h];simp only;unfold fe;have:=List.findIdx_lt_length_of_exists (p:=fun r=>bw (iz k) (r.take 3)) (xs:=ec m) (by simpa[dP]using h);omega
 ·rw[Bool.not_eq_true]at h;rw[h];simp only[List.length_append,List.length_singleton];unfold fe;have:=List.findIdx_le_length (p:=fun r=>bw (iz k) (r.take 3)) (xs:=ec m);omega
theorem Dy {k k':Key}:∀{m:List (Key×Nat)},uc (bump m k) k'=uc m k'+if k'=k then 1 else 0
 |[]=>by simp[bump,uc]
 |(q,n)::r=>by
  have ih:=Dy (k:=k) (k':=k') (m:=r);simp only[bump]
  by_cases h:k=q
  ·subst h;simp only[if_pos,uc]
   by_cases h2:k'=k
   ·simp[h2]
   ·simp[h2]
  ·simp only[if_neg h,uc]
   by_cases h2:k'=q
   ·subst h2;rw[if_pos rfl,if_pos rfl,if_neg (fun e=>h e.symm)];rfl
   ·simp only[if_neg h2];exact ih
theorem ym {k:Key}:∀{m:List (Key×Nat)},(bump m k).map Prod.fst=if k∈m.map Prod.fst then m.map Prod.fst else m.map Prod.fst++[k]
 |[]=>by simp[bump]
 |(q,n)::r=>by
  have ih:=ym (k:=k) (m:=r);simp only[bump]
  by_cases h:k=q
  ·subst h;simp
  ·rw[if_neg h];simp only[List.map_cons,ih]
   by_cases h2:k∈List.map Prod.fst r
   ·rw[if_pos h2,if_pos (List.mem_cons_of_mem _ h2)]
   ·rw[if_neg h2,if_neg (by simp only[List.mem_cons,not_or];exact⟨h,h2⟩)];rfl
theorem BJ {α:Type} {motive:List α→Prop} (h0:motive []) (h1:∀l a,motive l→motive (l++[a])) (l:List α):motive l:=by
 rw[←List.reverse_reverse l]
 induction l.reverse with
 |nil=>exact h0
 |cons a r ih=>rw[List.reverse_cons];exact h1 _ _ ih
theorem uK {k:Key}:∀{ks:List Key},uc (jN ks) k=ks.count k:=by
 intro ks;refine BJ (motive:=fun ks=>uc (jN ks) k=List.count k ks) ?_ (fun ks q ih=>?_) ks
 ·simp[jN,uc]
 ·rw[oY,Dy,ih,List.count_append,List.count_singleton]
  congr 1
  by_cases h:k=q
  ·simp[h]
  ·simp[h,Ne.symm h]
theorem IB:∀{ks:List Key},((jN ks).map Prod.fst).Nodup:=by
 intro ks;refine BJ (motive:=fun ks=>((jN ks).map Prod.fst).Nodup) ?_ (fun ks q ih=>?_) ks
 ·simp[jN]
 ·rw[oY,ym];split
  ·exact ih
  ·rename_i h;rw[List.nodup_append];exact⟨ih,by simp,fun a ha b hb=>by simp at hb;subst hb;exact fun e=>h (e▸ha)⟩
theorem Hn {x:Key×Nat}:∀{m:List (Key×Nat)},(m.map Prod.fst).Nodup→x∈m→uc m x.1=x.2
 |[],_,h=>by simp at h
 |(q,n)::r,hn,h=>by
  simp only[List.map_cons,List.nodup_cons]at hn
  rcases List.mem_cons.1 h with h|h
  ·subst h;simp[uc]
  ·have:x.1≠q:=fun e=>hn.1 (e▸List.mem_map_of_mem h)
   simp only[uc,if_neg this];exact Hn hn.2 h
theorem Ho {k:Key}:∀{m:List (Key×Nat)},0<uc m k→(k,uc m k)∈m
 |[],h=>by simp[uc]at h
 |(q,n)::r,h=>by
  simp only[uc]at h ⊢
  by_cases e:k=q
  ·subst e;simp
  ·simp only[if_neg e]at h ⊢;exact List.mem_cons_of_mem _ (Ho h)
theorem once {ks:List Key}:(∀x∈jN ks,x.2≤1)↔ks.Nodup:=by
 rw[List.nodup_iff_count];constructor
 ·intro h k;rw[←uK]
  by_cases hc:0<uc (jN ks) k
  ·exact h _ (Ho hc)
  ·omega
 ·intro h x hx;rw[←Hn IB hx,uK];exact h x.1
theorem Wf {ks:List Key} {k:Key}:uc (jN ks) k≤ks.length:=by rw[uK];exact List.count_le_length
theorem aby {ks:List Key}:(jN ks).length≤ks.length:=by
 revert ks
 intro ks;refine BJ (motive:=fun ks=>(jN ks).length≤ks.length) ?_ (fun ks q ih=>?_) ks
 ·simp[jN]
 ·have h:((jN (ks++[q])).map Prod.fst).length≤((jN ks).map Prod.fst).length+1:=by
   rw[oY,ym];split
   ·omega
   ·simp
  simp only[List.length_map]at h;simp;omega
end Go.bW
end
section
open Go Go.Am
namespace Go.bW
open Classical
def qH (x:aM):Key:=(x.jH,x.row,if x.js then 1 else 0)
def kQ (x:bq):List Key:=x.rows.map fun r=>(x.jH,r,2)
theorem Ai {a b:aM}:qH a≠qH b↔rN a b:=by
 unfold qH rN;simp only[ne_eq,Prod.mk.injEq]
 cases a.js<;>cases b.js<;>simp
theorem Ft {cl:List aM}:(cl.map qH).Nodup↔∀i,(h:i<cl.length)→∀k,(hk:k<i)→rN cl[k] cl[i]:=by
 unfold List.Nodup;rw[List.pairwise_map,List.pairwise_iff_getElem];constructor
 ·intro h i hi k hk;exact Ai.1 (h k i (by omega) hi hk)
 ·intro h i j hi hj pI;exact Ai.2 (h j hj i pI)
theorem rising {x:bq} (h:∀i,i<x.rows.length→rO x i):∀(j i:Nat),i<j→j<x.rows.length→x.rows.getD i 0<x.rows.getD j 0
 |0,i,pI,_=>by omega
 |j+1,i,pI,hj=>by
  have h1:=(h (j+1) hj).2.2;simp only[Nat.add_sub_cancel]at h1
  have h2:x.rows.getD j 0<x.rows.getD (j+1) 0:=by omega
  by_cases e:i=j
  ·subst e;exact h2
  ·have:=rising h j i (by omega) (by omega);omega
theorem rows_nodup {x:bq} (h:∀i,i<x.rows.length→rO x i):x.rows.Nodup:=by
 unfold List.Nodup;rw[List.pairwise_iff_getElem];intro i j hi hj pI e;have:=rising h j i pI hj;simp only[List.getD_eq_getElem?_getD,hi,hj,List.getElem?_eq_getElem,Option.getD_some]at this;omega
theorem Fu {vl:List bq} (hv:∀i,(h:i<vl.length)→jc vl[i]):(vl.flatMap kQ).Nodup↔∀i,(h:i<vl.length)→∀k,(hk:k<i)→vl[k].jH=vl[i].jH→∀r,r∈vl[i].rows→r∉vl[k].rows:=by
 unfold List.Nodup;rw[List.pairwise_flatMap,List.pairwise_iff_getElem];constructor
 ·rintro⟨-,h⟩ i hi k hk hb r hr YZ;have:=h k i (by omega) hi hk (vl[k].jH,r,2) (by unfold kQ;exact List.mem_map.2 ⟨r,YZ,rfl⟩) (vl[i].jH,r,2) (by unfold kQ;exact List.mem_map.2 ⟨r,hr,rfl⟩);exact this (by rw[hb])
 ·intro h;refine⟨fun x hx=>?_,fun k i hk hi hki a ha b hb=>?_⟩
  ·obtain⟨i,hi,rfl⟩:=List.getElem_of_mem hx;have:=rows_nodup (hv i hi).2.2;unfold kQ;rw[List.pairwise_map];unfold List.Nodup at this
   exact this.imp fun dW e=>by simp only[Prod.mk.injEq]at e;exact dW e.2.1
  ·unfold kQ at ha hb;obtain⟨r,hr,rfl⟩:=List.mem_map.1 ha;obtain⟨q,hq,rfl⟩:=List.mem_map.1 hb;intro e;simp only[Prod.mk.injEq]at e;obtain⟨e1,e2,-⟩:=e;subst e2;exact h i hi k hki e1 r hq hr
def lu (cl:List aM) (vl:List bq):List Key:=cl.map qH++vl.flatMap kQ
theorem Fv {cl:List aM} {vl:List bq} (hv:∀i,(h:i<vl.length)→jc vl[i]):(lu cl vl).Nodup↔(∀i,(h:i<cl.length)→∀k,(hk:k<i)→rN cl[k] cl[i])∧∀i,(h:i<vl.length)→∀k,(hk:k<i)→vl[k].jH=vl[i].jH→∀r,r∈vl[i].rows→r∉vl[k].rows:=by
 unfold lu;rw[List.nodup_append,Ft,Fu hv];constructor
 ·rintro⟨h1,h2,-⟩;exact⟨h1,h2⟩
 ·rintro⟨h1,h2⟩;refine⟨h1,h2,fun a ha b hb e=>?_⟩;obtain⟨x,-,rfl⟩:=List.mem_map.1 ha;obtain⟨y,-,hy⟩:=List.mem_flatMap.1 hb;unfold kQ at hy;obtain⟨r,-,rfl⟩:=List.mem_map.1 hy;unfold qH at e;simp only[Prod.mk.injEq]at e;obtain⟨-,-,e⟩:=e;split at e<;>omega
theorem Ln {cl:List aM} {vl:List bq} (hl:1≤cl.length∧cl.length≤200∧vl.length≤40) (hc:∀i,(h:i<cl.length)→gd cl[i]) (hv:∀i,(h:i<vl.length)→jc vl[i]):fy cl vl↔(lu cl vl).Nodup:=by
 rw[Fv hv];unfold fy;constructor
 ·rintro⟨-,h1,h2⟩;exact⟨fun i hi=>(h1 i hi).2,fun i hi=>(h2 i hi).2⟩
 ·rintro⟨h1,h2⟩;exact⟨hl,fun i hi=>⟨hc i hi,h1 i hi⟩,fun i hi=>⟨hv i hi,h2 i hi⟩⟩
end Go.bW
end
section
open Go Go.Am Go.Proofs
attribute [local irreducible] Am.bl.holds bA fw bC dv
namespace Go.bW
variable {mx:Int}
open Classical
theorem Ff {f:FuncId} {p:Int→Bool} {s:List UInt8} {r:Int} (hf:∀x:Int,pC mx f [.int .i32 x] (.bool (p x))) (hp:∀x,128≤x→p x=true) (hl:s.length<2^32) (hr:fQ (fun k=>p (at_ s k)=true) s.length r):
  pC mx 305 [.str s,.gZ f [],.bool true] (.int .i64 r):=by
 refine pZ Gr ?_;intro _ _ _ Nq _ _ _ _ _ _ _ _ uA
 iterate 30 intro _
 intro Bc Bd Be
 iterate 25 intro _
 intro Fh V5 V6
 iterate 55 intro _
 intro aB aV aW bp bu ah aD;refine gK ?_;refine bG [0,1,2,10] (nn [10,10]) (fun v σ_=>σ_.aC 10 (.fz s (Int.ofNat v))) (s.length) (fun k=>(p (at_ s k)=false)) ?_;intro v hv hk;refine dC ?_
 cases hd:Nq (Int.ofNat v) (uA s)
 ·have aY:v=s.length:=by rw[←aD,←aB]at hd;simp at hd;omega
  refine dp ?_;refine au rfl ?_;refine gK ?_;refine aN ?_;rw[hr.none (fun k eZ h'=>by rw[hk k (by omega)]at h';cases h')]
 ·have aY:v<s.length:=by rw[←aD,←aB]at hd;simp at hd;omega
  obtain⟨b,hb⟩:∃b,b=at_ s v:=⟨_,rfl⟩;obtain⟨u,hu⟩:∃u,Bc s (Int.ofNat v)=u:=⟨_,rfl⟩;obtain⟨w,hw⟩:∃w,Be (Int.ofNat v) (Bd s (Int.ofNat v))=w:=⟨_,rfl⟩;refine dp ?_;rw[hu,hw];refine bX (by cbv) (hf u) (fun h=>?_) (fun h=>?_)
  ·refine gK ?_;refine dm ?_
   have Yk:p (at_ s v)=true:=by
    by_cases Pn:at_ s v<128
    ·have:=(sF Pn).1;rw[←Fh]at hu;rw[←this];exact hu▸h
    ·exact hp _ (by omega)
   rw[hr.at aY Yk (fun k eZ h'=>by rw[hk k eZ]at h';cases h')]
  ·have Pn:at_ s v<128:=by
    refine Classical.byContradiction fun hn=>?_
    have:=KC (s:=s) (v:=v) (by omega);rw[←Fh]at hu;have hu':aG.rune s (Int.ofNat v)=u:=hu;rw[hp u (by rw[←hu'];exact this)]at h
    cases h
   have Yk:p (at_ s v)=false:=by
    have:=(sF Pn).1;rw[←Fh]at hu;rw[←this];exact hu▸h
   have UI:w=Int.ofNat (v+1):=by
    rw[←hw,←V6,←V5];have:=(sF Pn).2;show(Int.ofNat v)+aG.Eb s (Int.ofNat v)=_;rw[show aG.Eb s (Int.ofNat v)=1 from this];rfl
   rw[UI];refine gK ?_;refine ai ⟨aY,Yk,?_⟩
   cbv
theorem yi {f:FuncId} {p:Int→Bool} {s:List UInt8} {r:Bool} (hf:∀x:Int,pC mx f [.int .i32 x] (.bool (p x))) (hp:∀x,128≤x→p x=true) (hl:s.length<2^32) (hr:r=decide (∃k,k<s.length∧p (at_ s k)=true)):
  pC mx 187 [.str s,.gZ f []] (.bool r):=by
 obtain⟨n,hn⟩:=fQ.ex (fun k=>p (at_ s k)=true) s.length;have h305:=Ff (mx:=mx) hf hp hl hn
 have h268:pC mx 268 [.str s,.gZ f []] (.int .i64 n):=by
  refine pZ Gs ?_
  iterate 129 intro _
  intro aB aV aW bp bu ah aD;refine gK ?_;refine an (by cbv) h305 (fun h=>by first|rfl|cases h) ?_;refine gK ?_;refine aN ?_;rfl
 have fV:=hn.iff;refine pZ Gt ?_
 iterate 129 intro _
 intro aB aV aW bp bu ah aD;refine gK ?_;refine an (by cbv) h268 (fun h=>by first|rfl|cases h) ?_;refine gK ?_
 repeat' (first|refine rQ ?_|(refine vy (fun hc=>?_) (fun hc=>?_)<;>(try simp at hc)<;>(try(exfalso;omega))))
 all_goals(refine aN ?_)
 all_goals first|exact tr hr (fV.1 (by omega))|exact fa hr (fun h=>by have:=fV.2 h;omega)
theorem La {x:Int} {r:Bool} (hr:r=decide (x<65∨90<x)):pC mx 186 [.int .i32 x] (.bool r):=by
 refine pZ Gu ?_
 iterate 129 intro _
 intro aB aV aW bp bu ah aD;refine gK ?_
 repeat' (first|refine rQ ?_|(refine vy (fun hc=>?_) (fun hc=>?_)<;>(try simp at hc)<;>(try(exfalso;omega))))
 all_goals(refine aN ?_)
 all_goals first|(refine tr hr ?_;omega)|(refine fa hr ?_;omega)
theorem Po {p:List UInt8} {a d:Int} {r:Bool} (hr:r=decide (zY p a d)):pC mx 92 [.agg [.str p,.int .i64 a,.int .i64 d]] (.bool r):=by
 have EF:(∃k,k<p.length∧(decide (at_ p k<65∨90<at_ p k))=true)↔¬∀i,i<p.length→65≤at_ p i∧at_ p i≤90:=by
  constructor
  ·rintro⟨k,h1,h2⟩ h;have:=h k h1;simp at h2;omega
  ·intro h
   refine Classical.byContradiction fun hn=>h fun i hi=>?_
   refine Classical.byContradiction fun h2=>hn ⟨i,hi,?_⟩
   simp;omega
 refine pZ KN ?_
 iterate 129 intro _
 intro aB aV aW bp bu ah aD;refine gK ?_;refine bl.af (fun h1=>?_) (fun h1=>?_)
 ·replace h1:=eT h1
  refine dp ?_;refine bX (by cbv) (yi (f:=186) (p:=fun x=>decide (x<65∨90<x)) (fun x=>La rfl) (fun x hx=>by simp;omega) (by omega) rfl) (fun h=>?_) (fun h=>?_)<;>simp only[decide_eq_true_eq,decide_eq_false_iff_not]at h
  ·refine gK ?_;refine aN ?_;refine fa hr ?_;rintro⟨⟨-,h2⟩,-⟩;exact EF.1 (by simpa using h) h2
  ·have dQ:∀i,i<p.length→65≤at_ p i∧at_ p i≤90:=Classical.byContradiction fun hn=>h (by simpa using EF.2 hn)
   refine gK ?_
   repeat' (first|refine rQ ?_|(refine vy (fun hc=>?_) (fun hc=>?_)<;>(try simp at hc)<;>(try(exfalso;omega))))
   all_goals(refine aN ?_)
   all_goals first|exact tr hr ⟨⟨by omega,dQ⟩,by omega,by omega⟩|(refine fa hr ?_;rintro⟨-,h3,h4⟩;omega)
 ·replace h1:=eT h1
  refine dp ?_;refine aN ?_;refine fa hr ?_;rintro⟨⟨h2,-⟩,-⟩;omega
theorem Fi {x:Int} {r:Bool} (hr:r=decide (65≤x∧x≤90)):pC mx 330 [.int .u8 x] (.bool r):=by
 refine pZ OK ?_
 iterate 129 intro _
 intro aB aV aW bp bu ah aD;refine gK ?_
 repeat' (first|refine rQ ?_|(refine vy (fun hc=>?_) (fun hc=>?_)<;>(try simp at hc)<;>(try(exfalso;omega))))
 all_goals(refine aN ?_)
 all_goals first|(refine tr hr ?_;omega)|(refine fa hr ?_;omega)
theorem Iy {x:Int} {r:Bool} (hr:r=decide (x=85∨x=74∨x=90)):pC mx 331 [.int .u8 x] (.bool r):=by
 refine pZ OL ?_
 iterate 129 intro _
 intro aB aV aW bp bu ah aD;refine gK ?_
 repeat' (first|refine rQ ?_|(refine vy (fun hc=>?_) (fun hc=>?_)<;>(try simp at hc)<;>(try(exfalso;omega))))
 all_goals(refine aN ?_)
 all_goals first|(refine tr hr ?_;omega)|(refine fa hr ?_;omega)
theorem Iz {x:Int} {r:Bool} (hr:r=decide (48≤x∧x≤57)):pC mx 332 [.int .u8 x] (.bool r):=by
 refine pZ OM ?_
 iterate 129 intro _
 intro aB aV aW bp bu ah aD;refine gK ?_
 repeat' (first|refine rQ ?_|(refine vy (fun hc=>?_) (fun hc=>?_)<;>(try simp at hc)<;>(try(exfalso;omega))))
 all_goals(refine aN ?_)
 all_goals first|(refine tr hr ?_;omega)|(refine fa hr ?_;omega)
theorem V7:pC mx 328 [] (.agg [.gZ 330 [],.gZ 330 [],.gZ 330 [],.gZ 331 [],.gZ 332 [],.gZ 332 [],.gZ 332 [],.gZ 332 [],.gZ 332 [],.gZ 332 [],.gZ 332 []]):=by
 refine pZ ON ?_
 iterate 129 intro _
 intro aB aV aW bp bu ah aD;refine gK ?_;refine aN ?_;rfl
theorem IA {s:List UInt8} {r:Bool} (hl:s.length<2^32) (hr:r=decide (s.length≤11∧sC s)):pC mx 319 [.str s] (.bool r):=by
 have hF:sC s↔∀i,i<s.length→ju s i:=Iff.rfl;refine pZ OO ?_
 iterate 78 intro _
 intro Hj qh vC
 iterate 21 intro _
 intro ga _ _ _ _ _ _ gy fE gA
 iterate 10 intro _
 intro aO _ ak _ _ _ _ aB aV aW bp bu ah aD;refine gK ?_;refine an (by cbv) V7 (fun h=>by first|rfl|cases h) ?_;refine gK ?_;refine bG [0,3,6,7,8] (nn [3,3]) (fun v σ_=>σ_.put (some 8) (.pv (.int .i64 (Int.ofNat v)))) (s.length) (fun k=>(k<11∧ju s k)) ?_;intro v hv hk;refine dC ?_;refine bl.af (fun hd=>?_) (fun hd=>?_)
 ·have aY:v<s.length:=by rw[←aD,←aB]at hd;simp at hd;omega
  have lG:ga (Int.ofNat v) s:=by rw[←gy];simp;omega
  obtain⟨my,iG⟩:∃b,b=at_ s v:=⟨_,rfl⟩
  have xO:0≤my∧my<256:=by rw[iG];exact nZ _ _
  have lH:fE s (Int.ofNat v)=my:=by rw[←gA,iG];rfl
  have bad:¬ju s v→¬(s.length≤11∧sC s):=fun h h'=>h (h'.2 v aY)
  refine dp ?_;refine bl.af (fun h1=>?_) (fun h1=>?_)
  ·replace h1:=eT h1
   refine dp ?_;refine dm ?_;exact fa hr (fun h=>by omega)
  ·replace h1:=eT h1
   refine dp ?_;refine ae (by rw[←Hj];exact⟨by simp,by simp;omega⟩) ?_;rw[show qh (Int.ofNat v) 1=v by rw[←vC];show(Int.ofNat v).toNat*1=v;simp]
   have Lb:v=0∨v=1∨v=2∨v=3∨v=4∨v=5∨v=6∨v=7∨v=8∨v=9∨v=10:=by omega
   rcases Lb with rfl|rfl|rfl|rfl|rfl|rfl|rfl|rfl|rfl|rfl|rfl
   all_goals
    refine gK ?_;refine ae lG ?_;rw[lH];refine gK ?_
    first
     |refine im (by cbv) (Fi rfl) (fun h=>?_) (fun h=>?_)
     |refine im (by cbv) (Iy rfl) (fun h=>?_) (fun h=>?_)
     |refine im (by cbv) (Iz rfl) (fun h=>?_) (fun h=>?_)
   all_goals simp only[decide_eq_true_eq,decide_eq_false_iff_not]at h
   all_goals refine gK ?_
   all_goals first
    |(refine dm ?_;refine fa hr (bad ?_);unfold ju;rw[←iG];simp;omega)
    |(refine ai ⟨aY,⟨by omega,by unfold ju;rw[←iG];simp;omega⟩,?_⟩
      rw[wS ak aO (v:=_) (by omega)]
      cbv)
 ·have aY:v=s.length:=by rw[←aD,←aB]at hd;simp at hd;omega
  refine dp ?_;refine au rfl ?_;refine gK ?_;refine aN ?_;refine tr hr ⟨?_,fun i hi=>(hk i (by omega)).2⟩
  refine Classical.byContradiction fun hn=>?_
  have:=(hk 11 (by omega)).1;omega
end Go.bW
end
section
open Go Go.Am Go.Proofs
attribute [local irreducible] Am.bl.holds bA fw bC dv
namespace Go.bW
variable {mx:Int}
open Classical
def qG (b:Int):Prop:=(48≤b∧b≤57)∨(65≤b∧b≤90)
theorem ju.letter {s:List UInt8} {i:Nat} (h:ju s i):qG (at_ s i):=by
 unfold ju at h;unfold qG;split at h
 ·omega
 ·split at h<;>omega
theorem Lc {b r:Int} (hb:qG b) (hr:r=val b):pC mx 329 [.int .u8 b] (.ep [.int .i64 r,.bool true]):=by
 unfold qG at hb;refine pZ OP ?_
 iterate 101 intro _
 intro iR _ eW j6 _ fS j0 _ _ _ _ eO iu _ _ _ _ _ b5 cQ bg aO aw ak _ _ _ _ aB aV aW bp bu ah aD
 have iP:∀x y,bg x y=x+y:=fun _ _=>by rw[←aO];rfl
 have dD:∀x y,b5 x y=x-y:=fun _ _=>by rw[←cQ];rfl
 have hmul:∀x y,eW x y=x*y:=fun _ _=>by rw[←j6];rfl
 have qt:∀x y,0≤x→fS x y=x/y:=fun _ _ h=>by rw[←j0];exact Int.tdiv_eq_ediv_of_nonneg h
 have qu:∀x y,0≤x→eO x y=x%y:=fun _ _ h=>by rw[←iu];exact Int.tmod_eq_emod_of_nonneg h
 have hW:∀x,-9223372036854775808≤x→x<9223372036854775808→aw .i64 x=x:=fun _ h1 h2=>by rw[←ak];exact dh h1 h2
 have D1:∀x,0≤x→x<256→aw .u8 x=x:=fun _ h1 h2=>by rw[←ak];exact KD h1 h2
 refine gK ?_
 repeat' (first|refine rQ ?_|(refine vy (fun hc=>?_) (fun hc=>?_)<;>(try simp at hc)<;>(try(exfalso;omega))))
 ·refine aN ?_;rw[dD,D1 _ (by omega) (by omega),hW _ (by omega) (by omega),hr];unfold val;rw[if_pos (by omega)]
 ·refine ae (by rw[←iR];simp) ?_;refine gK ?_;refine aN ?_;simp(disch:=omega) only[dD,iP,qt,D1,hW];rw[hr];unfold val;rw[if_neg (by omega)]
theorem Ad {b:Int} (h:qG b):0≤val b∧val b≤40:=by
 unfold qG at h;unfold val;split<;>omega
theorem yj {s:List UInt8}:∀{n:Nat},(∀k,k<n→qG (at_ s k))→0≤summed s n∧summed s n≤40*(2^n-1)
 |0,_=>by simp[summed]
 |n+1,h=>by
  obtain⟨h1,h2⟩:=yj (n:=n) (fun k hk=>h k (by omega));have hv:=Ad (h n (by omega));simp only[summed];have hp:(0:Int)<2^n:=Int.pow_pos (by decide);have h3:0≤val (at_ s n)*2^n:=Int.mul_nonneg hv.1 (by omega);have h4:val (at_ s n)*2^n≤40*2^n:=Int.mul_le_mul_of_nonneg_right hv.2 (by omega);rw[Int.pow_succ];omega
theorem Ld {s:List UInt8} {r:Int} (hs:∀k,k<s.length→qG (at_ s k)) (hl:s.length≤10) (hr:r=48+summed s s.length%11%10):pC mx 320 [.str s] (.int .u8 r):=by
 refine pZ OQ ?_;intro _ CX
 iterate 45 intro _
 intro abn _ _ _ V8
 iterate 49 intro _
 intro iR ga eW j6 _ fS j0 _ gy fE gA eO iu _ _ _ _ _ b5 cQ bg aO aw ak _ _ _ _ aB aV aW bp bu ah aD;refine gK ?_;refine bG [0,3,7,8,9] [] (fun v σ_=>σ_.put (some 3) (.pv (.int .i64 (summed s v)))|>.put (some 9) (.pv (.int .i64 (Int.ofNat v)))) (s.length) (fun k=>True) ?_;intro v hv hk
 try dsimp only
 generalize hm:summed s v=m;refine dC ?_;have DZ:=yj (s:=s) (n:=v) (fun k hk=>hs k (by omega));rw[hm]at DZ;refine bl.af (fun hd=>?_) (fun hd=>?_)
 ·have aY:v<s.length:=by rw[←aD,←aB]at hd;simp at hd;omega
  have lG:ga (Int.ofNat v) s:=by rw[←gy];simp;omega
  obtain⟨my,iG⟩:∃b,b=at_ s v:=⟨_,rfl⟩
  have xO:0≤my∧my<256:=by rw[iG];exact nZ _ _
  have lH:fE s (Int.ofNat v)=my:=by rw[←gA,iG];rfl
  have V9:=hs v aY;rw[←iG]at V9;have abo:=Ad V9;obtain⟨x,hx⟩:∃x,x=val my:=⟨_,rfl⟩;rw[←hx]at abo;have hp9:=E0 (v:=v) (by omega);have hmul:=KV abo (v:=v) (by omega)
  have hz:summed s (v+1)=m+x*2^v:=by simp only[summed];rw[hm,←iG,←hx]
  obtain⟨z,Mk⟩:∃z,z=summed s (v+1):=⟨_,rfl⟩;refine dp ?_;refine ae lG ?_;rw[lH];refine gK ?_;refine an (by cbv) (Lc V9 hx) (fun h=>by first|rfl|cases h) ?_;refine gK ?_;refine ae (by rw[←V8];simp) ?_
  have hshl:CX .i64 x (Int.ofNat v)=x*2^v:=by
   rw[←abn];show IntKind.wrap .i64 (x*2^(min (Int.ofNat v).toNat IntKind.i64.bits))=_;rw[show min (Int.ofNat v).toNat IntKind.i64.bits=v by simp[IntKind.bits];omega,dh (by omega) (by omega)]
  have Gb:aw .i64 (bg m (CX .i64 x (Int.ofNat v)))=z:=by
   rw[hshl,←ak,←aO];simp only[ct,jk];rw[Mk,hz,dh]<;>omega
  refine gK ?_;refine ai ⟨aY,trivial,?_⟩;rw[Gb,←Mk];rw[wS ak aO (v:=v) (by omega)]
  cbv
 ·have aY:v=s.length:=by rw[←aD,←aB]at hd;simp at hd;omega
  have hpw:(2:Int)^v≤1024:=by
   have h1:v=0∨v=1∨v=2∨v=3∨v=4∨v=5∨v=6∨v=7∨v=8∨v=9∨v=10:=by omega
   rcases h1 with h|h|h|h|h|h|h|h|h|h|h<;>rw[h]<;>decide
  have iP:∀x y,bg x y=x+y:=fun _ _=>by rw[←aO];rfl
  have dD:∀x y,b5 x y=x-y:=fun _ _=>by rw[←cQ];rfl
  have hmul:∀x y,eW x y=x*y:=fun _ _=>by rw[←j6];rfl
  have qt:∀x y,0≤x→fS x y=x/y:=fun _ _ h=>by rw[←j0];exact Int.tdiv_eq_ediv_of_nonneg h
  have qu:∀x y,0≤x→eO x y=x%y:=fun _ _ h=>by rw[←iu];exact Int.tmod_eq_emod_of_nonneg h
  have hW:∀x,-9223372036854775808≤x→x<9223372036854775808→aw .i64 x=x:=fun _ h1 h2=>by rw[←ak];exact dh h1 h2
  have D1:∀x,0≤x→x<256→aw .u8 x=x:=fun _ h1 h2=>by rw[←ak];exact KD h1 h2
  refine dp ?_;refine au rfl ?_;refine gK ?_;refine ae (by rw[←iR];simp) ?_;refine gK ?_;refine ae (by rw[←iR];simp) ?_;refine gK ?_;refine aN ?_;rw[qu m _ (by omega),qu _ _ (by omega),iP,hW _ (by omega) (by omega),D1 _ (by omega) (by omega),hr,←aY,hm]
theorem vD {s:List UInt8} {n:Nat}:∀{k:Nat},k≤n→summed (s.take n) k=summed s k
 |0,_=>rfl
 |k+1,h=>by
  simp only[summed];rw[vD (k:=k) (by omega)]
  congr 2
  unfold at_;simp only[List.getD_eq_getElem?_getD,List.getElem?_take,show k<n by omega,if_pos]
noncomputable def yk (s:List UInt8):Int:=if s.length=11∧sC s then(if 48+summed s 10%11%10=at_ s 10 then 0 else 31)else 30
theorem Fj {s:List UInt8}:yk s=0↔iq s:=by
 unfold yk iq;split
 ·rename_i h;split
  ·rename_i h2;exact⟨fun _=>⟨h.1,h.2,by omega⟩,fun _=>rfl⟩
  ·rename_i h2;exact⟨fun h3=>by omega,fun h3=>absurd h3.2.2 (by omega)⟩
 ·rename_i h;exact⟨fun h3=>by omega,fun h3=>absurd ⟨h3.1,h3.2.1⟩ h⟩
theorem Le {s:List UInt8} {e:Int} (hr:e=yk s):pC mx 292 [.str s] (.int .i64 e):=by
 unfold yk at hr;refine pZ OR ?_
 iterate 90 intro _
 intro og lD oU
 iterate 16 intro _
 intro gy fE gA
 iterate 17 intro _
 intro aB aV aW bp bu ah aD;refine gK ?_;refine bl.af (fun h1=>?_) (fun h1=>?_)
 ·replace h1:=eT h1
  refine dp ?_;refine aN ?_;rw[hr,if_neg (fun h=>by omega)]
 ·replace h1:=eT h1
  have hlen:s.length=11:=by omega
  refine dp ?_;refine bX (by cbv) (IA (by omega) rfl) (fun h=>?_) (fun h=>?_)<;>simp only[decide_eq_true_eq,decide_eq_false_iff_not]at h
  ·have hF:=h.2;obtain⟨t,ht⟩:∃t,t=s.take 10:=⟨_,rfl⟩
   have YJ:t.length=10:=by rw[ht];simp;omega
   have nV:∀k,k<10→at_ t k=at_ s k:=fun k hk=>by
    rw[ht];unfold at_;simp only[List.getD_eq_getElem?_getD,List.getElem?_take,hk,if_pos]
   obtain⟨d,hd⟩:∃d,d=48+summed t t.length%11%10:=⟨_,rfl⟩
   have I7:d=48+summed s 10%11%10:=by rw[hd,YJ,ht,vD (by omega)]
   obtain⟨b,hb⟩:∃b,b=at_ s 10:=⟨_,rfl⟩
   have hbs:fE s 10=b:=by rw[←gA,hb];rfl
   rw[←I7,←hb]at hr;refine gK ?_;refine ae (by rw[←og];simp;omega) ?_;rw[show lD s 0 10=t by rw[←oU,ht];simp];refine gK ?_;refine ao (by cbv) (Ld (fun k hk=>by rw[nV k (by omega)];exact ju.letter (hF k (by omega))) (by omega) hd) (fun h=>by first|rfl|cases h) ?_;refine gK ?_;refine ae (by rw[←gy];simp;omega) ?_;rw[hbs];refine gK ?_
   repeat' (first|refine rQ ?_|(refine vy (fun hc=>?_) (fun hc=>?_)<;>(try simp at hc)<;>(try(exfalso;omega))))
   all_goals(refine aN ?_)
   ·rw[hr,if_pos ⟨hlen,hF⟩,if_neg (by omega)]
   ·rw[hr,if_pos ⟨hlen,hF⟩,if_pos (by omega)]
  ·refine gK ?_;refine aN ?_;rw[hr,if_neg (fun h'=>h ⟨by omega,h'.2⟩)]
theorem Wa {s:List UInt8} {r:Bool} (hr:r=decide (iq s)):pC mx 230 [.str s] (.bool r):=by
 obtain⟨e,he⟩:∃e,e=yk s:=⟨_,rfl⟩;have fV:=Fj (s:=s);rw[←he]at fV;refine pZ OS ?_
 iterate 129 intro _
 intro aB aV aW bp bu ah aD;refine gK ?_;refine an (by cbv) (Le he) (fun h=>by first|rfl|cases h) ?_;refine gK ?_
 repeat' (first|refine rQ ?_|(refine vy (fun hc=>?_) (fun hc=>?_)<;>(try simp at hc)<;>(try(exfalso;omega))))
 all_goals(refine aN ?_)
 all_goals first|exact tr hr (fV.1 (by omega))|exact fa hr (fun h=>by have:=fV.2 h;omega)
theorem Lf {n lo hi:Int} {r:Bool} (hr:r=decide (In n lo hi)):pC mx 228 [.int .i64 n,.int .i64 lo,.int .i64 hi] (.bool r):=by
 refine pZ OI ?_
 iterate 129 intro _
 intro aB aV aW bp bu ah aD;refine gK ?_
 repeat' (first|refine rQ ?_|(refine vy (fun hc=>?_) (fun hc=>?_)<;>(try simp at hc)<;>(try(exfalso;omega))))
 all_goals(refine aN ?_)
 all_goals first|exact tr hr ⟨by assumption,by assumption⟩|(refine fa hr ?_;rintro⟨h1,h2⟩;omega)
theorem Pp {size r:Int} (hr:r=most size):pC mx 233 [.int .u8 size] (.int .i64 r):=by
 unfold most at hr;refine pZ OV ?_
 iterate 129 intro _
 intro aB aV aW bp bu ah aD;refine gK ?_
 repeat' (first|refine rQ ?_|(refine vy (fun hc=>?_) (fun hc=>?_)<;>(try simp at hc)<;>(try(exfalso;omega))))
 all_goals(refine aN ?_)
 all_goals(subst hr;(repeat' split)<;>first|rfl|(exfalso;omega)|contradiction)
abbrev boxP (id:Int) (num:List UInt8) (size:Int) (high:Bool) (ca load nC cls:Int) (bS:Bool):List PV:=[.int .i64 id,.str num,.int .u8 size,.bool high,.int .i64 ca,.int .i64 load,.int .i64 nC,.int .u8 cls,.bool bS]
theorem abp {id:Int} {num:List UInt8} {size:Int} {high:Bool} {ca load nC cls:Int} {bS:Bool} {r:Bool} (hr:r=decide (In id 1 999999)):pC mx 227 [.ptr [.int .i64 id,.str num,.int .u8 size,.bool high,.int .i64 ca,.int .i64 load,.int .i64 nC,.int .u8 cls,.bool bS]] (.bool r):=by
 refine pZ OJ ?_
 iterate 129 intro _
 intro aB aV aW bp bu ah aD;refine gK ?_;refine bX (by cbv) (Lf hr) (fun h=>?_) (fun h=>?_)
 all_goals
  refine gK ?_;refine aN ?_;rw[h]
theorem abq {id:Int} {num:List UInt8} {size:Int} {high:Bool} {ca load nC cls:Int} {bS:Bool} {r:Bool} (hr:r=decide (num=[]∨iq num)):pC mx 229 [.ptr [.int .i64 id,.str num,.int .u8 size,.bool high,.int .i64 ca,.int .i64 load,.int .i64 nC,.int .u8 cls,.bool bS]] (.bool r):=by
 refine pZ OT ?_
 iterate 129 intro _
 intro aB aV aW bp bu ah aD;refine gK ?_;refine bl.af (fun h1=>?_) (fun h1=>?_)
 ·replace h1:=eT h1
  refine dp ?_;refine aN ?_;exact tr hr (Or.inl h1)
 ·replace h1:=eT h1
  refine dp ?_;refine bX (by cbv) (Wa rfl) (fun h=>?_) (fun h=>?_)<;>simp only[decide_eq_true_eq,decide_eq_false_iff_not]at h
  ·refine gK ?_;refine aN ?_;exact tr hr (Or.inr h)
  ·refine gK ?_;refine aN ?_;refine fa hr ?_;rintro(h2|h2)
   ·exact h1 h2
   ·exact h h2
theorem abr {id:Int} {num:List UInt8} {size:Int} {high:Bool} {ca load nC cls:Int} {bS:Bool} {r:Bool} (hr:r=decide (high=true→size=40)):pC mx 231 [.ptr [.int .i64 id,.str num,.int .u8 size,.bool high,.int .i64 ca,.int .i64 load,.int .i64 nC,.int .u8 cls,.bool bS]] (.bool r):=by
 cases high
 all_goals
  refine pZ OU ?_
  iterate 129 intro _
  intro aB aV aW bp bu ah aD;refine gK ?_
  repeat' (first|refine rQ ?_|(refine vy (fun hc=>?_) (fun hc=>?_)<;>(try simp at hc)<;>(try(exfalso;omega))))
  all_goals(refine aN ?_)
  all_goals first|(refine tr hr (fun h=>?_);first|assumption|(cases h))|(refine fa hr (fun h=>?_);have:=h rfl;contradiction)
theorem abt {id:Int} {num:List UInt8} {size:Int} {high:Bool} {ca load nC cls:Int} {bS:Bool} {r:Bool} (hr:r=decide (In ca 1 (most size))):pC mx 232 [.ptr [.int .i64 id,.str num,.int .u8 size,.bool high,.int .i64 ca,.int .i64 load,.int .i64 nC,.int .u8 cls,.bool bS]] (.bool r):=by
 obtain⟨m,hm⟩:∃m,m=most size:=⟨_,rfl⟩;rw[←hm]at hr;refine pZ OW ?_
 iterate 129 intro _
 intro aB aV aW bp bu ah aD;refine gK ?_;refine ao (by cbv) (Pp hm) (fun h=>by first|rfl|cases h) ?_;refine gK ?_;refine im (by cbv) (Lf hr) (fun h=>?_) (fun h=>?_)
 all_goals
  refine gK ?_;refine aN ?_;rw[h]
theorem abu {id:Int} {num:List UInt8} {size:Int} {high:Bool} {ca load nC cls:Int} {bS:Bool} {r:Bool} (hr:r=decide (0≤load∧load<nC∧nC<20)):pC mx 234 [.ptr [.int .i64 id,.str num,.int .u8 size,.bool high,.int .i64 ca,.int .i64 load,.int .i64 nC,.int .u8 cls,.bool bS]] (.bool r):=by
 refine pZ OX ?_
 iterate 129 intro _
 intro aB aV aW bp bu ah aD;refine gK ?_
 repeat' (first|refine rQ ?_|(refine vy (fun hc=>?_) (fun hc=>?_)<;>(try simp at hc)<;>(try(exfalso;omega))))
 all_goals(refine aN ?_)
 all_goals first|(refine tr hr ?_;omega)|(refine fa hr ?_;omega)
theorem abv {id:Int} {num:List UInt8} {size:Int} {high:Bool} {ca load nC cls:Int} {bS:Bool} {r:Bool} (hr:r=decide (cls≤9)):pC mx 235 [.ptr [.int .i64 id,.str num,.int .u8 size,.bool high,.int .i64 ca,.int .i64 load,.int .i64 nC,.int .u8 cls,.bool bS]] (.bool r):=by
 refine pZ OY ?_
 iterate 129 intro _
 intro aB aV aW bp bu ah aD;refine gK ?_
 repeat' (first|refine rQ ?_|(refine vy (fun hc=>?_) (fun hc=>?_)<;>(try simp at hc)<;>(try(exfalso;omega))))
 all_goals(refine aN ?_)
 all_goals first|(refine tr hr ?_;omega)|(refine fa hr ?_;omega)
theorem Pq {f:FuncId} {cs:List PV} {b:Bool} (hf:pC mx f [.ptr cs] (.bool b)) {r:Bool} (hr:r= !b):pC mx 237 [.gZ f [.ptr cs]] (.bool r):=by
 refine pZ OZ ?_
 iterate 129 intro _
 intro aB aV aW bp bu ah aD;refine gK ?_;refine bX (by cbv) hf (fun h=>?_) (fun h=>?_)
 all_goals
  refine gK ?_;refine aN ?_;rw[hr,h];rfl
theorem Fk {l:List (FuncId×Bool)} {cs:List PV} {rows sp:List (List PV)} {r:Int} (cq:rows=l.map fun x=>[.gZ x.1 [.ptr cs]]) (hl:l.length<2^32) (hf:∀x∈l,pC mx x.1 [.ptr cs] (.bool x.2)) (hr:fQ (fun k=>∃h:k<l.length,l[k].2=false) l.length r):
  pC mx 293 [.sl rows sp,.gZ 237 []] (.int .i64 r):=by
 have hlen:rows.length=l.length:=by simp[cq]
 refine pZ OG ?_
 iterate 122 intro _
 intro aO _ ak aI aU aL aP aB aV aW bp bu ah aD;refine gK ?_;refine bG [0,1,6,7,8] [] (fun v σ_=>σ_.put (some 8) (.pv (.int .i64 (Int.ofNat v)))) (l.length) (fun k=>(∀h:k<l.length,l[k].2=true)) ?_;intro v hv hk;refine dC ?_;refine bl.af (fun hd=>?_) (fun hd=>?_)
 ·have aY:v<l.length:=by rw[←aD,←ah]at hd;simp at hd;omega
  obtain⟨⟨f,b⟩,hx⟩:∃x,l[v]=x:=⟨_,rfl⟩;have hc:=hf _ (List.getElem_mem aY);rw[hx]at hc
  have eQ:aL (Int.ofNat v) rows 1:=by rw[←aP,cq];exact aR (enc:=fun x:FuncId×Bool=>[PV.gZ x.1 [.ptr cs]]) aY rfl
  have bM:aI rows (Int.ofNat v)=[.gZ f [.ptr cs]]:=by rw[←aU,cq,aQ (enc:=fun x:FuncId×Bool=>[PV.gZ x.1 [.ptr cs]]) aY,hx]
  refine dp ?_;refine ae eQ ?_;rw[bM];refine gK ?_;refine bX (by cbv) (Pq hc rfl) (fun h=>?_) (fun h=>?_)
  ·refine gK ?_;refine dm ?_;rw[hr.at aY ⟨aY,by rw[hx];simpa using h⟩ (fun k eZ h'=>by have:=hk k eZ h'.1;rw[h'.2]at this;cases this)]
  ·refine gK ?_;refine ai ⟨aY,fun _=>by rw[hx];simpa using h,?_⟩;rw[wS ak aO (v:=v) (by omega)]
   cbv
 ·have aY:v=l.length:=by rw[←aD,←ah]at hd;simp at hd;omega
  refine dp ?_;refine au rfl ?_;refine gK ?_;refine aN ?_;rw[hr.none (fun k eZ h'=>by have:=hk k (by omega) h'.1;rw[h'.2]at this;cases this)]
theorem Fl {l:List (FuncId×Bool)} {cs:List PV} {rows sp:List (List PV)} {r:Bool} (cq:rows=l.map fun x=>[.gZ x.1 [.ptr cs]]) (hl:l.length<2^32) (hf:∀x∈l,pC mx x.1 [.ptr cs] (.bool x.2)) (hr:r=decide (∃x∈l,x.2=false)):
  pC mx 236 [.sl rows sp,.gZ 237 []] (.bool r):=by
 obtain⟨n,hn⟩:=fQ.ex (fun k=>∃h:k<l.length,l[k].2=false) l.length
 have fV:0≤n↔∃x∈l,x.2=false:=by
  rw[hn.iff];constructor
  ·rintro⟨v,h1,h2,h3⟩;exact⟨_,List.getElem_mem h2,h3⟩
  ·rintro⟨x,hx,h2⟩;obtain⟨v,h3,h4⟩:=List.getElem_of_mem hx;exact⟨v,h3,h3,by rw[h4];exact h2⟩
 refine pZ OH ?_
 iterate 129 intro _
 intro aB aV aW bp bu ah aD;refine gK ?_;refine an (by cbv) (Fk cq hl hf hn) (fun h=>by first|rfl|cases h) ?_;refine gK ?_
 repeat' (first|refine rQ ?_|(refine vy (fun hc=>?_) (fun hc=>?_)<;>(try simp at hc)<;>(try(exfalso;omega))))
 all_goals(refine aN ?_)
 all_goals first|exact tr hr (fV.1 (by omega))|exact fa hr (fun h=>by have:=fV.2 h;omega)
theorem Fm {x:cE} {cs:List PV} (kh:cs=x.enc) {r:Bool} (hr:r=decide (ir x)):pC mx 140 [.agg cs] (.bool r):=by
 subst kh;obtain⟨id,num,size,high,ca,load,nC,cls,bS⟩:=x;show pC mx 140 [.agg [.int .i64 id,.str num,.int .u8 size,.bool high,.int .i64 ca,.int .i64 load,.int .i64 nC,.int .u8 cls,.bool bS]] (.bool r);obtain⟨cs,kh⟩:∃cs:List PV,cs=[.int .i64 id,.str num,.int .u8 size,.bool high,.int .i64 ca,.int .i64 load,.int .i64 nC,.int .u8 cls,.bool bS]:=⟨_,rfl⟩;obtain⟨l,y4⟩:∃l:List (FuncId×Bool),l=[(227,decide (In id 1 999999)),(229,decide (num=[]∨iq num)),(231,decide (high=true→size=40)),(232,decide (In ca 1 (most size))),(234,decide (0≤load∧load<nC∧nC<20)),(235,decide (cls≤9))]:=⟨_,rfl⟩
 have hf:∀x∈l,pC mx x.1 [.ptr cs] (.bool x.2):=by
  intro x hx;rw[y4]at hx;simp only[List.mem_cons,List.not_mem_nil,or_false]at hx;rw[kh]
  rcases hx with rfl|rfl|rfl|rfl|rfl|rfl
  ·exact abp rfl
  ·exact abq rfl
  ·exact abr rfl
  ·exact abt rfl
  ·exact abu rfl
  ·exact abv rfl
 have Pr:(∃x∈l,x.2=false)↔¬ir ⟨id,num,size,high,ca,load,nC,cls,bS⟩:=by
  constructor
  ·rintro⟨x,hx,h⟩ ⟨h1,h2,h3,h4,h5,h6⟩;rw[y4]at hx;simp only[List.mem_cons,List.not_mem_nil,or_false]at hx
   rcases hx with rfl|rfl|rfl|rfl|rfl|rfl
   ·exact of_decide_eq_false h h1
   ·exact of_decide_eq_false h h2
   ·exact of_decide_eq_false h h3
   ·exact of_decide_eq_false h h4
   ·exact of_decide_eq_false h h5
   ·exact of_decide_eq_false h h6
  ·intro h
   refine Classical.byContradiction fun hn=>h ⟨?_,?_,?_,?_,?_,?_⟩
   ·exact Classical.byContradiction fun hc=>hn ⟨(227,decide (In id 1 999999)),by rw[y4];simp,decide_eq_false hc⟩
   ·exact Classical.byContradiction fun hc=>hn ⟨(229,decide (num=[]∨iq num)),by rw[y4];simp,decide_eq_false hc⟩
   ·exact Classical.byContradiction fun hc=>hn ⟨(231,decide (high=true→size=40)),by rw[y4];simp,decide_eq_false hc⟩
   ·exact Classical.byContradiction fun hc=>hn ⟨(232,decide (In ca 1 (most size))),by rw[y4];simp,decide_eq_false hc⟩
   ·exact Classical.byContradiction fun hc=>hn ⟨(234,decide (0≤load∧load<nC∧nC<20)),by rw[y4];simp,decide_eq_false hc⟩
   ·exact Classical.byContradiction fun hc=>hn ⟨(235,decide (cls≤9)),by rw[y4];simp,decide_eq_false hc⟩
 obtain⟨q,hq⟩:∃q:Bool,q=decide (∃x∈l,x.2=false):=⟨_,rfl⟩;have lI:=Fl (mx:=mx) (sp:=[]) (rows:=[[.gZ 227 [.ptr cs]],[.gZ 229 [.ptr cs]],[.gZ 231 [.ptr cs]],[.gZ 232 [.ptr cs]],[.gZ 234 [.ptr cs]],[.gZ 235 [.ptr cs]]]) (l:=l) (cs:=cs) (by rw[y4];rfl) (by rw[y4];simp) hf hq;rw[kh]at lI;refine pZ O0 ?_
 iterate 129 intro _
 intro aB aV aW bp bu ah aD;refine go 7 (by cbv) ?_;refine tL ?_;refine yd (Fg.Pf (id:=1) rfl rfl (by cbv)) ?_;refine gK ?_;refine bX (by cbv) lI (fun h=>?_) (fun h=>?_)
 ·refine gK ?_;refine aN ?_;refine fa hr ?_;exact Pr.1 (of_decide_eq_true (hq.symm.trans h))
 ·refine gK ?_;refine aN ?_;exact tr hr (Classical.byContradiction fun hn=>of_decide_eq_false (hq.symm.trans h) (Pr.2 hn))
end Go.bW
end
section
open Go Go.Am Go.Proofs
attribute [local irreducible] Am.bl.holds bA fw bC dv
namespace Go.bW
variable {mx:Int}
open Classical
def gn (l:List cE):Nat→List (List PV)
 |0=>[]
 |n+1=>match l[n]? with
  |none=>gn l n
  |some b=>match b.number with
   |[]=>gn l n
   |c::r=>gn l n++[[.str (c::r),.int .i64 (Int.ofNat n)]]
theorem mI {l:List cE} {r:List PV}:∀{n:Nat},r∈gn l n→∃k,k<n∧∃h:k<l.length,l[k].number≠[]∧r=[.str l[k].number,.int .i64 (Int.ofNat k)]
 |0,h=>by simp[gn]at h
 |n+1,h=>by
  unfold gn at h;split at h
  ·obtain⟨k,h1,h2⟩:=mI h;exact⟨k,by omega,h2⟩
  ·rename_i b hb;obtain⟨hn,gV⟩:=List.getElem?_eq_some_iff.1 hb;split at h
   ·obtain⟨k,h1,h2⟩:=mI h;exact⟨k,by omega,h2⟩
   ·rename_i c q Is
    rcases List.mem_append.1 h with h|h
    ·obtain⟨k,h1,h2⟩:=mI h;exact⟨k,by omega,h2⟩
    ·rw[List.mem_singleton]at h;exact⟨n,by omega,hn,by rw[gV,Is];simp,by rw[gV,Is];exact h⟩
theorem yl {l:List cE}:∀{n k:Nat},k<n→∀h:k<l.length,l[k].number≠[]→[PV.str l[k].number,.int .i64 (Int.ofNat k)]∈gn l n
 |0,k,h,_,_=>by omega
 |n+1,k,h,hk,dW=>by
  unfold gn
  by_cases e:k=n
  ·subst e;rw[List.getElem?_eq_getElem hk];simp only
   cases Is:l[k].number with
   |nil=>exact absurd Is dW
   |cons c r=>simp
  ·have:=yl (n:=n) (by omega) hk dW;split
   ·exact this
   ·split
    ·exact this
    ·exact List.mem_append_left _ this
theorem vE {l:List cE} {n:Nat} {s:List UInt8}:dP 1 (gn l n) [.str s]=true↔s≠[]∧∃k,k<n∧∃h:k<l.length,l[k].number=s:=by
 unfold dP;rw[List.any_eq_true];constructor
 ·rintro⟨r,h1,h2⟩;obtain⟨k,h3,h4,h5,rfl⟩:=mI h1;simp[bw]at h2;subst h2;exact⟨h5,k,h3,h4,rfl⟩
 ·rintro⟨h0,k,h1,h2,rfl⟩;exact⟨_,yl h1 h2 h0,by simp[bw]⟩
theorem Lg {l:List cE} {n:Nat} {s:List UInt8}:aG.Ea [2] 1 (gn l n) [.str s]:=by
 refine⟨rfl,by simp[aX],fun r hr=>?_⟩;obtain⟨k,h3,h4,h5,rfl⟩:=mI hr;simp[aX]
theorem Fo {l:List cE} {v:Nat} (h:v<l.length) (hn:l[v].number=[]):gn l (v+1)=gn l v:=by
 simp only[gn,List.getElem?_eq_getElem h,hn]
theorem Dw {l:List cE} {v:Nat} (h:v<l.length) (hn:l[v].number≠[]):gn l (v+1)=gn l v++[[.str l[v].number,.int .i64 (Int.ofNat v)]]:=by
 simp only[gn,List.getElem?_eq_getElem h]
 cases hq:l[v].number with
 |nil=>exact absurd hq hn
 |cons c r=>rfl
theorem Lh {rows sp:List (List PV)} {l:List cE} {i e:Int} (hr:rows=l.map cE.enc) (mO:ka l i e):pC mx 63 [.sl rows sp] (.ep [.int .i64 i,.int .i64 e]):=by
 have hlen:rows.length=l.length:=by simp[hr]
 refine pZ KO ?_
 iterate 33 intro _
 intro A8
 iterate 27 intro _
 intro Li
 iterate 12 intro _
 intro uB Fp
 iterate 12 intro _
 intro tq Ae
 iterate 32 intro _
 intro aO _ ak aI aU aL aP aB aV aW bp bu ah aD;refine gK ?_;refine bl.af (fun h1=>?_) (fun h1=>?_)
 ·replace h1:=eT h1
  refine dp ?_;refine aN ?_
  rcases mO with⟨h,rfl,rfl⟩|⟨h,_⟩|⟨h,_⟩
  ·rfl
  ·omega
  ·omega
 ·replace h1:=eT h1
  have Mb:l.length≤2000:=by omega
  obtain⟨last,s7⟩:∃f:Nat→Int,f=fun v=>if v=0 then 0 else match l[v-1]? with|some b=>b.id|none=>0:=⟨_,rfl⟩
  have Wb:last 0=0:=by rw[s7];rfl
  have Fq:∀v (h:v<l.length),last (v+1)=l[v].id:=fun v h=>by rw[s7];simp[h]
  obtain⟨sn,XP⟩:∃f:Nat→List (List PV),f=gn l:=⟨_,rfl⟩
  have hsn0:sn 0=[]:=by rw[XP];rfl
  refine dp ?_;refine qf (fun v σ_=>(((σ_.tidy [4,5,14,15,16] (nn [13,13])).put (some 5) (.pv (.int .i64 (last v)))).put (some 16) (.pv (.int .i64 (Int.ofNat v)))).aC 13 (.map false false 1 (sn v))) l.length (fun k=>n0 l k) (by rw[Wb,hsn0];exact Fg.b8 [4,5,14,15,16] (nn [13,13]) rfl (by cbv)) ?_;intro v hv hk
  try dsimp only
  generalize hm:sn v=m;generalize hq:last v=q;refine dC ?_;refine bl.af (fun hd=>?_) (fun hd=>?_)
  ·have aY:v<l.length:=by rw[←aD,←ah]at hd;simp at hd;omega
   obtain⟨kD,bh⟩:∃x,l[v]=x:=⟨_,rfl⟩
   have bx:aL (Int.ofNat v) rows 9:=by rw[←aP,hr];exact aR (enc:=cE.enc) aY rfl
   obtain⟨⟨mP,eH,gi,gj,dY,gk,jJ,jK,dJ⟩,cK⟩:∃y,kD=y:=⟨_,rfl⟩;subst cK
   have a6:aI rows (Int.ofNat v)=[.int .i64 mP,.str eH,.int .u8 gi,.bool gj,.int .i64 dY,.int .i64 gk,.int .i64 jJ,.int .u8 jK,.bool dJ]:=by rw[←aU,hr,aQ (enc:=cE.enc) aY,bh];rfl
   have bad:¬n0 l v→i=Int.ofNat v∧e=60:=fun h=>mO.bad Mb aY hk h
   have tN:tq [2] 1 m [.str eH]:=by rw[←Ae,←hm,XP];exact Lg
   refine dp ?_;refine ae bx ?_;rw[a6];refine gK ?_;refine ae tN ?_
   cases hh:A8 1 m [.str eH]
   rotate_left
   ·rw[←Li,←hm,XP]at hh;obtain⟨hh1,k,Yr,hh3,hh4⟩:=vE.1 hh;refine gK ?_;refine dm ?_;obtain⟨rfl,rfl⟩:=bad (fun hb=>(hb aY).2.1 k Yr (by rw[bh];exact hh1) (by rw[bh];exact hh4));rfl
   ·rw[←Li,←hm,XP]at hh
    have AG:∀k,(eZ:k<v)→(eH≠[]→l[k].number≠eH):=fun k eZ h1 h2=>by
     rw[show aG.Av 1 (gn l v) [.str eH]=true from vE.2 ⟨h1,k,eZ,by omega,h2⟩]at hh
     cases hh
    refine gK ?_;refine bl.af (fun h2=>?_) (fun h2=>?_)
    ·replace h2:=eT h2
     refine dp ?_;refine dm ?_
     obtain⟨rfl,rfl⟩:=bad (fun hb=>by
      have h3:=hb aY;rw[bh]at h3
      by_cases e0:v=0
      ·subst e0;have:=h3.1.1.1;dsimp only at this;omega
      ·obtain⟨w,rfl⟩:∃w,v=w+1:=⟨v-1,by omega⟩;have:=h3.2.2 (by omega) (by omega);rw[Fq w (by omega)]at hq;simp only[Nat.add_sub_cancel]at this
       try dsimp only at this
       omega)
     rfl
    ·replace h2:=eT h2
     have hid:v≠0→∀hk:v-1<l.length,l[v-1].id<mP:=fun h0 _=>by
      obtain⟨w,rfl⟩:∃w,v=w+1:=⟨v-1,by omega⟩;rw[Fq w (by omega)]at hq;simp only[Nat.add_sub_cancel];rw[hq];exact h2
     refine dp ?_;refine bX (by cbv) (Fm (x:=⟨mP,eH,gi,gj,dY,gk,jJ,jK,dJ⟩) rfl rfl) (fun h=>?_) (fun h=>?_)<;>simp only[decide_eq_true_eq,decide_eq_false_iff_not]at h
     ·have e6:n0 l v:=fun _=>⟨by rw[bh];exact h,fun k eZ=>by rw[bh];exact AG k eZ,fun h0 h1=>by rw[bh];exact hid h0 h1⟩
      have q0:last (v+1)=mP:=by rw[Fq v aY,bh]
      refine gK ?_;refine bl.af (fun h3=>?_) (fun h3=>?_)
      ·replace h3:=eT h3
       have XQ:uB 1 m [.str eH] [.int .i64 (Int.ofNat v)]=sn (v+1):=by
        rw[←Fp,←hm,XP,Dw aY (by rw[bh];exact h3),bh];show(match dP 1 (gn l v) [.str eH]with|true=>_|false=>_)=_;rw[show dP 1 (gn l v) [.str eH]=false from hh];rfl
       refine dp ?_;refine ae tN ?_;refine gK ?_;refine ai ⟨aY,e6,?_⟩;rw[XQ,q0];rw[wS ak aO (v:=v) (by omega)];exact Fg.b8 [4,5,14,15,16] (nn [13,13]) rfl (by cbv)
      ·replace h3:=eT h3
       have XQ:m=sn (v+1):=by rw[←hm,XP,Fo aY (by rw[bh];exact h3)]
       refine dp ?_;refine ai ⟨aY,e6,?_⟩;rw[q0,←XQ];rw[wS ak aO (v:=v) (by omega)];exact Fg.b8 [4,5,14,15,16] (nn [13,13]) rfl (by cbv)
     ·refine gK ?_;refine dm ?_;obtain⟨rfl,rfl⟩:=bad (fun hb=>h (by have:=(hb aY).1;rw[bh]at this;exact this));rfl
  ·have aY:v=l.length:=by rw[←aD,←ah]at hd;simp at hd;omega
   refine dp ?_;refine au rfl ?_;refine gK ?_;refine aN ?_;obtain⟨rfl,rfl⟩:=mO.EE Mb (fun k h=>hk k (by omega));rfl
end Go.bW
end
