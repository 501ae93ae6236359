import Derived.Test.YtfaccbkibjkfjaaGreatDoorT13
import Derived.Test.YtfaccbkibjkfjaaGreatDoorT12
import Derived.Test.YtfaccbkibjkfjaaGreatDoorT07
import Derived.Test.YtfaccbkibjkfjaaGreatDoorT41
import Derived.Test.YtfaccbkibjkfjaaGreatDoorT29
import Derived.Test.YtfaccbkibjkfjaaGreatDoorT14
set_option linter.all false
set_option maxRecDepth 100000
set_option maxHeartbeats 1000000
section
open Go Go.Am Go.Proofs
attribute [local irreducible] Am.bp.holds bH fw bP ek
namespace Go.b8
variable {mx:Int}
open Classical
theorem Hi {a b:Int} {r:Bool} (hr:r=decide (pj a b)):pC mx 274 [.int .u8 a,.int .u8 b] (.bool r):=by
 refine pZ FJ ?_
 iterate 129 intro _
 intro aB aU aV bC bA ag aC;refine gK ?_
 repeat' (first|refine gH ?_|(refine iE (fun hc=>?_) (fun hc=>?_)<;>(try simp at hc)<;>(try(exfalso;omega))))
 all_goals(refine aX ?_)
 all_goals first|(refine tr hr ?_;unfold pj;omega)|(refine fa hr ?_;unfold pj;omega)
theorem F5 {a b:Slot} {r:Bool} (hr:r=decide (zV a b)):pC mx 192 [.agg [.int .i64 a.column,.int .i64 a.hP,.int .u8 a.half],.agg [.int .i64 b.column,.int .i64 b.hP,.int .u8 b.half]] (.bool r):=by
 obtain⟨c1,t1,h1⟩:=a;obtain⟨c2,t2,h2⟩:=b;dsimp only;refine pZ FK ?_
 iterate 129 intro _
 intro aB aU aV bC bA ag aC;refine gK ?_
 repeat' (first|refine gH ?_|(refine iE (fun hc=>?_) (fun hc=>?_)<;>(try simp at hc)<;>(try(exfalso;omega))))
 all_goals try(refine cU (by cbv) (Hi rfl) (fun h=>?_) (fun h=>?_)<;>simp only[decide_eq_true_eq,decide_eq_false_iff_not]at h<;>refine gK ?_)
 all_goals(refine aX ?_)
 all_goals first|(refine tr hr ⟨?_,?_,?_⟩<;>assumption)|(refine fa hr ?_;rintro⟨h3,h4,h5⟩;dsimp only at h3 h4 h5;first|omega|contradiction)
theorem yI {x:b6} {cs:List PV} {k:Int} (hcs:cs=x.enc) {r:Bool} (hr:r=decide (lG x k)):pC mx 66 [.agg cs,.int .i64 k] (.bool r):=by
 subst hcs;obtain⟨id,num,size,high,cD,load,oz,cls,cK⟩:=x;show pC mx 66 [.agg [.int .i64 id,.str num,.int .u8 size,.bool high,.int .i64 cD,.int .i64 load,.int .i64 oz,.int .u8 cls,.bool cK],.int .i64 k] (.bool r);refine pZ Jv ?_
 iterate 129 intro _
 intro aB aU aV bC bA ag aC;refine gK ?_
 repeat' (first|refine gH ?_|(refine iE (fun hc=>?_) (fun hc=>?_)<;>(try simp at hc)<;>(try(exfalso;omega))))
 all_goals(refine aX ?_)
 all_goals first|(refine tr hr ⟨?_,?_⟩<;>dsimp only<;>omega)|(refine fa hr ?_;rintro⟨h1,h2⟩;dsimp only at h1 h2;omega)
theorem J0 {rows sp S:List (List PV)} {l:List aH} (eS:rows=l.map aH.enc) (hS:S=(l.map (·.slot)).map Slot.enc) (hl:l.length<2^32):pC mx 188 [.sl rows sp] (.sl S []):=by
 have hlen:rows.length=l.length:=by simp[eS]
 have hSl:S.length=l.length:=by simp[hS]
 have bS:aK 3 S:=by rw[hS];exact bl (enc:=Slot.enc) (fun _=>rfl) _
 have htk:∀v,aK 3 (S.take v):=fun v r hr=>bS r (List.mem_of_mem_take hr)
 refine pZ Fx ?_
 iterate 116 intro _
 intro dF bJ bX _ _ _ aw _ ah aI aQ aJ aP aB aU aV bC bA ag aC;refine gK ?_;refine JJ [3,6,7,8] (nn [3,3]) (fun v σ_=>(σ_.T5 3 3 3).put (some 8) (.pv (.int .i64 (Int.ofNat v)))|>.aq 3 (.rows 3 (S.take v) 0)) (l.length) (fun k=>True) (Fg.E5 [3,6,7,8] (nn [3,3]) 3 3 3 rfl (by first|rfl|(cbv;done)) (by first|rfl|(cbv;done)) (by first|exact Nat.le_of_ble_eq_true rfl|(cbv;done)) (by first|(cbv;done)|(simp;cbv;done)|(simp;rfl))) ?_
 intro v hv hk
 try dsimp only
 generalize dA:S.take v=cur;refine ej ?_;refine bp.af (fun hd=>?_) (fun hd=>?_)
 ·have aT:v<l.length:=by rw[←aC,←ag]at hd;simp at hd;omega
  obtain⟨gI,bj⟩:∃x,l[v]=x:=⟨_,rfl⟩
  have bG:aJ (Int.ofNat v) rows 4:=by rw[←aP,eS];exact aO (enc:=aH.enc) aT rfl
  obtain⟨⟨eH,⟨dO,du,ct⟩⟩,bW⟩:∃y,gI=y:=⟨_,rfl⟩;subst bW
  have aW:aI rows (Int.ofNat v)=[.int .i64 eH,.int .i64 dO,.int .i64 du,.int .u8 ct]:=by rw[←aQ,eS,aN (enc:=aH.enc) aT,bj];rfl
  have hvS:v<S.length:=by omega
  refine aY ?_;refine ae bG ?_;rw[aW];refine gK ?_;refine ae ?_ ?_
  ·rw[←dF,←dA];have:=htk v;simp[this,hSl];omega
  refine gK ?_;refine ak ⟨aT,trivial,?_⟩;rw[wS ah aw (v:=v) (by omega)]
  rw[show bJ cur [[.int .i64 dO,.int .i64 du,.int .u8 ct]]=S.take (v+1) by
   rw[←bX,←dA,List.take_succ_eq_append_getElem hvS,dj]
   congr 2
   subst hS;simp only[List.getElem_map];rw[bj]
   rfl]
  cbv
 ·have aT:v=l.length:=by rw[←aC,←ag]at hd;simp at hd;omega
  refine aY ?_;refine ar rfl ?_;refine gK ?_;refine aX ?_;rw[←dA,List.take_of_length_le (by omega)]
def mf (s:List UInt8) (low high:Int) (dg:Bool):Prop:=(low≤s.length∧s.length≤high)∧∀i,i<s.length→(65≤at_ s i∧at_ s i≤90)∨(dg=true∧48≤at_ s i∧at_ s i≤57)
theorem rf {s:List UInt8} {low high:Int} {dg res:Bool} (hl:s.length<2^32) (hr:res=decide (mf s low high dg)):pC mx 254 [.str s,.int .i64 low,.int .i64 high,.bool dg] (.bool res):=by
 cases dg
 ·refine pZ zG ?_
  iterate 102 intro _
  intro lB _ _ _ _ _ _ mc km me
  iterate 10 intro _
  intro aw _ ah _ _ _ _ aB aU aV bC bA ag aC;refine gK ?_;refine bQ [0,1,2,3,11,12] [] (fun v σ_=>σ_.put (some 12) (.pv (.int .i64 (Int.ofNat v)))) (s.length) (fun k=>((65≤at_ s k∧at_ s k≤90)∨(false=true∧48≤at_ s k∧at_ s k≤57))) ?_;intro v hv hk;refine ej ?_;refine bp.af (fun hd=>?_) (fun hd=>?_)
  ·have aT:v<s.length:=by rw[←aC,←aB]at hd;simp at hd;omega
   have qC:lB (Int.ofNat v) s:=by rw[←mc];simp;omega
   obtain⟨qc,kA⟩:∃b,b=at_ s v:=⟨_,rfl⟩
   have Cj:0≤qc∧qc<256:=by rw[kA];exact wm _ _
   have qD:km s (Int.ofNat v)=qc:=by rw[←me,kA];rfl
   have bad:¬((65≤qc∧qc≤90)∨(false=true∧48≤qc∧qc≤57))→¬mf s low high false:=fun h h'=>h (by rw[kA];exact h'.2 v aT)
   refine aY ?_
   repeat' (first
    |refine gH ?_
    |(refine ae qC ?_;rw[qD];refine gK ?_)
    |(refine bp.af (fun hc=>?_) (fun hc=>?_)<;>(rw[←aC]at hc)<;>(try simp at hc)))
   all_goals first
    |(refine dS ?_;exact fa hr (bad (by simp;omega)))
    |(refine ak ⟨aT,by rw[←kA];simp;omega,?_⟩
      rw[wS ah aw (v:=v) (by omega)]
      cbv)
  ·have aT:v=s.length:=by rw[←aC,←aB]at hd;simp at hd;omega
   refine aY ?_;refine ar rfl ?_;refine gK ?_
   repeat' (first|refine gH ?_|(refine iE (fun hc=>?_) (fun hc=>?_)<;>(try simp at hc)<;>(try(exfalso;omega))))
   all_goals(refine aX ?_)
   all_goals first|exact tr hr ⟨⟨by omega,by omega⟩,fun i h=>hk i (by omega)⟩|(refine fa hr ?_;rintro⟨⟨h1,h2⟩,-⟩;omega)
 ·refine pZ zG ?_
  iterate 102 intro _
  intro lB _ _ _ _ _ _ mc km me
  iterate 10 intro _
  intro aw _ ah _ _ _ _ aB aU aV bC bA ag aC;refine gK ?_;refine bQ [0,1,2,3,11,12] [] (fun v σ_=>σ_.put (some 12) (.pv (.int .i64 (Int.ofNat v)))) (s.length) (fun k=>((65≤at_ s k∧at_ s k≤90)∨(true=true∧48≤at_ s k∧at_ s k≤57))) ?_;intro v hv hk;refine ej ?_;refine bp.af (fun hd=>?_) (fun hd=>?_)
  ·have aT:v<s.length:=by rw[←aC,←aB]at hd;simp at hd;omega
   have qC:lB (Int.ofNat v) s:=by rw[←mc];simp;omega
   obtain⟨qc,kA⟩:∃b,b=at_ s v:=⟨_,rfl⟩
   have Cj:0≤qc∧qc<256:=by rw[kA];exact wm _ _
   have qD:km s (Int.ofNat v)=qc:=by rw[←me,kA];rfl
   have bad:¬((65≤qc∧qc≤90)∨(true=true∧48≤qc∧qc≤57))→¬mf s low high true:=fun h h'=>h (by rw[kA];exact h'.2 v aT)
   refine aY ?_
   repeat' (first
    |refine gH ?_
    |(refine ae qC ?_;rw[qD];refine gK ?_)
    |(refine bp.af (fun hc=>?_) (fun hc=>?_)<;>(rw[←aC]at hc)<;>(try simp at hc)))
   all_goals first
    |(refine dS ?_;exact fa hr (bad (by simp;omega)))
    |(refine ak ⟨aT,by rw[←kA];simp;omega,?_⟩
      rw[wS ah aw (v:=v) (by omega)]
      cbv)
  ·have aT:v=s.length:=by rw[←aC,←aB]at hd;simp at hd;omega
   refine aY ?_;refine ar rfl ?_;refine gK ?_
   repeat' (first|refine gH ?_|(refine iE (fun hc=>?_) (fun hc=>?_)<;>(try simp at hc)<;>(try(exfalso;omega))))
   all_goals(refine aX ?_)
   all_goals first|exact tr hr ⟨⟨by omega,by omega⟩,fun i h=>hk i (by omega)⟩|(refine fa hr ?_;rintro⟨⟨h1,h2⟩,-⟩;omega)
theorem kind_ok {s:List UInt8} {res:Bool} (hl:s.length<2^32) (hr:res=decide (pS s)):pC mx 162 [.str s] (.bool res):=by
 have jr:mf s 6 6 false↔pS s:=by unfold mf pS sg;simp;omega
 refine pZ FP ?_
 iterate 129 intro _
 intro aB aU aV bC bA ag aC;refine gK ?_;refine cU (by cbv) (rf hl rfl) (fun h=>?_) (fun h=>?_)<;>simp only[decide_eq_true_eq,decide_eq_false_iff_not]at h
 ·refine gK ?_;refine aX ?_;exact tr hr (jr.1 h)
 ·refine gK ?_;refine aX ?_;exact fa hr (fun h'=>h (jr.2 h'))
theorem Ox {s:List UInt8} {res:Bool} (hl:s.length<2^32) (hr:res=decide (wq s)):pC mx 163 [.str s] (.bool res):=by
 have jr:mf s 1 14 true↔wq s:=
  ⟨fun⟨⟨h1,h2⟩,h3⟩=>⟨by omega,by omega,fun i hi=>by have:=h3 i hi;simpa using this⟩,fun⟨h1,h2,h3⟩=>⟨⟨by omega,by omega⟩,fun i hi=>by have:=h3 i hi;simpa using this⟩⟩
 refine pZ FQ ?_
 iterate 129 intro _
 intro aB aU aV bC bA ag aC;refine gK ?_;refine cU (by cbv) (rf hl rfl) (fun h=>?_) (fun h=>?_)<;>simp only[decide_eq_true_eq,decide_eq_false_iff_not]at h
 ·refine gK ?_;refine aX ?_;exact tr hr (jr.1 h)
 ·refine gK ?_;refine aX ?_;exact fa hr (fun h'=>h (jr.2 h'))
theorem tag_ok {s:List UInt8} {res:Bool} (hl:s.length<2^32) (hr:res=decide (Cb s)):pC mx 166 [.str s] (.bool res):=by
 have jr:mf s 3 3 false↔(s.length=3∧sg s):=by unfold mf sg;simp;omega
 refine pZ FT ?_
 iterate 129 intro _
 intro aB aU aV bC bA ag aC;refine gK ?_;refine cU (by cbv) (rf hl rfl) (fun h=>?_) (fun h=>?_)<;>simp only[decide_eq_true_eq,decide_eq_false_iff_not]at h
 ·have h':=jr.1 h;refine gK ?_
  repeat' (first|refine gH ?_|(refine iE (fun hc=>?_) (fun hc=>?_)<;>(try simp at hc)<;>(try(exfalso;omega))))
  all_goals(refine aX ?_)
  all_goals first|exact tr hr ⟨h'.1,h'.2,by assumption,by assumption⟩|(refine fa hr ?_;rintro⟨-,-,h2,h3⟩;contradiction)
 ·refine gK ?_;refine aX ?_;exact fa hr (fun h'=>h (jr.2 ⟨h'.1,h'.2.1⟩))
end Go.b8
end
section
open Go Go.Am
namespace Go.b8
open Classical
abbrev Key:=Int×Int×Int
def ic (k:Key):List PV:=[.int .i64 k.1,.int .i64 k.2.1,.int .i64 k.2.2]
def Ae (x:Key×Nat):List PV:=[.int .i64 x.1.1,.int .i64 x.1.2.1,.int .i64 x.1.2.2,.int .i64 (Int.ofNat x.2)]
def eh (m:List (Key×Nat)):List (List PV):=m.map Ae
def bump:List (Key×Nat)→Key→List (Key×Nat)
 |[],k=>[(k,1)]
 |(k',n)::r,k=>if k=k' then(k',n+1)::r else(k',n)::bump r k
def sG:List (Key×Nat)→Key→Nat
 |[],_=>0
 |(k',n)::r,k=>if k=k' then n else sG r k
def jm (ks:List Key):List (Key×Nat):=ks.foldl bump []
theorem nS (ks:List Key) (k:Key):jm (ks++[k])=bump (jm ks) k:=by simp[jm,List.foldl_append]
theorem F6 (k:Key) (x:Key×Nat):bx (ic k) ((Ae x).take 3)=decide (k=x.1):=by
 obtain⟨a,b,c⟩:=k;obtain⟨⟨a',b',c'⟩,n⟩:=x;simp only[ic,Ae,List.take_succ_cons,List.take_zero,bx]
 by_cases h1:a=a'<;>by_cases h2:b=b'<;>by_cases h3:c=c'<;>simp[h1,h2,h3]
theorem J1 {k:Key}:∀{m:List (Key×Nat)},dQ 3 (eh m) (ic k)=true↔∃n,(k,n)∈m
 |[]=>by simp[dQ,eh]
 |(k',n)::r=>by
  have ih:=J1 (k:=k) (m:=r);simp only[dQ,eh,List.map_cons,List.any_cons,F6,Bool.or_eq_true,decide_eq_true_eq]at ih ⊢;rw[ih];constructor
  ·rintro(rfl|⟨n',h⟩)
   ·exact⟨n,List.mem_cons_self ..⟩
   ·exact⟨n',List.mem_cons_of_mem _ h⟩
  ·rintro⟨n',h⟩
   rcases List.mem_cons.1 h with h|h
   ·left;exact congrArg Prod.fst h
   ·right;exact⟨n',h⟩
theorem R1 {k:Key}:∀{m:List (Key×Nat)},aF.xJ 3 (eh m) (ic k) [.int .i64 0]=.int .i64 (Int.ofNat (sG m k))
 |[]=>by simp[aF,jy,eh,sG]
 |(k',n)::r=>by
  have ih:=R1 (k:=k) (m:=r);simp only[aF,jy,eh,List.map_cons,List.find?_cons,F6]at ih ⊢
  by_cases h:k=k'
  ·subst h;simp[sG,Ae]
  ·simp only[h,decide_false,sG,if_false];exact ih
theorem te {α:Type} (f:α→α) (a:α) (l:List α) (i:Nat):(a::l).modify (i+1) f=a::l.modify i f:=by simp
theorem Cn {k:Key} {x:Key×Nat} {r:List (Key×Nat)}:dQ 3 (eh (x::r)) (ic k)=(decide (k=x.1)||dQ 3 (eh r) (ic k)):=by
 simp only[dQ,eh,List.map_cons,List.any_cons,F6]
theorem DY {k:Key} {x:Key×Nat} {r:List (Key×Nat)}:fb 3 (eh (x::r)) (ic k)=if k=x.1 then 0 else fb 3 (eh r) (ic k)+1:=by
 simp only[fb,eh,List.map_cons,List.findIdx_cons,F6]
 by_cases h:k=x.1<;>simp[h]
def setRow (rows:List (List PV)) (k:Key) (n:Nat):List (List PV):=((match dQ 3 rows (ic k)with|true=>rows|false=>rows++[ic k++[PV.int .i64 0]]).modify (fb 3 rows (ic k)) (fun r=>r.take 3++[PV.int .i64 (Int.ofNat n)]))
theorem yJ {k:Key}:∀{m:List (Key×Nat)},setRow (eh m) k (sG m k+1)=eh (bump m k)
 |[]=>by simp[setRow,eh,dQ,fb,bump,sG,Ae,ic]
 |(k',n)::r=>by
  have ih:=yJ (k:=k) (m:=r);unfold setRow at ih ⊢;rw[Cn,DY]
  by_cases h:k=k'
  ·subst h;simp[bump,sG,eh,Ae]
  ·simp only[h,decide_false,Bool.false_or,if_false,sG,bump]
   have e3:(match dQ 3 (eh r) (ic k)with|true=>eh ((k',n)::r)|false=>eh ((k',n)::r)++[ic k++[PV.int .i64 0]])=Ae (k',n)::(match dQ 3 (eh r) (ic k)with|true=>eh r|false=>eh r++[ic k++[PV.int .i64 0]]):=by
    cases dQ 3 (eh r) (ic k)<;>simp[eh]
   refine Eq.trans (congrArg (fun z=>List.modify z _ _) e3) ?_;rw[te,ih];rfl
theorem Vk {k:Key} {m:List (Key×Nat)}:aF.HT 3 (aF.sK 3 (eh m) (ic k) [.int .i64 0]) (aF.mix 3 (eh m) (ic k)) [.int .i64 (Int.ofNat (sG m k+1))]=eh (bump m k):=yJ
theorem aaW {k:Key} {m:List (Key×Nat)}:aF.CZ [1,1,1] 3 (eh m) (ic k):=by
 refine⟨rfl,by simp[aR,ic],fun r hr=>?_⟩;obtain⟨x,_,rfl⟩:=List.mem_map.1 hr;simp[aR,ic,Ae]
theorem aaX {k:Key} {m:List (Key×Nat)}:aF.min1 (aF.mix 3 (eh m) (ic k)) (aF.sK 3 (eh m) (ic k) [.int .i64 0]):=by
 refine⟨by simp[aF],?_⟩;simp only[aF]
 by_cases h:dQ 3 (eh m) (ic k)=true
 ·rw[h];simp only;unfold fb;have:=List.findIdx_lt_length_of_exists (p:=fun r=>bx (ic k) (r.take 3)) (xs:=eh m) (by simpa[dQ]using h);omega
 ·rw[Bool.not_eq_true]at h;rw[h];simp only[List.length_append,List.length_singleton];unfold fb;have:=List.findIdx_le_length (p:=fun r=>bx (ic k) (r.take 3)) (xs:=eh m);omega
theorem Co {k k':Key}:∀{m:List (Key×Nat)},sG (bump m k) k'=sG m k'+if k'=k then 1 else 0
 |[]=>by simp[bump,sG]
 |(q,n)::r=>by
  have ih:=Co (k:=k) (k':=k') (m:=r);simp only[bump]
  by_cases h:k=q
  ·subst h;simp only[if_pos,sG]
   by_cases h2:k'=k
   ·simp[h2]
   ·simp[h2]
  ·simp only[if_neg h,sG]
   by_cases h2:k'=q
   ·subst h2;rw[if_pos rfl,if_pos rfl,if_neg (fun e=>h e.symm)];rfl
   ·simp only[if_neg h2];exact ih
theorem wz {k:Key}:∀{m:List (Key×Nat)},(bump m k).map Prod.fst=if k∈m.map Prod.fst then m.map Prod.fst else m.map Prod.fst++[k]
 |[]=>by simp[bump]
 |(q,n)::r=>by
  have ih:=wz (k:=k) (m:=r);simp only[bump]
  by_cases h:k=q
  ·subst h;simp
  ·rw[if_neg h];simp only[List.map_cons,ih]
   by_cases h2:k∈List.map Prod.fst r
   ·rw[if_pos h2,if_pos (List.mem_cons_of_mem _ h2)]
   ·rw[if_neg h2,if_neg (by simp only[List.mem_cons,not_or];exact⟨h,h2⟩)];rfl
theorem Af {α:Type} {motive:List α→Prop} (h0:motive []) (h1:∀l a,motive l→motive (l++[a])) (l:List α):motive l:=by
 rw[←List.reverse_reverse l]
 induction l.reverse with
 |nil=>exact h0
 |cons a r ih=>rw[List.reverse_cons];exact h1 _ _ ih
theorem tf {k:Key}:∀{ks:List Key},sG (jm ks) k=ks.count k:=by
 intro ks;refine Af (motive:=fun ks=>sG (jm ks) k=List.count k ks) ?_ (fun ks q ih=>?_) ks
 ·simp[jm,sG]
 ·rw[nS,Co,ih,List.count_append,List.count_singleton]
  congr 1
  by_cases h:k=q
  ·simp[h]
  ·simp[h,Ne.symm h]
theorem Hj:∀{ks:List Key},((jm ks).map Prod.fst).Nodup:=by
 intro ks;refine Af (motive:=fun ks=>((jm ks).map Prod.fst).Nodup) ?_ (fun ks q ih=>?_) ks
 ·simp[jm]
 ·rw[nS,wz];split
  ·exact ih
  ·rename_i h;rw[List.nodup_append];exact⟨ih,by simp,fun a ha b hb=>by simp at hb;subst hb;exact fun e=>h (e▸ha)⟩
theorem F7 {x:Key×Nat}:∀{m:List (Key×Nat)},(m.map Prod.fst).Nodup→x∈m→sG m x.1=x.2
 |[],_,h=>by simp at h
 |(q,n)::r,hn,h=>by
  simp only[List.map_cons,List.nodup_cons]at hn
  rcases List.mem_cons.1 h with h|h
  ·subst h;simp[sG]
  ·have:x.1≠q:=fun e=>hn.1 (e▸List.mem_map_of_mem h)
   simp only[sG,if_neg this];exact F7 hn.2 h
theorem F8 {k:Key}:∀{m:List (Key×Nat)},0<sG m k→(k,sG m k)∈m
 |[],h=>by simp[sG]at h
 |(q,n)::r,h=>by
  simp only[sG]at h ⊢
  by_cases e:k=q
  ·subst e;simp
  ·simp only[if_neg e]at h ⊢;exact List.mem_cons_of_mem _ (F8 h)
theorem once {ks:List Key}:(∀x∈jm ks,x.2≤1)↔ks.Nodup:=by
 rw[List.nodup_iff_count];constructor
 ·intro h k;rw[←tf]
  by_cases hc:0<sG (jm ks) k
  ·exact h _ (F8 hc)
  ·omega
 ·intro h x hx;rw[←F7 Hj hx,tf];exact h x.1
theorem Vl {ks:List Key} {k:Key}:sG (jm ks) k≤ks.length:=by rw[tf];exact List.count_le_length
theorem aaY {ks:List Key}:(jm ks).length≤ks.length:=by
 revert ks
 intro ks;refine Af (motive:=fun ks=>(jm ks).length≤ks.length) ?_ (fun ks q ih=>?_) ks
 ·simp[jm]
 ·have h:((jm (ks++[q])).map Prod.fst).length≤((jm ks).map Prod.fst).length+1:=by
   rw[nS,wz];split
   ·omega
   ·simp
  simp only[List.length_map]at h;simp;omega
end Go.b8
end
section
open Go Go.Am
namespace Go.b8
open Classical
def pw (x:aL):Key:=(x.jj,x.row,if x.iZ then 1 else 0)
def j7 (x:bz):List Key:=x.rows.map fun r=>(x.jj,r,2)
theorem yK {a b:aL}:pw a≠pw b↔qz a b:=by
 unfold pw qz;simp only[ne_eq,Prod.mk.injEq]
 cases a.iZ<;>cases b.iZ<;>simp
theorem DZ {cl:List aL}:(cl.map pw).Nodup↔∀i,(h:i<cl.length)→∀k,(hk:k<i)→qz cl[k] cl[i]:=by
 unfold List.Nodup;rw[List.pairwise_map,List.pairwise_iff_getElem];constructor
 ·intro h i hi k hk;exact yK.1 (h k i (by omega) hi hk)
 ·intro h i j hi hj ot;exact yK.2 (h j hj i ot)
theorem rising {x:bz} (h:∀i,i<x.rows.length→qA x i):∀(j i:Nat),i<j→j<x.rows.length→x.rows.getD i 0<x.rows.getD j 0
 |0,i,ot,_=>by omega
 |j+1,i,ot,hj=>by
  have h1:=(h (j+1) hj).2.2;simp only[Nat.add_sub_cancel]at h1
  have h2:x.rows.getD j 0<x.rows.getD (j+1) 0:=by omega
  by_cases e:i=j
  ·subst e;exact h2
  ·have:=rising h j i (by omega) (by omega);omega
theorem rows_nodup {x:bz} (h:∀i,i<x.rows.length→qA x i):x.rows.Nodup:=by
 unfold List.Nodup;rw[List.pairwise_iff_getElem];intro i j hi hj ot e;have:=rising h j i ot hj;simp only[List.getD_eq_getElem?_getD,hi,hj,List.getElem?_eq_getElem,Option.getD_some]at this;omega
theorem D0 {vl:List bz} (hv:∀i,(h:i<vl.length)→iM vl[i]):(vl.flatMap j7).Nodup↔∀i,(h:i<vl.length)→∀k,(hk:k<i)→vl[k].jj=vl[i].jj→∀r,r∈vl[i].rows→r∉vl[k].rows:=by
 unfold List.Nodup;rw[List.pairwise_flatMap,List.pairwise_iff_getElem];constructor
 ·rintro⟨-,h⟩ i hi k hk hb r hr Yn;have:=h k i (by omega) hi hk (vl[k].jj,r,2) (by unfold j7;exact List.mem_map.2 ⟨r,Yn,rfl⟩) (vl[i].jj,r,2) (by unfold j7;exact List.mem_map.2 ⟨r,hr,rfl⟩);exact this (by rw[hb])
 ·intro h;refine⟨fun x hx=>?_,fun k i hk hi hki a ha b hb=>?_⟩
  ·obtain⟨i,hi,rfl⟩:=List.getElem_of_mem hx;have:=rows_nodup (hv i hi).2.2;unfold j7;rw[List.pairwise_map];unfold List.Nodup at this
   exact this.imp fun eb e=>by simp only[Prod.mk.injEq]at e;exact eb e.2.1
  ·unfold j7 at ha hb;obtain⟨r,hr,rfl⟩:=List.mem_map.1 ha;obtain⟨q,hq,rfl⟩:=List.mem_map.1 hb;intro e;simp only[Prod.mk.injEq]at e;obtain⟨e1,e2,-⟩:=e;subst e2;exact h i hi k hki e1 r hq hr
def kB (cl:List aL) (vl:List bz):List Key:=cl.map pw++vl.flatMap j7
theorem D1 {cl:List aL} {vl:List bz} (hv:∀i,(h:i<vl.length)→iM vl[i]):(kB cl vl).Nodup↔(∀i,(h:i<cl.length)→∀k,(hk:k<i)→qz cl[k] cl[i])∧∀i,(h:i<vl.length)→∀k,(hk:k<i)→vl[k].jj=vl[i].jj→∀r,r∈vl[i].rows→r∉vl[k].rows:=by
 unfold kB;rw[List.nodup_append,DZ,D0 hv];constructor
 ·rintro⟨h1,h2,-⟩;exact⟨h1,h2⟩
 ·rintro⟨h1,h2⟩;refine⟨h1,h2,fun a ha b hb e=>?_⟩;obtain⟨x,-,rfl⟩:=List.mem_map.1 ha;obtain⟨y,-,hy⟩:=List.mem_flatMap.1 hb;unfold j7 at hy;obtain⟨r,-,rfl⟩:=List.mem_map.1 hy;unfold pw at e;simp only[Prod.mk.injEq]at e;obtain⟨-,-,e⟩:=e;split at e<;>omega
theorem J2 {cl:List aL} {vl:List bz} (hl:1≤cl.length∧cl.length≤200∧vl.length≤40) (hc:∀i,(h:i<cl.length)→fX cl[i]) (hv:∀i,(h:i<vl.length)→iM vl[i]):cC cl vl↔(kB cl vl).Nodup:=by
 rw[D1 hv];unfold cC;constructor
 ·rintro⟨-,h1,h2⟩;exact⟨fun i hi=>(h1 i hi).2,fun i hi=>(h2 i hi).2⟩
 ·rintro⟨h1,h2⟩;exact⟨hl,fun i hi=>⟨hc i hi,h1 i hi⟩,fun i hi=>⟨hv i hi,h2 i hi⟩⟩
end Go.b8
end
section
open Go Go.Am Go.Proofs
attribute [local irreducible] Am.bp.holds bH fw bP ek
namespace Go.b8
variable {mx:Int}
open Classical
theorem D2 {f:FuncId} {p:Int→Bool} {s:List UInt8} {r:Int} (hf:∀x:Int,pC mx f [.int .i32 x] (.bool (p x))) (hp:∀x,128≤x→p x=true) (hl:s.length<2^32) (hr:eW (fun k=>p (at_ s k)=true) s.length r):
  pC mx 305 [.str s,.gM f [],.bool true] (.int .i64 r):=by
 refine pZ Ft ?_;intro _ _ _ Me _ _ _ _ _ _ _ _ zl
 iterate 30 intro _
 intro zq zr zt
 iterate 25 intro _
 intro D3 Vm Vn
 iterate 55 intro _
 intro aB aU aV bC bA ag aC;refine gK ?_;refine bQ [0,1,2,10] (nn [10,10]) (fun v σ_=>σ_.aq 10 (.fz s (Int.ofNat v))) (s.length) (fun k=>(p (at_ s k)=false)) ?_;intro v hv hk;refine ej ?_
 cases hd:Me (Int.ofNat v) (zl s)
 ·have aT:v=s.length:=by rw[←aC,←aB]at hd;simp at hd;omega
  refine aY ?_;refine ar rfl ?_;refine gK ?_;refine aX ?_;rw[hr.none (fun k eR h'=>by rw[hk k (by omega)]at h';cases h')]
 ·have aT:v<s.length:=by rw[←aC,←aB]at hd;simp at hd;omega
  obtain⟨b,hb⟩:∃b,b=at_ s v:=⟨_,rfl⟩;obtain⟨u,hu⟩:∃u,zq s (Int.ofNat v)=u:=⟨_,rfl⟩;obtain⟨w,hw⟩:∃w,zt (Int.ofNat v) (zr s (Int.ofNat v))=w:=⟨_,rfl⟩;refine aY ?_;rw[hu,hw];refine cU (by cbv) (hf u) (fun h=>?_) (fun h=>?_)
  ·refine gK ?_;refine dS ?_
   have XC:p (at_ s v)=true:=by
    by_cases Oy:at_ s v<128
    ·have:=(re Oy).1;rw[←D3]at hu;rw[←this];exact hu▸h
    ·exact hp _ (by omega)
   rw[hr.at aT XC (fun k eR h'=>by rw[hk k eR]at h';cases h')]
  ·have Oy:at_ s v<128:=by
    refine Classical.byContradiction fun hn=>?_
    have:=JT (s:=s) (v:=v) (by omega);rw[←D3]at hu;have qd:aF.rune s (Int.ofNat v)=u:=hu;rw[hp u (by rw[←qd];exact this)]at h
    cases h
   have XC:p (at_ s v)=false:=by
    have:=(re Oy).1;rw[←D3]at hu;rw[←this];exact hu▸h
   have Iu:w=Int.ofNat (v+1):=by
    rw[←hw,←Vn,←Vm];have:=(re Oy).2;show(Int.ofNat v)+aF.C0 s (Int.ofNat v)=_;rw[show aF.C0 s (Int.ofNat v)=1 from this];rfl
   rw[Iu];refine gK ?_;refine ak ⟨aT,XC,?_⟩
   cbv
theorem D4 {f:FuncId} {p:Int→Bool} {s:List UInt8} {r:Bool} (hf:∀x:Int,pC mx f [.int .i32 x] (.bool (p x))) (hp:∀x,128≤x→p x=true) (hl:s.length<2^32) (hr:r=decide (∃k,k<s.length∧p (at_ s k)=true)):
  pC mx 187 [.str s,.gM f []] (.bool r):=by
 obtain⟨n,hn⟩:=eW.ex (fun k=>p (at_ s k)=true) s.length;have h305:=D2 (mx:=mx) hf hp hl hn
 have h268:pC mx 268 [.str s,.gM f []] (.int .i64 n):=by
  refine pZ Fu ?_
  iterate 129 intro _
  intro aB aU aV bC bA ag aC;refine gK ?_;refine ao (by cbv) h305 (fun h=>by first|rfl|cases h) ?_;refine gK ?_;refine aX ?_;rfl
 have jr:=hn.iff;refine pZ Fv ?_
 iterate 129 intro _
 intro aB aU aV bC bA ag aC;refine gK ?_;refine ao (by cbv) h268 (fun h=>by first|rfl|cases h) ?_;refine gK ?_
 repeat' (first|refine gH ?_|(refine iE (fun hc=>?_) (fun hc=>?_)<;>(try simp at hc)<;>(try(exfalso;omega))))
 all_goals(refine aX ?_)
 all_goals first|exact tr hr (jr.1 (by omega))|exact fa hr (fun h=>by have:=jr.2 h;omega)
theorem J3 {x:Int} {r:Bool} (hr:r=decide (x<65∨90<x)):pC mx 186 [.int .i32 x] (.bool r):=by
 refine pZ Fw ?_
 iterate 129 intro _
 intro aB aU aV bC bA ag aC;refine gK ?_
 repeat' (first|refine gH ?_|(refine iE (fun hc=>?_) (fun hc=>?_)<;>(try simp at hc)<;>(try(exfalso;omega))))
 all_goals(refine aX ?_)
 all_goals first|(refine tr hr ?_;omega)|(refine fa hr ?_;omega)
theorem F9 {p:List UInt8} {a d:Int} {r:Bool} (hr:r=decide (tc p a d)):pC mx 92 [.agg [.str p,.int .i64 a,.int .i64 d]] (.bool r):=by
 have L3:(∃k,k<p.length∧(decide (at_ p k<65∨90<at_ p k))=true)↔¬∀i,i<p.length→65≤at_ p i∧at_ p i≤90:=by
  constructor
  ·rintro⟨k,h1,h2⟩ h;have:=h k h1;simp at h2;omega
  ·intro h
   refine Classical.byContradiction fun hn=>h fun i hi=>?_
   refine Classical.byContradiction fun h2=>hn ⟨i,hi,?_⟩
   simp;omega
 refine pZ Js ?_
 iterate 129 intro _
 intro aB aU aV bC bA ag aC;refine gK ?_;refine bp.af (fun h1=>?_) (fun h1=>?_)
 ·replace h1:=eE h1
  refine aY ?_;refine cU (by cbv) (D4 (f:=186) (p:=fun x=>decide (x<65∨90<x)) (fun x=>J3 rfl) (fun x hx=>by simp;omega) (by omega) rfl) (fun h=>?_) (fun h=>?_)<;>simp only[decide_eq_true_eq,decide_eq_false_iff_not]at h
  ·refine gK ?_;refine aX ?_;refine fa hr ?_;rintro⟨⟨-,h2⟩,-⟩;exact L3.1 (by simpa using h) h2
  ·have fF:∀i,i<p.length→65≤at_ p i∧at_ p i≤90:=Classical.byContradiction fun hn=>h (by simpa using L3.2 hn)
   refine gK ?_
   repeat' (first|refine gH ?_|(refine iE (fun hc=>?_) (fun hc=>?_)<;>(try simp at hc)<;>(try(exfalso;omega))))
   all_goals(refine aX ?_)
   all_goals first|exact tr hr ⟨⟨by omega,fF⟩,by omega,by omega⟩|(refine fa hr ?_;rintro⟨-,h3,h4⟩;omega)
 ·replace h1:=eE h1
  refine aY ?_;refine aX ?_;refine fa hr ?_;rintro⟨⟨h2,-⟩,-⟩;omega
theorem D5 {x:Int} {r:Bool} (hr:r=decide (65≤x∧x≤90)):pC mx 330 [.int .u8 x] (.bool r):=by
 refine pZ Nk ?_
 iterate 129 intro _
 intro aB aU aV bC bA ag aC;refine gK ?_
 repeat' (first|refine gH ?_|(refine iE (fun hc=>?_) (fun hc=>?_)<;>(try simp at hc)<;>(try(exfalso;omega))))
 all_goals(refine aX ?_)
 all_goals first|(refine tr hr ?_;omega)|(refine fa hr ?_;omega)
theorem Hk {x:Int} {r:Bool} (hr:r=decide (x=85∨x=74∨x=90)):pC mx 331 [.int .u8 x] (.bool r):=by
 refine pZ Nl ?_
 iterate 129 intro _
 intro aB aU aV bC bA ag aC;refine gK ?_
 repeat' (first|refine gH ?_|(refine iE (fun hc=>?_) (fun hc=>?_)<;>(try simp at hc)<;>(try(exfalso;omega))))
 all_goals(refine aX ?_)
 all_goals first|(refine tr hr ?_;omega)|(refine fa hr ?_;omega)
theorem Hl {x:Int} {r:Bool} (hr:r=decide (48≤x∧x≤57)):pC mx 332 [.int .u8 x] (.bool r):=by
 refine pZ Nn ?_
 iterate 129 intro _
 intro aB aU aV bC bA ag aC;refine gK ?_
 repeat' (first|refine gH ?_|(refine iE (fun hc=>?_) (fun hc=>?_)<;>(try simp at hc)<;>(try(exfalso;omega))))
 all_goals(refine aX ?_)
 all_goals first|(refine tr hr ?_;omega)|(refine fa hr ?_;omega)
theorem Vo:pC mx 328 [] (.agg [.gM 330 [],.gM 330 [],.gM 330 [],.gM 331 [],.gM 332 [],.gM 332 [],.gM 332 [],.gM 332 [],.gM 332 [],.gM 332 [],.gM 332 []]):=by
 refine pZ Np ?_
 iterate 129 intro _
 intro aB aU aV bC bA ag aC;refine gK ?_;refine aX ?_;rfl
theorem Hm {s:List UInt8} {r:Bool} (hl:s.length<2^32) (hr:r=decide (s.length≤11∧ra s)):pC mx 319 [.str s] (.bool r):=by
 have hF:ra s↔∀i,i<s.length→jc s i:=Iff.rfl;refine pZ Nq ?_
 iterate 78 intro _
 intro Ga vU Gb
 iterate 21 intro _
 intro lB _ _ _ _ _ _ mc km me
 iterate 10 intro _
 intro aw _ ah _ _ _ _ aB aU aV bC bA ag aC;refine gK ?_;refine ao (by cbv) Vo (fun h=>by first|rfl|cases h) ?_;refine gK ?_;refine bQ [0,3,6,7,8] (nn [3,3]) (fun v σ_=>σ_.put (some 8) (.pv (.int .i64 (Int.ofNat v)))) (s.length) (fun k=>(k<11∧jc s k)) ?_;intro v hv hk;refine ej ?_;refine bp.af (fun hd=>?_) (fun hd=>?_)
 ·have aT:v<s.length:=by rw[←aC,←aB]at hd;simp at hd;omega
  have qC:lB (Int.ofNat v) s:=by rw[←mc];simp;omega
  obtain⟨qc,kA⟩:∃b,b=at_ s v:=⟨_,rfl⟩
  have Cj:0≤qc∧qc<256:=by rw[kA];exact wm _ _
  have qD:km s (Int.ofNat v)=qc:=by rw[←me,kA];rfl
  have bad:¬jc s v→¬(s.length≤11∧ra s):=fun h h'=>h (h'.2 v aT)
  refine aY ?_;refine bp.af (fun h1=>?_) (fun h1=>?_)
  ·replace h1:=eE h1
   refine aY ?_;refine dS ?_;exact fa hr (fun h=>by omega)
  ·replace h1:=eE h1
   refine aY ?_;refine ae (by rw[←Ga];exact⟨by simp,by simp;omega⟩) ?_;rw[show vU (Int.ofNat v) 1=v by rw[←Gb];show(Int.ofNat v).toNat*1=v;simp]
   have mW:v=0∨v=1∨v=2∨v=3∨v=4∨v=5∨v=6∨v=7∨v=8∨v=9∨v=10:=by omega
   rcases mW with rfl|rfl|rfl|rfl|rfl|rfl|rfl|rfl|rfl|rfl|rfl
   all_goals
    refine gK ?_;refine ae qC ?_;rw[qD];refine gK ?_
    first
     |refine gG (by cbv) (D5 rfl) (fun h=>?_) (fun h=>?_)
     |refine gG (by cbv) (Hk rfl) (fun h=>?_) (fun h=>?_)
     |refine gG (by cbv) (Hl rfl) (fun h=>?_) (fun h=>?_)
   all_goals simp only[decide_eq_true_eq,decide_eq_false_iff_not]at h
   all_goals refine gK ?_
   all_goals first
    |(refine dS ?_;refine fa hr (bad ?_);unfold jc;rw[←kA];simp;omega)
    |(refine ak ⟨aT,⟨by omega,by unfold jc;rw[←kA];simp;omega⟩,?_⟩
      rw[wS ah aw (v:=_) (by omega)]
      cbv)
 ·have aT:v=s.length:=by rw[←aC,←aB]at hd;simp at hd;omega
  refine aY ?_;refine ar rfl ?_;refine gK ?_;refine aX ?_;refine tr hr ⟨?_,fun i hi=>(hk i (by omega)).2⟩
  refine Classical.byContradiction fun hn=>?_
  have:=(hk 11 (by omega)).1;omega
end Go.b8
end
section
open Go Go.Am Go.Proofs
attribute [local irreducible] Am.bp.holds bH fw bP ek
namespace Go.b8
variable {mx:Int}
open Classical
def Letter (b:Int):Prop:=(48≤b∧b≤57)∨(65≤b∧b≤90)
theorem jc.letter {s:List UInt8} {i:Nat} (h:jc s i):Letter (at_ s i):=by
 unfold jc at h;unfold Letter;split at h
 ·omega
 ·split at h<;>omega
theorem J4 {b r:Int} (hb:Letter b) (hr:r=val b):pC mx 329 [.int .u8 b] (.eN [.int .i64 r,.bool true]):=by
 unfold Letter at hb;refine pZ Nr ?_
 iterate 101 intro _
 intro Ab _ tV Ci _ yy J5 _ _ _ _ oZ sr _ _ _ _ _ cP cY df aw bu ah _ _ _ _ aB aU aV bC bA ag aC
 have zc:∀x y,df x y=x+y:=fun _ _=>by rw[←aw];rfl
 have fu:∀x y,cP x y=x-y:=fun _ _=>by rw[←cY];rfl
 have hmul:∀x y,tV x y=x*y:=fun _ _=>by rw[←Ci];rfl
 have aaZ:∀x y,0≤x→yy x y=x/y:=fun _ _ h=>by rw[←J5];exact Int.tdiv_eq_ediv_of_nonneg h
 have Vp:∀x y,0≤x→oZ x y=x%y:=fun _ _ h=>by rw[←sr];exact Int.tmod_eq_emod_of_nonneg h
 have hW:∀x,-9223372036854775808≤x→x<9223372036854775808→bu .i64 x=x:=fun _ h1 h2=>by rw[←ah];exact dy h1 h2
 have hW8:∀x,0≤x→x<256→bu .u8 x=x:=fun _ h1 h2=>by rw[←ah];exact wr8 h1 h2
 refine gK ?_
 repeat' (first|refine gH ?_|(refine iE (fun hc=>?_) (fun hc=>?_)<;>(try simp at hc)<;>(try(exfalso;omega))))
 ·refine aX ?_;rw[fu,hW8 _ (by omega) (by omega),hW _ (by omega) (by omega),hr];unfold val;rw[if_pos (by omega)]
 ·refine ae (by rw[←Ab];simp) ?_;refine gK ?_;refine aX ?_;simp(disch:=omega) only[fu,zc,aaZ,hW8,hW];rw[hr];unfold val;rw[if_neg (by omega)]
theorem yL {b:Int} (h:Letter b):0≤val b∧val b≤40:=by
 unfold Letter at h;unfold val;split<;>omega
theorem wA {s:List UInt8}:∀{n:Nat},(∀k,k<n→Letter (at_ s k))→0≤summed s n∧summed s n≤40*(2^n-1)
 |0,_=>by simp[summed]
 |n+1,h=>by
  obtain⟨h1,h2⟩:=wA (n:=n) (fun k hk=>h k (by omega));have hv:=yL (h n (by omega));simp only[summed];have hp:(0:Int)<2^n:=Int.pow_pos (by decide);have h3:0≤val (at_ s n)*2^n:=Int.mul_nonneg hv.1 (by omega);have h4:val (at_ s n)*2^n≤40*2^n:=Int.mul_le_mul_of_nonneg_right hv.2 (by omega);rw[Int.pow_succ];omega
theorem J6 {s:List UInt8} {r:Int} (hs:∀k,k<s.length→Letter (at_ s k)) (hl:s.length≤10) (hr:r=48+summed s s.length%11%10):pC mx 320 [.str s] (.int .u8 r):=by
 refine pZ Ns ?_;intro _ Bv
 iterate 45 intro _
 intro aa0 _ _ _ Vq
 iterate 49 intro _
 intro Ab lB tV Ci _ yy J5 _ mc km me oZ sr _ _ _ _ _ cP cY df aw bu ah _ _ _ _ aB aU aV bC bA ag aC;refine gK ?_;refine bQ [0,3,7,8,9] [] (fun v σ_=>σ_.put (some 3) (.pv (.int .i64 (summed s v)))|>.put (some 9) (.pv (.int .i64 (Int.ofNat v)))) (s.length) (fun k=>True) ?_;intro v hv hk
 try dsimp only
 generalize hm:summed s v=m;refine ej ?_;have LU:=wA (s:=s) (n:=v) (fun k hk=>hs k (by omega));rw[hm]at LU;refine bp.af (fun hd=>?_) (fun hd=>?_)
 ·have aT:v<s.length:=by rw[←aC,←aB]at hd;simp at hd;omega
  have qC:lB (Int.ofNat v) s:=by rw[←mc];simp;omega
  obtain⟨qc,kA⟩:∃b,b=at_ s v:=⟨_,rfl⟩
  have Cj:0≤qc∧qc<256:=by rw[kA];exact wm _ _
  have qD:km s (Int.ofNat v)=qc:=by rw[←me,kA];rfl
  have Vr:=hs v aT;rw[←kA]at Vr;have aa1:=yL Vr;obtain⟨x,hx⟩:∃x,x=val qc:=⟨_,rfl⟩;rw[←hx]at aa1;have hp9:=DU (v:=v) (by omega);have hmul:=JV aa1 (v:=v) (by omega)
  have hz:summed s (v+1)=m+x*2^v:=by simp only[summed];rw[hm,←kA,←hx]
  obtain⟨z,hz'⟩:∃z,z=summed s (v+1):=⟨_,rfl⟩;refine aY ?_;refine ae qC ?_;rw[qD];refine gK ?_;refine ao (by cbv) (J4 Vr hx) (fun h=>by first|rfl|cases h) ?_;refine gK ?_;refine ae (by rw[←Vq];simp) ?_
  have hshl:Bv .i64 x (Int.ofNat v)=x*2^v:=by
   rw[←aa0];show IntKind.wrap .i64 (x*2^(min (Int.ofNat v).toNat IntKind.i64.bits))=_;rw[show min (Int.ofNat v).toNat IntKind.i64.bits=v by simp[IntKind.bits];omega,dy (by omega) (by omega)]
  have AD:bu .i64 (df m (Bv .i64 x (Int.ofNat v)))=z:=by
   rw[hshl,←ah,←aw];simp only[di,kT];rw[hz',hz,dy]<;>omega
  refine gK ?_;refine ak ⟨aT,trivial,?_⟩;rw[AD,←hz'];rw[wS ah aw (v:=v) (by omega)]
  cbv
 ·have aT:v=s.length:=by rw[←aC,←aB]at hd;simp at hd;omega
  have hpw:(2:Int)^v≤1024:=by
   have h1:v=0∨v=1∨v=2∨v=3∨v=4∨v=5∨v=6∨v=7∨v=8∨v=9∨v=10:=by omega
   rcases h1 with h|h|h|h|h|h|h|h|h|h|h<;>rw[h]<;>decide
  have zc:∀x y,df x y=x+y:=fun _ _=>by rw[←aw];rfl
  have fu:∀x y,cP x y=x-y:=fun _ _=>by rw[←cY];rfl
  have hmul:∀x y,tV x y=x*y:=fun _ _=>by rw[←Ci];rfl
  have aaZ:∀x y,0≤x→yy x y=x/y:=fun _ _ h=>by rw[←J5];exact Int.tdiv_eq_ediv_of_nonneg h
  have Vp:∀x y,0≤x→oZ x y=x%y:=fun _ _ h=>by rw[←sr];exact Int.tmod_eq_emod_of_nonneg h
  have hW:∀x,-9223372036854775808≤x→x<9223372036854775808→bu .i64 x=x:=fun _ h1 h2=>by rw[←ah];exact dy h1 h2
  have hW8:∀x,0≤x→x<256→bu .u8 x=x:=fun _ h1 h2=>by rw[←ah];exact wr8 h1 h2
  refine aY ?_;refine ar rfl ?_;refine gK ?_;refine ae (by rw[←Ab];simp) ?_;refine gK ?_;refine ae (by rw[←Ab];simp) ?_;refine gK ?_;refine aX ?_;rw[Vp m _ (by omega),Vp _ _ (by omega),zc,hW _ (by omega) (by omega),hW8 _ (by omega) (by omega),hr,←aT,hm]
theorem tZ {s:List UInt8} {n:Nat}:∀{k:Nat},k≤n→summed (s.take n) k=summed s k
 |0,_=>rfl
 |k+1,h=>by
  simp only[summed];rw[tZ (k:=k) (by omega)]
  congr 2
  unfold at_;simp only[List.getD_eq_getElem?_getD,List.getElem?_take,show k<n by omega,if_pos]
noncomputable def wB (s:List UInt8):Int:=if s.length=11∧ra s then(if 48+summed s 10%11%10=at_ s 10 then 0 else 31)else 30
theorem D6 {s:List UInt8}:wB s=0↔hU s:=by
 unfold wB hU;split
 ·rename_i h;split
  ·rename_i h2;exact⟨fun _=>⟨h.1,h.2,by omega⟩,fun _=>rfl⟩
  ·rename_i h2;exact⟨fun h3=>by omega,fun h3=>absurd h3.2.2 (by omega)⟩
 ·rename_i h;exact⟨fun h3=>by omega,fun h3=>absurd ⟨h3.1,h3.2.1⟩ h⟩
theorem J7 {s:List UInt8} {e:Int} (hr:e=wB s):pC mx 292 [.str s] (.int .i64 e):=by
 unfold wB at hr;refine pZ Nt ?_
 iterate 90 intro _
 intro aa2 zw Vs
 iterate 16 intro _
 intro mc km me
 iterate 17 intro _
 intro aB aU aV bC bA ag aC;refine gK ?_;refine bp.af (fun h1=>?_) (fun h1=>?_)
 ·replace h1:=eE h1
  refine aY ?_;refine aX ?_;rw[hr,if_neg (fun h=>by omega)]
 ·replace h1:=eE h1
  have hlen:s.length=11:=by omega
  refine aY ?_;refine cU (by cbv) (Hm (by omega) rfl) (fun h=>?_) (fun h=>?_)<;>simp only[decide_eq_true_eq,decide_eq_false_iff_not]at h
  ·have hF:=h.2;obtain⟨t,ht⟩:∃t,t=s.take 10:=⟨_,rfl⟩
   have X0:t.length=10:=by rw[ht];simp;omega
   have pY:∀k,k<10→at_ t k=at_ s k:=fun k hk=>by
    rw[ht];unfold at_;simp only[List.getD_eq_getElem?_getD,List.getElem?_take,hk,if_pos]
   obtain⟨d,hd⟩:∃d,d=48+summed t t.length%11%10:=⟨_,rfl⟩
   have HI:d=48+summed s 10%11%10:=by rw[hd,X0,ht,tZ (by omega)]
   obtain⟨b,hb⟩:∃b,b=at_ s 10:=⟨_,rfl⟩
   have hbs:km s 10=b:=by rw[←me,hb];rfl
   rw[←HI,←hb]at hr;refine gK ?_;refine ae (by rw[←aa2];simp;omega) ?_;rw[show zw s 0 10=t by rw[←Vs,ht];simp];refine gK ?_;refine bF (by cbv) (J6 (fun k hk=>by rw[pY k (by omega)];exact jc.letter (hF k (by omega))) (by omega) hd) (fun h=>by first|rfl|cases h) ?_;refine gK ?_;refine ae (by rw[←mc];simp;omega) ?_;rw[hbs];refine gK ?_
   repeat' (first|refine gH ?_|(refine iE (fun hc=>?_) (fun hc=>?_)<;>(try simp at hc)<;>(try(exfalso;omega))))
   all_goals(refine aX ?_)
   ·rw[hr,if_pos ⟨hlen,hF⟩,if_neg (by omega)]
   ·rw[hr,if_pos ⟨hlen,hF⟩,if_pos (by omega)]
  ·refine gK ?_;refine aX ?_;rw[hr,if_neg (fun h'=>h ⟨by omega,h'.2⟩)]
theorem Vt {s:List UInt8} {r:Bool} (hr:r=decide (hU s)):pC mx 230 [.str s] (.bool r):=by
 obtain⟨e,he⟩:∃e,e=wB s:=⟨_,rfl⟩;have jr:=D6 (s:=s);rw[←he]at jr;refine pZ Nu ?_
 iterate 129 intro _
 intro aB aU aV bC bA ag aC;refine gK ?_;refine ao (by cbv) (J7 he) (fun h=>by first|rfl|cases h) ?_;refine gK ?_
 repeat' (first|refine gH ?_|(refine iE (fun hc=>?_) (fun hc=>?_)<;>(try simp at hc)<;>(try(exfalso;omega))))
 all_goals(refine aX ?_)
 all_goals first|exact tr hr (jr.1 (by omega))|exact fa hr (fun h=>by have:=jr.2 h;omega)
theorem J8 {n lo hi:Int} {r:Bool} (hr:r=decide (In n lo hi)):pC mx 228 [.int .i64 n,.int .i64 lo,.int .i64 hi] (.bool r):=by
 refine pZ Ni ?_
 iterate 129 intro _
 intro aB aU aV bC bA ag aC;refine gK ?_
 repeat' (first|refine gH ?_|(refine iE (fun hc=>?_) (fun hc=>?_)<;>(try simp at hc)<;>(try(exfalso;omega))))
 all_goals(refine aX ?_)
 all_goals first|exact tr hr ⟨by assumption,by assumption⟩|(refine fa hr ?_;rintro⟨h1,h2⟩;omega)
theorem Oz {size r:Int} (hr:r=most size):pC mx 233 [.int .u8 size] (.int .i64 r):=by
 unfold most at hr;refine pZ Nx ?_
 iterate 129 intro _
 intro aB aU aV bC bA ag aC;refine gK ?_
 repeat' (first|refine gH ?_|(refine iE (fun hc=>?_) (fun hc=>?_)<;>(try simp at hc)<;>(try(exfalso;omega))))
 all_goals(refine aX ?_)
 all_goals(subst hr;(repeat' split)<;>first|rfl|(exfalso;omega)|contradiction)
abbrev boxP (id:Int) (num:List UInt8) (size:Int) (high:Bool) (cD load oz cls:Int) (cK:Bool):List PV:=[.int .i64 id,.str num,.int .u8 size,.bool high,.int .i64 cD,.int .i64 load,.int .i64 oz,.int .u8 cls,.bool cK]
theorem aa3 {id:Int} {num:List UInt8} {size:Int} {high:Bool} {cD load oz cls:Int} {cK:Bool} {r:Bool} (hr:r=decide (In id 1 999999)):pC mx 227 [.ptr [.int .i64 id,.str num,.int .u8 size,.bool high,.int .i64 cD,.int .i64 load,.int .i64 oz,.int .u8 cls,.bool cK]] (.bool r):=by
 refine pZ Nj ?_
 iterate 129 intro _
 intro aB aU aV bC bA ag aC;refine gK ?_;refine cU (by cbv) (J8 hr) (fun h=>?_) (fun h=>?_)
 all_goals
  refine gK ?_;refine aX ?_;rw[h]
theorem aa4 {id:Int} {num:List UInt8} {size:Int} {high:Bool} {cD load oz cls:Int} {cK:Bool} {r:Bool} (hr:r=decide (num=[]∨hU num)):pC mx 229 [.ptr [.int .i64 id,.str num,.int .u8 size,.bool high,.int .i64 cD,.int .i64 load,.int .i64 oz,.int .u8 cls,.bool cK]] (.bool r):=by
 refine pZ Nv ?_
 iterate 129 intro _
 intro aB aU aV bC bA ag aC;refine gK ?_;refine bp.af (fun h1=>?_) (fun h1=>?_)
 ·replace h1:=eE h1
  refine aY ?_;refine aX ?_;exact tr hr (Or.inl h1)
 ·replace h1:=eE h1
  refine aY ?_;refine cU (by cbv) (Vt rfl) (fun h=>?_) (fun h=>?_)<;>simp only[decide_eq_true_eq,decide_eq_false_iff_not]at h
  ·refine gK ?_;refine aX ?_;exact tr hr (Or.inr h)
  ·refine gK ?_;refine aX ?_;refine fa hr ?_;rintro(h2|h2)
   ·exact h1 h2
   ·exact h h2
theorem aa5 {id:Int} {num:List UInt8} {size:Int} {high:Bool} {cD load oz cls:Int} {cK:Bool} {r:Bool} (hr:r=decide (high=true→size=40)):pC mx 231 [.ptr [.int .i64 id,.str num,.int .u8 size,.bool high,.int .i64 cD,.int .i64 load,.int .i64 oz,.int .u8 cls,.bool cK]] (.bool r):=by
 cases high
 all_goals
  refine pZ Nw ?_
  iterate 129 intro _
  intro aB aU aV bC bA ag aC;refine gK ?_
  repeat' (first|refine gH ?_|(refine iE (fun hc=>?_) (fun hc=>?_)<;>(try simp at hc)<;>(try(exfalso;omega))))
  all_goals(refine aX ?_)
  all_goals first|(refine tr hr (fun h=>?_);first|assumption|(cases h))|(refine fa hr (fun h=>?_);have:=h rfl;contradiction)
theorem aa6 {id:Int} {num:List UInt8} {size:Int} {high:Bool} {cD load oz cls:Int} {cK:Bool} {r:Bool} (hr:r=decide (In cD 1 (most size))):pC mx 232 [.ptr [.int .i64 id,.str num,.int .u8 size,.bool high,.int .i64 cD,.int .i64 load,.int .i64 oz,.int .u8 cls,.bool cK]] (.bool r):=by
 obtain⟨m,hm⟩:∃m,m=most size:=⟨_,rfl⟩;rw[←hm]at hr;refine pZ Ny ?_
 iterate 129 intro _
 intro aB aU aV bC bA ag aC;refine gK ?_;refine bF (by cbv) (Oz hm) (fun h=>by first|rfl|cases h) ?_;refine gK ?_;refine gG (by cbv) (J8 hr) (fun h=>?_) (fun h=>?_)
 all_goals
  refine gK ?_;refine aX ?_;rw[h]
theorem aa7 {id:Int} {num:List UInt8} {size:Int} {high:Bool} {cD load oz cls:Int} {cK:Bool} {r:Bool} (hr:r=decide (0≤load∧load<oz∧oz<20)):pC mx 234 [.ptr [.int .i64 id,.str num,.int .u8 size,.bool high,.int .i64 cD,.int .i64 load,.int .i64 oz,.int .u8 cls,.bool cK]] (.bool r):=by
 refine pZ Nz ?_
 iterate 129 intro _
 intro aB aU aV bC bA ag aC;refine gK ?_
 repeat' (first|refine gH ?_|(refine iE (fun hc=>?_) (fun hc=>?_)<;>(try simp at hc)<;>(try(exfalso;omega))))
 all_goals(refine aX ?_)
 all_goals first|(refine tr hr ?_;omega)|(refine fa hr ?_;omega)
theorem aa8 {id:Int} {num:List UInt8} {size:Int} {high:Bool} {cD load oz cls:Int} {cK:Bool} {r:Bool} (hr:r=decide (cls≤9)):pC mx 235 [.ptr [.int .i64 id,.str num,.int .u8 size,.bool high,.int .i64 cD,.int .i64 load,.int .i64 oz,.int .u8 cls,.bool cK]] (.bool r):=by
 refine pZ NA ?_
 iterate 129 intro _
 intro aB aU aV bC bA ag aC;refine gK ?_
 repeat' (first|refine gH ?_|(refine iE (fun hc=>?_) (fun hc=>?_)<;>(try simp at hc)<;>(try(exfalso;omega))))
 all_goals(refine aX ?_)
 all_goals first|(refine tr hr ?_;omega)|(refine fa hr ?_;omega)
theorem OA {f:FuncId} {cs:List PV} {b:Bool} (hf:pC mx f [.ptr cs] (.bool b)) {r:Bool} (hr:r= !b):pC mx 237 [.gM f [.ptr cs]] (.bool r):=by
 refine pZ NB ?_
 iterate 129 intro _
 intro aB aU aV bC bA ag aC;refine gK ?_;refine cU (by cbv) hf (fun h=>?_) (fun h=>?_)
 all_goals
  refine gK ?_;refine aX ?_;rw[hr,h];rfl
theorem D7 {l:List (FuncId×Bool)} {cs:List PV} {rows sp:List (List PV)} {r:Int} (eS:rows=l.map fun x=>[.gM x.1 [.ptr cs]]) (hl:l.length<2^32) (hf:∀x∈l,pC mx x.1 [.ptr cs] (.bool x.2)) (hr:eW (fun k=>∃h:k<l.length,l[k].2=false) l.length r):
  pC mx 293 [.sl rows sp,.gM 237 []] (.int .i64 r):=by
 have hlen:rows.length=l.length:=by simp[eS]
 refine pZ Ng ?_
 iterate 122 intro _
 intro aw _ ah aI aQ aJ aP aB aU aV bC bA ag aC;refine gK ?_;refine bQ [0,1,6,7,8] [] (fun v σ_=>σ_.put (some 8) (.pv (.int .i64 (Int.ofNat v)))) (l.length) (fun k=>(∀h:k<l.length,l[k].2=true)) ?_;intro v hv hk;refine ej ?_;refine bp.af (fun hd=>?_) (fun hd=>?_)
 ·have aT:v<l.length:=by rw[←aC,←ag]at hd;simp at hd;omega
  obtain⟨⟨f,b⟩,hx⟩:∃x,l[v]=x:=⟨_,rfl⟩;have hc:=hf _ (List.getElem_mem aT);rw[hx]at hc
  have ec:aJ (Int.ofNat v) rows 1:=by rw[←aP,eS];exact aO (enc:=fun x:FuncId×Bool=>[PV.gM x.1 [.ptr cs]]) aT rfl
  have bK:aI rows (Int.ofNat v)=[.gM f [.ptr cs]]:=by rw[←aQ,eS,aN (enc:=fun x:FuncId×Bool=>[PV.gM x.1 [.ptr cs]]) aT,hx]
  refine aY ?_;refine ae ec ?_;rw[bK];refine gK ?_;refine cU (by cbv) (OA hc rfl) (fun h=>?_) (fun h=>?_)
  ·refine gK ?_;refine dS ?_;rw[hr.at aT ⟨aT,by rw[hx];simpa using h⟩ (fun k eR h'=>by have:=hk k eR h'.1;rw[h'.2]at this;cases this)]
  ·refine gK ?_;refine ak ⟨aT,fun _=>by rw[hx];simpa using h,?_⟩;rw[wS ah aw (v:=v) (by omega)]
   cbv
 ·have aT:v=l.length:=by rw[←aC,←ag]at hd;simp at hd;omega
  refine aY ?_;refine ar rfl ?_;refine gK ?_;refine aX ?_;rw[hr.none (fun k eR h'=>by have:=hk k (by omega) h'.1;rw[h'.2]at this;cases this)]
theorem D8 {l:List (FuncId×Bool)} {cs:List PV} {rows sp:List (List PV)} {r:Bool} (eS:rows=l.map fun x=>[.gM x.1 [.ptr cs]]) (hl:l.length<2^32) (hf:∀x∈l,pC mx x.1 [.ptr cs] (.bool x.2)) (hr:r=decide (∃x∈l,x.2=false)):
  pC mx 236 [.sl rows sp,.gM 237 []] (.bool r):=by
 obtain⟨n,hn⟩:=eW.ex (fun k=>∃h:k<l.length,l[k].2=false) l.length
 have jr:0≤n↔∃x∈l,x.2=false:=by
  rw[hn.iff];constructor
  ·rintro⟨v,h1,h2,h3⟩;exact⟨_,List.getElem_mem h2,h3⟩
  ·rintro⟨x,hx,h2⟩;obtain⟨v,h3,h4⟩:=List.getElem_of_mem hx;exact⟨v,h3,h3,by rw[h4];exact h2⟩
 refine pZ Nh ?_
 iterate 129 intro _
 intro aB aU aV bC bA ag aC;refine gK ?_;refine ao (by cbv) (D7 eS hl hf hn) (fun h=>by first|rfl|cases h) ?_;refine gK ?_
 repeat' (first|refine gH ?_|(refine iE (fun hc=>?_) (fun hc=>?_)<;>(try simp at hc)<;>(try(exfalso;omega))))
 all_goals(refine aX ?_)
 all_goals first|exact tr hr (jr.1 (by omega))|exact fa hr (fun h=>by have:=jr.2 h;omega)
theorem D9 {x:b6} {cs:List PV} (hcs:cs=x.enc) {r:Bool} (hr:r=decide (iL x)):pC mx 140 [.agg cs] (.bool r):=by
 subst hcs;obtain⟨id,num,size,high,cD,load,oz,cls,cK⟩:=x;show pC mx 140 [.agg [.int .i64 id,.str num,.int .u8 size,.bool high,.int .i64 cD,.int .i64 load,.int .i64 oz,.int .u8 cls,.bool cK]] (.bool r);obtain⟨cs,hcs⟩:∃cs:List PV,cs=[.int .i64 id,.str num,.int .u8 size,.bool high,.int .i64 cD,.int .i64 load,.int .i64 oz,.int .u8 cls,.bool cK]:=⟨_,rfl⟩;obtain⟨l,xH⟩:∃l:List (FuncId×Bool),l=[(227,decide (In id 1 999999)),(229,decide (num=[]∨hU num)),(231,decide (high=true→size=40)),(232,decide (In cD 1 (most size))),(234,decide (0≤load∧load<oz∧oz<20)),(235,decide (cls≤9))]:=⟨_,rfl⟩
 have hf:∀x∈l,pC mx x.1 [.ptr cs] (.bool x.2):=by
  intro x hx;rw[xH]at hx;simp only[List.mem_cons,List.not_mem_nil,or_false]at hx;rw[hcs]
  rcases hx with rfl|rfl|rfl|rfl|rfl|rfl
  ·exact aa3 rfl
  ·exact aa4 rfl
  ·exact aa5 rfl
  ·exact aa6 rfl
  ·exact aa7 rfl
  ·exact aa8 rfl
 have aa9:(∃x∈l,x.2=false)↔¬iL ⟨id,num,size,high,cD,load,oz,cls,cK⟩:=by
  constructor
  ·rintro⟨x,hx,h⟩ ⟨h1,h2,h3,h4,h5,h6⟩;rw[xH]at hx;simp only[List.mem_cons,List.not_mem_nil,or_false]at hx
   rcases hx with rfl|rfl|rfl|rfl|rfl|rfl
   ·exact of_decide_eq_false h h1
   ·exact of_decide_eq_false h h2
   ·exact of_decide_eq_false h h3
   ·exact of_decide_eq_false h h4
   ·exact of_decide_eq_false h h5
   ·exact of_decide_eq_false h h6
  ·intro h
   refine Classical.byContradiction fun hn=>h ⟨?_,?_,?_,?_,?_,?_⟩
   ·exact Classical.byContradiction fun hc=>hn ⟨(227,decide (In id 1 999999)),by rw[xH];simp,decide_eq_false hc⟩
   ·exact Classical.byContradiction fun hc=>hn ⟨(229,decide (num=[]∨hU num)),by rw[xH];simp,decide_eq_false hc⟩
   ·exact Classical.byContradiction fun hc=>hn ⟨(231,decide (high=true→size=40)),by rw[xH];simp,decide_eq_false hc⟩
   ·exact Classical.byContradiction fun hc=>hn ⟨(232,decide (In cD 1 (most size))),by rw[xH];simp,decide_eq_false hc⟩
   ·exact Classical.byContradiction fun hc=>hn ⟨(234,decide (0≤load∧load<oz∧oz<20)),by rw[xH];simp,decide_eq_false hc⟩
   ·exact Classical.byContradiction fun hc=>hn ⟨(235,decide (cls≤9)),by rw[xH];simp,decide_eq_false hc⟩
 obtain⟨q,hq⟩:∃q:Bool,q=decide (∃x∈l,x.2=false):=⟨_,rfl⟩;have px:=D8 (mx:=mx) (sp:=[]) (rows:=[[.gM 227 [.ptr cs]],[.gM 229 [.ptr cs]],[.gM 231 [.ptr cs]],[.gM 232 [.ptr cs]],[.gM 234 [.ptr cs]],[.gM 235 [.ptr cs]]]) (l:=l) (cs:=cs) (by rw[xH];rfl) (by rw[xH];simp) hf hq;rw[hcs]at px;refine pZ NC ?_
 iterate 129 intro _
 intro aB aU aV bC bA ag aC;refine go 7 (by cbv) ?_;refine BA ?_;refine vW (Fg.M0 (id:=1) rfl rfl (by cbv)) ?_;refine gK ?_;refine cU (by cbv) px (fun h=>?_) (fun h=>?_)
 ·refine gK ?_;refine aX ?_;refine fa hr ?_;exact aa9.1 (of_decide_eq_true (hq.symm.trans h))
 ·refine gK ?_;refine aX ?_;exact tr hr (Classical.byContradiction fun hn=>of_decide_eq_false (hq.symm.trans h) (aa9.2 hn))
end Go.b8
end
section
open Go Go.Am Go.Proofs
attribute [local irreducible] Am.bp.holds bH fw bP ek
namespace Go.b8
variable {mx:Int}
open Classical
def fY (l:List b6):Nat→List (List PV)
 |0=>[]
 |n+1=>match l[n]? with
  |none=>fY l n
  |some b=>match b.number with
   |[]=>fY l n
   |c::r=>fY l n++[[.str (c::r),.int .i64 (Int.ofNat n)]]
theorem lH {l:List b6} {r:List PV}:∀{n:Nat},r∈fY l n→∃k,k<n∧∃h:k<l.length,l[k].number≠[]∧r=[.str l[k].number,.int .i64 (Int.ofNat k)]
 |0,h=>by simp[fY]at h
 |n+1,h=>by
  unfold fY at h;split at h
  ·obtain⟨k,h1,h2⟩:=lH h;exact⟨k,by omega,h2⟩
  ·rename_i b hb;obtain⟨hn,fP⟩:=List.getElem?_eq_some_iff.1 hb;split at h
   ·obtain⟨k,h1,h2⟩:=lH h;exact⟨k,by omega,h2⟩
   ·rename_i c q OB
    rcases List.mem_append.1 h with h|h
    ·obtain⟨k,h1,h2⟩:=lH h;exact⟨k,by omega,h2⟩
    ·rw[List.mem_singleton]at h;exact⟨n,by omega,hn,by rw[fP,OB];simp,by rw[fP,OB];exact h⟩
theorem wC {l:List b6}:∀{n k:Nat},k<n→∀h:k<l.length,l[k].number≠[]→[PV.str l[k].number,.int .i64 (Int.ofNat k)]∈fY l n
 |0,k,h,_,_=>by omega
 |n+1,k,h,hk,eb=>by
  unfold fY
  by_cases e:k=n
  ·subst e;rw[List.getElem?_eq_getElem hk];simp only
   cases OB:l[k].number with
   |nil=>exact absurd OB eb
   |cons c r=>simp
  ·have:=wC (n:=n) (by omega) hk eb;split
   ·exact this
   ·split
    ·exact this
    ·exact List.mem_append_left _ this
theorem ua {l:List b6} {n:Nat} {s:List UInt8}:dQ 1 (fY l n) [.str s]=true↔s≠[]∧∃k,k<n∧∃h:k<l.length,l[k].number=s:=by
 unfold dQ;rw[List.any_eq_true];constructor
 ·rintro⟨r,h1,h2⟩;obtain⟨k,h3,h4,h5,rfl⟩:=lH h1;simp[bx]at h2;subst h2;exact⟨h5,k,h3,h4,rfl⟩
 ·rintro⟨h0,k,h1,h2,rfl⟩;exact⟨_,wC h1 h2 h0,by simp[bx]⟩
theorem J9 {l:List b6} {n:Nat} {s:List UInt8}:aF.CZ [2] 1 (fY l n) [.str s]:=by
 refine⟨rfl,by simp[aR],fun r hr=>?_⟩;obtain⟨k,h3,h4,h5,rfl⟩:=lH hr;simp[aR]
theorem Ea {l:List b6} {v:Nat} (h:v<l.length) (hn:l[v].number=[]):fY l (v+1)=fY l v:=by
 simp only[fY,List.getElem?_eq_getElem h,hn]
theorem Cp {l:List b6} {v:Nat} (h:v<l.length) (hn:l[v].number≠[]):fY l (v+1)=fY l v++[[.str l[v].number,.int .i64 (Int.ofNat v)]]:=by
 simp only[fY,List.getElem?_eq_getElem h]
 cases hq:l[v].number with
 |nil=>exact absurd hq hn
 |cons c r=>rfl
theorem Ka {rows sp:List (List PV)} {l:List b6} {i e:Int} (hr:rows=l.map b6.enc) (dD:ib l i e):pC mx 63 [.sl rows sp] (.eN [.int .i64 i,.int .i64 e]):=by
 have hlen:rows.length=l.length:=by simp[hr]
 refine pZ Jt ?_
 iterate 33 intro _
 intro zm
 iterate 27 intro _
 intro Kb
 iterate 12 intro _
 intro zu Vu
 iterate 12 intro _
 intro yw Kc
 iterate 32 intro _
 intro aw _ ah aI aQ aJ aP aB aU aV bC bA ag aC;refine gK ?_;refine bp.af (fun h1=>?_) (fun h1=>?_)
 ·replace h1:=eE h1
  refine aY ?_;refine aX ?_
  rcases dD with⟨h,rfl,rfl⟩|⟨h,_⟩|⟨h,_⟩
  ·rfl
  ·omega
  ·omega
 ·replace h1:=eE h1
  have LI:l.length≤2000:=by omega
  obtain⟨last,vx⟩:∃f:Nat→Int,f=fun v=>if v=0 then 0 else match l[v-1]? with|some b=>b.id|none=>0:=⟨_,rfl⟩
  have Vv:last 0=0:=by rw[vx];rfl
  have Eb:∀v (h:v<l.length),last (v+1)=l[v].id:=fun v h=>by rw[vx];simp[h]
  obtain⟨sn,Xb⟩:∃f:Nat→List (List PV),f=fY l:=⟨_,rfl⟩
  have hsn0:sn 0=[]:=by rw[Xb];rfl
  refine aY ?_;refine jJ (fun v σ_=>(((σ_.tidy [4,5,14,15,16] (nn [13,13])).put (some 5) (.pv (.int .i64 (last v)))).put (some 16) (.pv (.int .i64 (Int.ofNat v)))).aq 13 (.map false false 1 (sn v))) l.length (fun k=>nf l k) (by rw[Vv,hsn0];exact Fg.ca [4,5,14,15,16] (nn [13,13]) rfl (by cbv)) ?_;intro v hv hk
  try dsimp only
  generalize hm:sn v=m;generalize hq:last v=q;refine ej ?_;refine bp.af (fun hd=>?_) (fun hd=>?_)
  ·have aT:v<l.length:=by rw[←aC,←ag]at hd;simp at hd;omega
   obtain⟨gI,bj⟩:∃x,l[v]=x:=⟨_,rfl⟩
   have bG:aJ (Int.ofNat v) rows 9:=by rw[←aP,hr];exact aO (enc:=b6.enc) aT rfl
   obtain⟨⟨iN,fO,eZ,e6,eG,eA,gi,jl,dI⟩,bW⟩:∃y,gI=y:=⟨_,rfl⟩;subst bW
   have aW:aI rows (Int.ofNat v)=[.int .i64 iN,.str fO,.int .u8 eZ,.bool e6,.int .i64 eG,.int .i64 eA,.int .i64 gi,.int .u8 jl,.bool dI]:=by rw[←aQ,hr,aN (enc:=b6.enc) aT,bj];rfl
   have bad:¬nf l v→i=Int.ofNat v∧e=60:=fun h=>dD.bad LI aT hk h
   have sw:yw [2] 1 m [.str fO]:=by rw[←Kc,←hm,Xb];exact J9
   refine aY ?_;refine ae bG ?_;rw[aW];refine gK ?_;refine ae sw ?_
   cases hh:zm 1 m [.str fO]
   rotate_left
   ·rw[←Kb,←hm,Xb]at hh;obtain⟨hh1,k,XJ,hh3,hh4⟩:=ua.1 hh;refine gK ?_;refine dS ?_;obtain⟨rfl,rfl⟩:=bad (fun hb=>(hb aT).2.1 k XJ (by rw[bj];exact hh1) (by rw[bj];exact hh4));rfl
   ·rw[←Kb,←hm,Xb]at hh
    have y5:∀k,(eR:k<v)→(fO≠[]→l[k].number≠fO):=fun k eR h1 h2=>by
     rw[show aF.yU 1 (fY l v) [.str fO]=true from ua.2 ⟨h1,k,eR,by omega,h2⟩]at hh
     cases hh
    refine gK ?_;refine bp.af (fun h2=>?_) (fun h2=>?_)
    ·replace h2:=eE h2
     refine aY ?_;refine dS ?_
     obtain⟨rfl,rfl⟩:=bad (fun hb=>by
      have h3:=hb aT;rw[bj]at h3
      by_cases e0:v=0
      ·subst e0;have:=h3.1.1.1;dsimp only at this;omega
      ·obtain⟨w,rfl⟩:∃w,v=w+1:=⟨v-1,by omega⟩;have:=h3.2.2 (by omega) (by omega);rw[Eb w (by omega)]at hq;simp only[Nat.add_sub_cancel]at this
       try dsimp only at this
       omega)
     rfl
    ·replace h2:=eE h2
     have hid:v≠0→∀hk:v-1<l.length,l[v-1].id<iN:=fun h0 _=>by
      obtain⟨w,rfl⟩:∃w,v=w+1:=⟨v-1,by omega⟩;rw[Eb w (by omega)]at hq;simp only[Nat.add_sub_cancel];rw[hq];exact h2
     refine aY ?_;refine cU (by cbv) (D9 (x:=⟨iN,fO,eZ,e6,eG,eA,gi,jl,dI⟩) rfl rfl) (fun h=>?_) (fun h=>?_)<;>simp only[decide_eq_true_eq,decide_eq_false_iff_not]at h
     ·have eL:nf l v:=fun _=>⟨by rw[bj];exact h,fun k eR=>by rw[bj];exact y5 k eR,fun h0 h1=>by rw[bj];exact hid h0 h1⟩
      have hlv:last (v+1)=iN:=by rw[Eb v aT,bj]
      refine gK ?_;refine bp.af (fun h3=>?_) (fun h3=>?_)
      ·replace h3:=eE h3
       have CR:zu 1 m [.str fO] [.int .i64 (Int.ofNat v)]=sn (v+1):=by
        rw[←Vu,←hm,Xb,Cp aT (by rw[bj];exact h3),bj];show(match dQ 1 (fY l v) [.str fO]with|true=>_|false=>_)=_;rw[show dQ 1 (fY l v) [.str fO]=false from hh];rfl
       refine aY ?_;refine ae sw ?_;refine gK ?_;refine ak ⟨aT,eL,?_⟩;rw[CR,hlv];rw[wS ah aw (v:=v) (by omega)];exact Fg.ca [4,5,14,15,16] (nn [13,13]) rfl (by cbv)
      ·replace h3:=eE h3
       have CR:m=sn (v+1):=by rw[←hm,Xb,Ea aT (by rw[bj];exact h3)]
       refine aY ?_;refine ak ⟨aT,eL,?_⟩;rw[hlv,←CR];rw[wS ah aw (v:=v) (by omega)];exact Fg.ca [4,5,14,15,16] (nn [13,13]) rfl (by cbv)
     ·refine gK ?_;refine dS ?_;obtain⟨rfl,rfl⟩:=bad (fun hb=>h (by have:=(hb aT).1;rw[bj]at this;exact this));rfl
  ·have aT:v=l.length:=by rw[←aC,←ag]at hd;simp at hd;omega
   refine aY ?_;refine ar rfl ?_;refine gK ?_;refine aX ?_;obtain⟨rfl,rfl⟩:=dD.q0 LI (fun k h=>hk k (by omega));rfl
end Go.b8
end
