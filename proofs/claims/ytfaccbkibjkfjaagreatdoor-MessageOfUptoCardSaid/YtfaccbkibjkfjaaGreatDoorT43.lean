import Derived.Test.YtfaccbkibjkfjaaGreatDoorT11
import Derived.Test.YtfaccbkibjkfjaaGreatDoorT12
import Derived.Test.YtfaccbkibjkfjaaGreatDoorT41
set_option linter.all false
set_option maxRecDepth 100000
set_option maxHeartbeats 1000000
section
open Go Go.Am Go.Proofs
attribute [local irreducible] Am.bp.holds bH fw bP ek
namespace Go.b8
variable {mx:Int}
open Classical
theorem goR {A:Ar} {Q:Ex→St→Prop} {x:AI} {xs:List AI} {r:List Am.Item} {st:St} (n:Nat) {R:bp} (h:run A vQ false n (.ops (x::xs)::r) st=R) (hr:R.holds (CC Tryz.prog (GG mx)) A (bh Tryz.prog (GG mx)) Q):
  bH (CC Tryz.prog (GG mx)) A (bh Tryz.prog (GG mx)) (.ops (x::xs)::r) Q .normal st:=go n h hr
theorem kX {n lo hi:Int} {r:Bool} (hr:r=decide (In n lo hi)):pC mx 240 [.int .i64 n,.int .i64 lo,.int .i64 hi] (.bool r):=by
 refine pZ MJ ?_
 iterate 129 intro _
 intro aB aU aV bC bA ag aC;refine gK ?_
 repeat' (first|refine gH ?_|(refine iE (fun hc=>?_) (fun hc=>?_)<;>(try simp at hc)<;>(try(exfalso;omega))))
 all_goals(refine aX ?_)
 all_goals first|exact tr hr ⟨by assumption,by assumption⟩|(refine fa hr ?_;rintro⟨h1,h2⟩;omega)
theorem getD_eq {l:List Int} {v:Nat} (h:v<l.length):l.getD v 0=l[v]:=by simp[List.getD_eq_getElem?_getD,h]
theorem sx {rows sp:List (List PV)} {l:List Int} {n:Int} {r:Bool} (eS:rows=ints l) (hr:r=decide (n∈l)) (hl:l.length<2^32):pC mx 242 [.sl rows sp,.int .i64 n] (.bool r):=by
 have hlen:rows.length=l.length:=by simp[eS,ints]
 refine pZ MN ?_
 iterate 122 intro _
 intro aw _ ah aI aQ aJ aP aB aU aV bC bA ag aC;refine gK ?_;refine bQ [0,1,5] [] (fun v σ_=>σ_.put (some 5) (.pv (.int .i64 (Int.ofNat v)))) (l.length) (fun k=>(∀h:k<l.length,l[k]≠n)) ?_;intro v hv hk;refine ej ?_;refine bp.af (fun hd=>?_) (fun hd=>?_)
 ·have aT:v<l.length:=by rw[←aC,←ag]at hd;simp at hd;omega
  obtain⟨p,hp⟩:∃p,p=l[v]:=⟨_,rfl⟩
  have ec:aJ (Int.ofNat v) rows 1:=by rw[←aP,eS];exact gW (by simp) (by simp;omega)
  have bK:aI rows (Int.ofNat v)=[.int .i64 p]:=by rw[←aQ,eS,gv (by simp) (by simp;omega),hp];simp[aT]
  refine aY ?_;refine ae ec ?_;rw[bK];refine gK ?_;refine bp.af (fun he=>?_) (fun he=>?_)
  ·replace he:=eE he
   refine aY ?_;refine dS ?_;exact tr hr (by rw[←he,hp];exact List.getElem_mem aT)
  ·replace he:=eE he
   refine aY ?_;refine ak ⟨aT,fun _ h=>he (by rw[hp];exact h),?_⟩;rw[wS ah aw (v:=v) (by omega)]
   cbv
 ·have aT:v=l.length:=by rw[←aC,←ag]at hd;simp at hd;omega
  refine aY ?_;refine ar rfl ?_;refine gK ?_;refine aX ?_;refine fa hr ?_;intro hm;obtain⟨k,WH,WS⟩:=List.getElem_of_mem hm;exact hk k (by omega) WH WS
theorem Ag {x:aL} {p sp:List (List PV)} {r:Bool} (hp:p=ints x.cq) (hr:r=decide (fX x)) (hl:x.cq.length<2^32):pC mx 241 [.agg [.int .i64 x.jj,.int .i64 x.row,.bool x.iZ,.int .i64 x.dv,.int .i64 x.dk,.int .i64 x.tT,.int .i64 x.tU,.int .i64 x.kj,.sl p sp,.int .i64 x.x,.int .i64 x.y,.int .i64 x.z]] (.bool r):=by
 obtain⟨jj,row,iZ,dv,dk,tT,tU,kj,cq,CQ,cx,cy,cz⟩:=x;dsimp only at hp hl ⊢
 have hlen:p.length=cq.length:=by simp[hp,ints]
 refine pZ ML ?_
 iterate 119 intro _
 intro cP cY _ aw bu ah aI aQ aJ aP aB aU aV bC bA ag aC;refine gK ?_;refine bQ [1,3] [none,some 1] (fun v σ_=>σ_.put (some 3) (.pv (.int .i64 (Int.ofNat v)))) (cq.length) (fun k=>rb ⟨jj,row,iZ,dv,dk,tT,tU,kj,cq,CQ,cx,cy,cz⟩ k) ?_;intro v hv hk;refine ej ?_;refine bp.af (fun hd=>?_) (fun hd=>?_)
 ·have aT:v<cq.length:=by rw[←aC,←ag]at hd;simp at hd;omega
  obtain⟨q,hq⟩:∃q,q=cq.getD v 0:=⟨_,rfl⟩
  have ec:aJ (Int.ofNat v) p 1:=by rw[←aP,hp];exact gW (by simp) (by simp;omega)
  have bK:aI p (Int.ofNat v)=[.int .i64 q]:=by rw[←aQ,hp,gv (by simp) (by simp;omega),hq];rfl
  refine aY ?_;refine ae ec ?_;rw[bK];refine gK ?_
  repeat' (first|refine gH ?_|(refine iE (fun hc=>?_) (fun hc=>?_)<;>(try simp at hc)<;>(try(exfalso;omega))))
  ·refine dS ?_;refine fa hr ?_;rintro⟨h,-⟩;have:=(h v aT).1;dsimp only at this;omega
  ·refine ae ec ?_;rw[bK];refine gK ?_
   repeat' (first|refine gH ?_|(refine iE (fun hc=>?_) (fun hc=>?_)<;>(try simp at hc)<;>(try(exfalso;omega))))
   ·refine dS ?_;refine fa hr ?_;rintro⟨h,-⟩;have:=(h v aT).2.1;dsimp only at this;omega
   ·obtain⟨w,hw⟩:∃w,v=w+1:=⟨v-1,by omega⟩
    have fu:bu .i64 (cP (Int.ofNat v) 1)=Int.ofNat w:=by rw[←ah,←cY];simp only[di,iQ];rw[dy]<;>simp<;>omega
    rw[fu];obtain⟨t,ht⟩:∃t,t=cq.getD w 0:=⟨_,rfl⟩
    have gq:aJ (Int.ofNat w) p 1:=by rw[←aP,hp];exact gW (by simp) (by simp;omega)
    have dT:aI p (Int.ofNat w)=[.int .i64 t]:=by rw[←aQ,hp,gv (by simp) (by simp;omega),ht];rfl
    refine ae gq ?_;rw[dT];refine gK ?_;refine ae ec ?_;rw[bK];refine gK ?_
    repeat' (first|refine gH ?_|(refine iE (fun hc=>?_) (fun hc=>?_)<;>(try simp at hc)<;>(try(exfalso;omega))))
    ·refine dS ?_;refine fa hr ?_;rintro⟨h,-⟩;have:=(h v aT).2.2;dsimp only at this;simp only[hw,Nat.add_sub_cancel]at this;simp only[hw]at hq;omega
    ·refine ak ⟨aT,⟨by dsimp only;omega,by dsimp only;omega,Or.inr (by dsimp only;simp only[hw,Nat.add_sub_cancel];simp only[hw]at hq;omega)⟩,?_⟩;rw[wS ah aw (v:=v) (by omega)]
     cbv
   ·refine ak ⟨aT,⟨by dsimp only;omega,by dsimp only;omega,Or.inl (by omega)⟩,?_⟩;rw[wS ah aw (v:=v) (by omega)]
    cbv
 ·have aT:v=cq.length:=by rw[←aC,←ag]at hd;simp at hd;omega
  have xT:∀i,i<cq.length→rb ⟨jj,row,iZ,dv,dk,tT,tU,kj,cq,CQ,cx,cy,cz⟩ i:=fun i h=>hk i (by omega)
  refine aY ?_;refine ar rfl ?_;refine gK ?_
  repeat' (first
   |refine cU (by cbv) (kX rfl) (fun h=>?_) (fun h=>?_)<;>simp only[decide_eq_true_eq,decide_eq_false_iff_not]at h
   |refine goR 10000 (by cbv) ?_)
  all_goals(refine aX ?_)
  all_goals first
   |(refine tr hr ⟨xT,?_⟩;dsimp only;refine⟨?_,?_,?_,?_,?_,?_,?_,?_,?_,?_⟩<;>assumption)
   |(refine fa hr ?_;rintro⟨-,h1,h2,h3,h4,h5,h6,h7,h8,h9,h10⟩;contradiction)
end Go.b8
end
