import Derived.Test.YtfaccbkibjkfjaaGreatDoorT11
import Derived.Test.YtfaccbkibjkfjaaGreatDoorT12
import Derived.Test.YtfaccbkibjkfjaaGreatDoorT41
set_option linter.all false
set_option maxRecDepth 100000
set_option maxHeartbeats 1000000
section
open Go Go.Am Go.Proofs
attribute [local irreducible] Am.bl.holds bA fw bC dv
namespace Go.bW
variable {mx:Int}
open Classical
theorem goR {A:Ar} {Q:Ex→St→Prop} {x:AI} {xs:List AI} {r:List Am.Item} {st:St} (n:Nat) {R:bl} (h:run A xu false n (.ops (x::xs)::r) st=R) (hr:R.holds (ar Tryz.prog (GG mx)) A (bB Tryz.prog (GG mx)) Q):
  bA (ar Tryz.prog (GG mx)) A (bB Tryz.prog (GG mx)) (.ops (x::xs)::r) Q .normal st:=go n h hr
theorem lP {n lo hi:Int} {r:Bool} (hr:r=decide (In n lo hi)):pC mx 240 [.int .i64 n,.int .i64 lo,.int .i64 hi] (.bool r):=by
 refine pZ NW ?_
 iterate 129 intro _
 intro aB aV aW bp bu ah aD;refine gK ?_
 repeat' (first|refine rQ ?_|(refine vy (fun hc=>?_) (fun hc=>?_)<;>(try simp at hc)<;>(try(exfalso;omega))))
 all_goals(refine aN ?_)
 all_goals first|exact tr hr ⟨by assumption,by assumption⟩|(refine fa hr ?_;rintro⟨h1,h2⟩;omega)
theorem getD_eq {l:List Int} {v:Nat} (h:v<l.length):l.getD v 0=l[v]:=by simp[List.getD_eq_getElem?_getD,h]
theorem tz {rows sp:List (List PV)} {l:List Int} {n:Int} {r:Bool} (cq:rows=ints l) (hr:r=decide (n∈l)) (hl:l.length<2^32):pC mx 242 [.sl rows sp,.int .i64 n] (.bool r):=by
 have hlen:rows.length=l.length:=by simp[cq,ints]
 refine pZ NY ?_
 iterate 122 intro _
 intro aO _ ak aI aU aL aP aB aV aW bp bu ah aD;refine gK ?_;refine bG [0,1,5] [] (fun v σ_=>σ_.put (some 5) (.pv (.int .i64 (Int.ofNat v)))) (l.length) (fun k=>(∀h:k<l.length,l[k]≠n)) ?_;intro v hv hk;refine dC ?_;refine bl.af (fun hd=>?_) (fun hd=>?_)
 ·have aY:v<l.length:=by rw[←aD,←ah]at hd;simp at hd;omega
  obtain⟨p,hp⟩:∃p,p=l[v]:=⟨_,rfl⟩
  have eQ:aL (Int.ofNat v) rows 1:=by rw[←aP,cq];exact jW (by simp) (by simp;omega)
  have bM:aI rows (Int.ofNat v)=[.int .i64 p]:=by rw[←aU,cq,jb (by simp) (by simp;omega),hp];simp[aY]
  refine dp ?_;refine ae eQ ?_;rw[bM];refine gK ?_;refine bl.af (fun he=>?_) (fun he=>?_)
  ·replace he:=eT he
   refine dp ?_;refine dm ?_;exact tr hr (by rw[←he,hp];exact List.getElem_mem aY)
  ·replace he:=eT he
   refine dp ?_;refine ai ⟨aY,fun _ h=>he (by rw[hp];exact h),?_⟩;rw[wS ak aO (v:=v) (by omega)]
   cbv
 ·have aY:v=l.length:=by rw[←aD,←ah]at hd;simp at hd;omega
  refine dp ?_;refine au rfl ?_;refine gK ?_;refine aN ?_;refine fa hr ?_;intro hm;obtain⟨k,Uv,Ni⟩:=List.getElem_of_mem hm;exact hk k (by omega) Uv Ni
theorem Bq {x:aM} {p sp:List (List PV)} {r:Bool} (hp:p=ints x.b9) (hr:r=decide (gd x)) (hl:x.b9.length<2^32):pC mx 241 [.agg [.int .i64 x.jH,.int .i64 x.row,.bool x.js,.int .i64 x.dk,.int .i64 x.di,.int .i64 x.vt,.int .i64 x.vu,.int .i64 x.lf,.sl p sp,.int .i64 x.x,.int .i64 x.y,.int .i64 x.z]] (.bool r):=by
 obtain⟨jH,row,js,dk,di,vt,vu,lf,b9,D0,cx,cy,cz⟩:=x;dsimp only at hp hl ⊢
 have hlen:p.length=b9.length:=by simp[hp,ints]
 refine pZ NX ?_
 iterate 119 intro _
 intro b5 cQ _ aO aw ak aI aU aL aP aB aV aW bp bu ah aD;refine gK ?_;refine bG [1,3] [none,some 1] (fun v σ_=>σ_.put (some 3) (.pv (.int .i64 (Int.ofNat v)))) (b9.length) (fun k=>sD ⟨jH,row,js,dk,di,vt,vu,lf,b9,D0,cx,cy,cz⟩ k) ?_;intro v hv hk;refine dC ?_;refine bl.af (fun hd=>?_) (fun hd=>?_)
 ·have aY:v<b9.length:=by rw[←aD,←ah]at hd;simp at hd;omega
  obtain⟨q,hq⟩:∃q,q=b9.getD v 0:=⟨_,rfl⟩
  have eQ:aL (Int.ofNat v) p 1:=by rw[←aP,hp];exact jW (by simp) (by simp;omega)
  have bM:aI p (Int.ofNat v)=[.int .i64 q]:=by rw[←aU,hp,jb (by simp) (by simp;omega),hq];rfl
  refine dp ?_;refine ae eQ ?_;rw[bM];refine gK ?_
  repeat' (first|refine rQ ?_|(refine vy (fun hc=>?_) (fun hc=>?_)<;>(try simp at hc)<;>(try(exfalso;omega))))
  ·refine dm ?_;refine fa hr ?_;rintro⟨h,-⟩;have:=(h v aY).1;dsimp only at this;omega
  ·refine ae eQ ?_;rw[bM];refine gK ?_
   repeat' (first|refine rQ ?_|(refine vy (fun hc=>?_) (fun hc=>?_)<;>(try simp at hc)<;>(try(exfalso;omega))))
   ·refine dm ?_;refine fa hr ?_;rintro⟨h,-⟩;have:=(h v aY).2.1;dsimp only at this;omega
   ·obtain⟨w,hw⟩:∃w,v=w+1:=⟨v-1,by omega⟩
    have dD:aw .i64 (b5 (Int.ofNat v) 1)=Int.ofNat w:=by rw[←ak,←cQ];simp only[ct,kP];rw[dh]<;>simp<;>omega
    rw[dD];obtain⟨t,ht⟩:∃t,t=b9.getD w 0:=⟨_,rfl⟩
    have jX:aL (Int.ofNat w) p 1:=by rw[←aP,hp];exact jW (by simp) (by simp;omega)
    have fF:aI p (Int.ofNat w)=[.int .i64 t]:=by rw[←aU,hp,jb (by simp) (by simp;omega),ht];rfl
    refine ae jX ?_;rw[fF];refine gK ?_;refine ae eQ ?_;rw[bM];refine gK ?_
    repeat' (first|refine rQ ?_|(refine vy (fun hc=>?_) (fun hc=>?_)<;>(try simp at hc)<;>(try(exfalso;omega))))
    ·refine dm ?_;refine fa hr ?_;rintro⟨h,-⟩;have:=(h v aY).2.2;dsimp only at this;simp only[hw,Nat.add_sub_cancel]at this;simp only[hw]at hq;omega
    ·refine ai ⟨aY,⟨by dsimp only;omega,by dsimp only;omega,Or.inr (by dsimp only;simp only[hw,Nat.add_sub_cancel];simp only[hw]at hq;omega)⟩,?_⟩;rw[wS ak aO (v:=v) (by omega)]
     cbv
   ·refine ai ⟨aY,⟨by dsimp only;omega,by dsimp only;omega,Or.inl (by omega)⟩,?_⟩;rw[wS ak aO (v:=v) (by omega)]
    cbv
 ·have aY:v=b9.length:=by rw[←aD,←ah]at hd;simp at hd;omega
  have zn:∀i,i<b9.length→sD ⟨jH,row,js,dk,di,vt,vu,lf,b9,D0,cx,cy,cz⟩ i:=fun i h=>hk i (by omega)
  refine dp ?_;refine au rfl ?_;refine gK ?_
  repeat' (first
   |refine bX (by cbv) (lP rfl) (fun h=>?_) (fun h=>?_)<;>simp only[decide_eq_true_eq,decide_eq_false_iff_not]at h
   |refine goR 10000 (by cbv) ?_)
  all_goals(refine aN ?_)
  all_goals first
   |(refine tr hr ⟨zn,?_⟩;dsimp only;refine⟨?_,?_,?_,?_,?_,?_,?_,?_,?_,?_⟩<;>assumption)
   |(refine fa hr ?_;rintro⟨-,h1,h2,h3,h4,h5,h6,h7,h8,h9,h10⟩;contradiction)
end Go.bW
end
