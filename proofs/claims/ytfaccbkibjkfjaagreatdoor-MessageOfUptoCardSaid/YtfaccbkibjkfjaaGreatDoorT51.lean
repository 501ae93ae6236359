import Derived.Test.YtfaccbkibjkfjaaGreatDoorT22
import Derived.Test.YtfaccbkibjkfjaaGreatDoorT47
import Derived.Test.YtfaccbkibjkfjaaGreatDoorT10
import Derived.Test.YtfaccbkibjkfjaaGreatDoorT41
set_option linter.all false
set_option maxRecDepth 100000
set_option maxHeartbeats 1000000
section
open Go Go.Am Go.Proofs
attribute [local irreducible] Am.bp.holds bH fw bP ek
namespace Go.b8
variable {mx:Int}
open Classical
theorem PT {k n:Int} (hn:1≤n):∃p,pC mx 20 [.int .i64 k,.int .i64 n] (.int .i64 p):=by
 obtain⟨m,hm⟩:∃m,m=aF.rem k n:=⟨_,rfl⟩;refine⟨if m<0 then aF.wrap .i64 (aF.add m n)else m,?_⟩;refine pZ U4 ?_
 iterate 101 intro _
 intro Ab
 iterate 11 intro _
 intro sr _ _ _ _ _ _ _ _ aw _ ah _ _ _ _ aB aU aV bC bA ag aC;refine gK ?_;refine bp.af (fun h1=>?_) (fun h1=>?_)
 ·replace h1:=eE h1
  omega
 ·replace h1:=eE h1
  refine aY ?_;refine ae (by rw[←Ab];simp;omega) ?_;refine gK ?_;rw[sr]at hm;rw[←hm];refine bp.af (fun h2=>?_) (fun h2=>?_)
  ·rw[←aC]at h2;simp at h2;refine aY ?_;refine aX ?_;rw[if_pos h2,ah,aw]
  ·rw[←aC]at h2;simp at h2;refine aY ?_;refine aX ?_;rw[if_neg (by omega)]
theorem lL {c:List aL} {v:List bz}:cC (c.map aL.cV) (v.map bz.cV)↔cC c v:=by
 unfold cC;simp only[List.length_map,List.getElem_map];exact Iff.rfl
theorem wM {c:List aL} {x:Slot} {size:Int}:fy (c.map aL.cV) x size↔fy c x size:=by
 unfold fy;simp only[List.length_map,List.getElem_map];exact Iff.rfl
theorem wN {c:List aL} {v:List bz} {boxes:List b6} {l:List aH}:gC (c.map aL.cV) (v.map bz.cV) boxes l↔gC c v boxes l:=by
 unfold gC pk;simp only[lL,wM,List.length_map,List.getElem_map];exact Iff.rfl
theorem wO {sl:List Stat} {v:Nat} (h:v<sl.length):(tq (sl.map Stat.cV) v).l=(tq sl v).l:=by
 rw[mC (by simpa using h),mC h,List.getElem_map];rfl
theorem EA {c:List aL} {v:List bz} {boxes:List b6} {n:Int} {sl:List Stat} {k e k' e':Int} (h:dq c v boxes n sl k e) (h':dq (c.map aL.cV) (v.map bz.cV) boxes n (sl.map Stat.cV) k' e'):e=0↔e'=0:=by
 have key:∀j,j<sl.length→((ng (c.map aL.cV) (v.map bz.cV) boxes (sl.map Stat.cV) j∨sB boxes (sl.map Stat.cV) j)↔(ng c v boxes sl j∨sB boxes sl j)):=fun j hj=>by
  unfold ng sB;rw[wO hj,wN]
 constructor
 ·rintro rfl;obtain⟨h1,h2,h3,h4⟩:=h.zero;exact(h'.q0 (lL.2 h1) h2 (by rw[List.length_map];exact h3) (fun j hj=>by rw[List.length_map]at hj;rw[key j hj];exact h4 j hj)).2
 ·rintro rfl;obtain⟨h1,h2,h3,h4⟩:=h'.zero;exact(h.q0 (lL.1 h1) h2 (by rw[List.length_map]at h3;exact h3) (fun j hj=>by rw[←key j hj];exact h4 j (by simpa using hj))).2
end Go.b8
end
section
open Go Go.Am Go.Proofs
attribute [local irreducible] Am.bp.holds bH fw bP ek
namespace Go.b8
variable {mx:Int}
open Classical
noncomputable def Hz (sl:List Stat) (b:Bool) (v:Nat):Bool:=b&&decide (∀j,j<v→(tq sl j).l.length≤30)
theorem HA {sl:List Stat} {b:Bool} {v:Nat}:Hz sl b (v+1)=(Hz sl b v&&decide ((tq sl v).l.length≤30)):=by
 unfold Hz;rw[Bool.and_assoc]
 congr 1
 rw[←Bool.decide_and]
 congr 1
 apply propext;constructor
 ·intro h;exact⟨fun j hj=>h j (by omega),h v (by omega)⟩
 ·rintro⟨h1,h2⟩ j hj
  rcases Nat.lt_or_ge j v with h|h
  ·exact h1 j h
  ·have:j=v:=by omega
   subst this;exact h2
theorem Gh.ex (kl:List cT) (sl:List Stat) (boxes:List b6) {e1 e2 e3 k:Int}:∃os rs,Gh kl sl boxes k (wW e1 e2 e3 (Int.ofNat kl.length) k) os rs:=by
 by_cases h:wW e1 e2 e3 (Int.ofNat kl.length) k=0
 ·have h0:0≤k:=by
   unfold wW at h;split at h
   ·split at h
    ·rename_i h';exact h'.1
    ·omega
   ·omega
  have hk:k=Int.ofNat k.toNat:=by simp;omega
  by_cases ha:ue boxes k boxes.length=[]
  ·exact⟨_,_,.inr (.inl ⟨h,ha,k.toNat,hk,rfl,rfl⟩)⟩
  ·exact⟨_,_,.inr (.inr ⟨h,ha,k.toNat,hk,rfl,rfl⟩)⟩
 ·exact⟨_,_,.inl ⟨h,rfl,rfl⟩⟩
theorem uR {sz:Nat} {Z:List (List PV)} {v:Nat} (h:aK sz Z) (hv:v<Z.length):(Z.getD (Int.ofNat v).toNat []).length=sz:=by
 show(Z.getD v []).length=sz;rw[List.getD_eq_getElem?_getD,List.getElem?_eq_getElem hv];exact h _ (List.getElem_mem hv)
theorem wP {sz v:Nat} {Z:List (List PV)} {ys:List PV} (h:aK sz Z) (hy:ys.length=sz):(aF.Gt Z (Int.ofNat v) 0 ys).length=Z.length∧aK sz (aF.Gt Z (Int.ofNat v) 0 ys):=by
 show(Z.set v (jL 0 ys (Z.getD v []))).length=Z.length∧aK sz (Z.set v (jL 0 ys (Z.getD v [])));refine⟨by simp,?_⟩
 rcases Nat.lt_or_ge v Z.length with hv|hv
 ·intro r hr
  rcases List.mem_or_eq_of_mem_set hr with hr|rfl
  ·exact h r hr
  ·have:=uR h hv;have:(Z.getD v []).length=sz:=this;unfold jL;simp only[List.length_append,List.length_take,List.length_drop,this,hy];omega
 ·rw[List.set_eq_of_length_le hv];exact h
theorem PU (HB:pC mx 12 [] (.bool true)) {c csp vv vsp r rsp f fsp t tsp:List (List PV)} {l1 l2 l3 l4 m1 m2 m3 m4:Int} {gy ksp dK ssp wrows wsp brows bsp:List (List PV)} {cl:List aL} {vl:List bz} {rl fl:List Row} {tl:List eg} {sl:List Stat} {wl:List jD} {kl:List cT} {boxes:List b6} {k:Int} (h:wk c vv r f t cl vl rl fl tl)
  (n0:gy=kl.map cT.enc) (hs:dK=sl.map Stat.enc) (hw:wrows=wl.map jD.enc) (jb:brows=boxes.map b6.enc) (vf:∀b∈boxes,og b) (yb:∀x∈sl,∀y∈x.l,kL y) (AB:kl.length<2^32) (oa:sl.length<2^32) (xG:wl.length<2^32) (lO:boxes.length<2^32) (mG:∀x∈sl,x.l.length<2^32) (JM:∀x∈wl,x.l.length<2^32):
  pC mx 5 [.agg [.sl c csp,.sl vv vsp,.int .i64 l1,.int .i64 l2,.int .i64 l3,.int .i64 l4,.sl r rsp,.sl f fsp,.sl t tsp,.int .i64 m1,.int .i64 m2,.int .i64 m3,.int .i64 m4],.sl gy ksp,.sl brows bsp,.agg [.sl dK ssp,.sl wrows wsp],.int .i64 k] (.bool true):=by
 have Sz:gy.length=kl.length:=by simp[n0]
 have KD:brows.length=boxes.length:=by simp[jb]
 have SA:dK.length=sl.length:=by simp[hs]
 refine pZ aaB ?_
 iterate 84 intro _
 intro nJ EB
 iterate 29 intro _
 intro b7 _ _ _ _ _ df aw bu ah aI aQ aJ aP aB aU aV bC bA ag aC;refine gK ?_
 repeat' (first|refine gH ?_|(refine iE (fun hc=>?_) (fun hc=>?_)<;>(try simp at hc)<;>(try(exfalso;omega))))
 rotate_left
 ·refine jJ (fun v σ_=>(σ_.tidy [11,41,42,43] []).put (some 43) (.pv (.int .i64 (Int.ofNat v)))) (sl.length) (fun k=>True) (Fg.ca [11,41,42,43] [] rfl (by first|(cbv;done)|(simp;cbv;done)|(simp;rfl))) ?_;intro v hv hk;refine ej ?_;refine bp.af (fun hd=>?_) (fun hd=>?_)
  ·have aT:v<sl.length:=by rw[←aC,←ag]at hd;simp at hd;omega
   obtain⟨gI,bj⟩:∃x,sl[v]=x:=⟨_,rfl⟩
   have bG:aJ (Int.ofNat v) dK 1:=by rw[←aP,hs];exact aO (enc:=Stat.enc) aT rfl
   obtain⟨⟨rp,wJ⟩,bW⟩:∃y,gI=y:=⟨_,rfl⟩;subst bW
   have aW:aI dK (Int.ofNat v)=[.sl (rp.map aH.enc) wJ]:=by rw[←aQ,hs,aN (enc:=Stat.enc) aT,bj];rfl
   obtain⟨q,hq⟩:∃q,q=rp.map aH.enc:=⟨_,rfl⟩;rw[←hq]at aW;refine aY ?_;refine ae bG ?_;rw[aW];refine gK ?_;refine ak ⟨aT,trivial,?_⟩;rw[wS ah aw (v:=v) (by omega)];exact Fg.ca [11,41,42,43] [] rfl (by cbv)
  ·have aT:v=sl.length:=by rw[←aC,←ag]at hd;simp at hd;omega
   refine aY ?_;refine ar rfl ?_;refine gK ?_;refine ao (by cbv) HB (fun h=>by first|rfl|cases h) ?_;refine gK ?_;refine aX ?_;rfl
 ·refine jJ (fun v σ_=>(σ_.tidy [11,41,42,43] []).put (some 43) (.pv (.int .i64 (Int.ofNat v)))) (sl.length) (fun k=>True) (Fg.ca [11,41,42,43] [] rfl (by first|(cbv;done)|(simp;cbv;done)|(simp;rfl))) ?_;intro v hv hk;refine ej ?_;refine bp.af (fun hd=>?_) (fun hd=>?_)
  ·have aT:v<sl.length:=by rw[←aC,←ag]at hd;simp at hd;omega
   obtain⟨gI,bj⟩:∃x,sl[v]=x:=⟨_,rfl⟩
   have bG:aJ (Int.ofNat v) dK 1:=by rw[←aP,hs];exact aO (enc:=Stat.enc) aT rfl
   obtain⟨⟨rp,wJ⟩,bW⟩:∃y,gI=y:=⟨_,rfl⟩;subst bW
   have aW:aI dK (Int.ofNat v)=[.sl (rp.map aH.enc) wJ]:=by rw[←aQ,hs,aN (enc:=Stat.enc) aT,bj];rfl
   obtain⟨q,hq⟩:∃q,q=rp.map aH.enc:=⟨_,rfl⟩;rw[←hq]at aW;refine aY ?_;refine ae bG ?_;rw[aW];refine gK ?_;refine ak ⟨aT,trivial,?_⟩;rw[wS ah aw (v:=v) (by omega)];exact Fg.ca [11,41,42,43] [] rfl (by cbv)
  ·have aT:v=sl.length:=by rw[←aC,←ag]at hd;simp at hd;omega
   refine aY ?_;refine ar rfl ?_;refine gK ?_;refine ao (by cbv) HB (fun h=>by first|rfl|cases h) ?_;refine gK ?_;refine aX ?_;rfl
 refine cU (by cbv) (Wa (rows:=[]) (l:=[]) h.c h.v rfl jb rfl) (fun h'=>?_) (fun h'=>?_)<;>simp only[decide_eq_true_eq,decide_eq_false_iff_not]at h'
 rotate_left
 ·refine gK ?_;refine jJ (fun v σ_=>(σ_.tidy [11,41,42,43] []).put (some 43) (.pv (.int .i64 (Int.ofNat v)))) (sl.length) (fun k=>True) (Fg.ca [11,41,42,43] [] rfl (by first|(cbv;done)|(simp;cbv;done)|(simp;rfl))) ?_;intro v hv hk;refine ej ?_;refine bp.af (fun hd=>?_) (fun hd=>?_)
  ·have aT:v<sl.length:=by rw[←aC,←ag]at hd;simp at hd;omega
   obtain⟨gI,bj⟩:∃x,sl[v]=x:=⟨_,rfl⟩
   have bG:aJ (Int.ofNat v) dK 1:=by rw[←aP,hs];exact aO (enc:=Stat.enc) aT rfl
   obtain⟨⟨rp,wJ⟩,bW⟩:∃y,gI=y:=⟨_,rfl⟩;subst bW
   have aW:aI dK (Int.ofNat v)=[.sl (rp.map aH.enc) wJ]:=by rw[←aQ,hs,aN (enc:=Stat.enc) aT,bj];rfl
   obtain⟨q,hq⟩:∃q,q=rp.map aH.enc:=⟨_,rfl⟩;rw[←hq]at aW;refine aY ?_;refine ae bG ?_;rw[aW];refine gK ?_;refine ak ⟨aT,trivial,?_⟩;rw[wS ah aw (v:=v) (by omega)];exact Fg.ca [11,41,42,43] [] rfl (by cbv)
  ·have aT:v=sl.length:=by rw[←aC,←ag]at hd;simp at hd;omega
   refine aY ?_;refine ar rfl ?_;refine gK ?_;refine ao (by cbv) HB (fun h=>by first|rfl|cases h) ?_;refine gK ?_;refine aX ?_;rfl
 obtain⟨⟨hf1,K5,hf3,hf4⟩,hf5,hf6⟩:=h';refine gK ?_;refine jJ (fun v σ_=>(σ_.tidy [1,2,4,5,8,10,11,41,42,43] (nn [5,5,2,8])).put (some 43) (.pv (.int .i64 (Int.ofNat v)))|>.put (some 11) (.pv (.bool (Hz sl true v)))) (sl.length) (fun k=>True) (Fg.ca [1,2,4,5,8,10,11,41,42,43] (nn [5,5,2,8]) rfl (by first|(cbv;done)|(simp;cbv;done)|(simp;rfl))) ?_;intro v hv hk
 try dsimp only
 generalize bL:Hz sl true v=ob;refine ej ?_;refine bp.af (fun hd=>?_) (fun hd=>?_)
 ·have aT:v<sl.length:=by rw[←aC,←ag]at hd;simp at hd;omega
  obtain⟨gI,bj⟩:∃x,sl[v]=x:=⟨_,rfl⟩
  have bG:aJ (Int.ofNat v) dK 1:=by rw[←aP,hs];exact aO (enc:=Stat.enc) aT rfl
  obtain⟨⟨rp,wJ⟩,bW⟩:∃y,gI=y:=⟨_,rfl⟩;subst bW
  have aW:aI dK (Int.ofNat v)=[.sl (rp.map aH.enc) wJ]:=by rw[←aQ,hs,aN (enc:=Stat.enc) aT,bj];rfl
  obtain⟨q,hq⟩:∃q,q=rp.map aH.enc:=⟨_,rfl⟩;rw[←hq]at aW
  have hqlen:q.length=rp.length:=by simp[hq]
  have CR:(tq sl v).l=rp:=by rw[mC aT,bj]
  have dJ:=HA (sl:=sl) (b:=true) (v:=v);rw[bL,CR]at dJ;refine aY ?_;refine ae bG ?_;rw[aW];refine gK ?_
  rcases ob with _|_
  ·refine aY ?_;refine ak ⟨aT,trivial,?_⟩;rw[dJ];rw[wS ah aw (v:=v) (by omega)];exact Fg.ca [1,2,4,5,8,10,11,41,42,43] (nn [5,5,2,8]) rfl (by cbv)
  ·refine bp.af (fun hle=>?_) (fun hle=>?_)
   ·rw[←bC,←ag]at hle;simp at hle;refine aY ?_;refine ak ⟨aT,trivial,?_⟩;rw[dJ,show decide (rp.length≤30)=true from decide_eq_true (by omega)];rw[wS ah aw (v:=v) (by omega)];exact Fg.ca [1,2,4,5,8,10,11,41,42,43] (nn [5,5,2,8]) rfl (by cbv)
   ·rw[←bC,←ag]at hle;simp at hle;refine aY ?_;refine ak ⟨aT,trivial,?_⟩;rw[dJ,show decide (rp.length≤30)=false from decide_eq_false (by omega)];rw[wS ah aw (v:=v) (by omega)];exact Fg.ca [1,2,4,5,8,10,11,41,42,43] (nn [5,5,2,8]) rfl (by cbv)
 ·have aT:v=sl.length:=by rw[←aC,←ag]at hd;simp at hd;omega
  subst aT;refine aY ?_;refine ar rfl ?_;refine gK ?_
  rcases ob with _|_
  ·refine aY ?_;refine ao (by cbv) HB (fun h=>by first|rfl|cases h) ?_;refine gK ?_;refine aX ?_;rfl
  have bS:∀x∈sl,x.l.length≤30:=fun x hx=>by
   obtain⟨j,hj,rfl⟩:=List.getElem_of_mem hx;have:=bL;unfold Hz at this;simp only[Bool.true_and,decide_eq_true_eq]at this;have:=this j hj
   rwa [mC hj]at this
  obtain⟨C,hC⟩:∃C,C=(cl.map aL.cV).map aL.enc:=⟨_,rfl⟩;obtain⟨CM,hCM⟩:∃C,C=((List.range 12).map aL.mark).map aL.enc:=⟨_,rfl⟩;obtain⟨V,hV⟩:∃C,C=(vl.map bz.cV).map bz.enc:=⟨_,rfl⟩;obtain⟨VM,hVM⟩:∃C,C=((List.range 12).map bz.mark).map bz.enc:=⟨_,rfl⟩;obtain⟨RM,hRM⟩:∃C,C=((List.range 12).map Row.qn).map Row.enc:=⟨_,rfl⟩;obtain⟨FM,hFM⟩:∃C,C=((List.range 12).map Row.qo).map Row.enc:=⟨_,rfl⟩;obtain⟨T,hT⟩:∃C,C=(tl.map eg.cV).map eg.enc:=⟨_,rfl⟩
  obtain⟨TM,hTM⟩:∃C,C=((List.range 12).map eg.mark).map eg.enc:=⟨_,rfl⟩;have hL:zR C CM V VM RM FM T TM cl vl tl:=⟨hC,hCM,hV,hVM,hRM,hFM,hT,hTM⟩;obtain⟨SM,W9⟩:∃C,C=((List.range 12).map Stat.mark).map Stat.enc:=⟨_,rfl⟩;obtain⟨S,hS⟩:∃C,C=(sl.map Stat.cV).map Stat.enc:=⟨_,rfl⟩;obtain⟨WM,Xa⟩:∃C,C=((List.range 12).map jD.mark).map jD.enc:=⟨_,rfl⟩;obtain⟨W,hW⟩:∃C,C=(wl.map jD.cV).map jD.enc:=⟨_,rfl⟩;obtain⟨KM,hKM⟩:∃C,C=((List.range 12).map cT.mark).map cT.enc:=⟨_,rfl⟩
  obtain⟨BM,Xd⟩:∃C,C=((List.range 12).map b6.mark).map b6.enc:=⟨_,rfl⟩;refine aY ?_;refine ao (by cbv) (B3 h hL) (fun h=>by first|rfl|cases h) ?_;refine gK ?_;refine ao (by cbv) (show bE _ _ _ [.sl brows bsp] (.sl brows BM) by rw[Xd];exact sa jb lO) (fun h=>by first|rfl|cases h) ?_;refine gK ?_;refine ao (by cbv) (B7 hs hw hS W9 hW Xa oa xG mG JM) (fun h=>by first|rfl|cases h) ?_;refine gK ?_;refine ao (by cbv) (show bE _ _ _ [.sl gy ksp] (.sl gy KM) by rw[hKM];exact zS n0 AB) (fun h=>by first|rfl|cases h) ?_
  refine gK ?_;obtain⟨p,hp⟩:=PT (mx:=mx) (k:=k) (n:=Int.ofNat (kl.length+1)) (by simp;omega);rw[show bu .i64 (df (b7 gy) 1)=Int.ofNat (kl.length+1) by rw[show b7 gy=Int.ofNat kl.length by rw[←ag];simp[n0]];subst_vars;exact kY (by omega)];refine ao (by cbv) hp (fun h=>by first|rfl|cases h) ?_;refine gK ?_;obtain⟨N,hN⟩:∃N,N=Int.ofNat kl.length:=⟨_,rfl⟩;obtain⟨kk1,e1,h1⟩:=fh.ex kl;obtain⟨kk2,e2,h2⟩:=Ck boxes
  obtain⟨kk3,e3,h3⟩:=dq.ex (cl.map aL.cV) (vl.map bz.cV) boxes N (sl.map Stat.cV);obtain⟨kk4,e4,h4⟩:=dq.ex cl vl boxes N sl;have h34:=EA h4 h3
  have uy:∀x∈cl,x.cq.length≤12:=fun x hx=>by
   obtain⟨i,hi,rfl⟩:=List.getElem_of_mem hx;exact(hf5 i hi).1
  have rB:∀x∈vl,x.rows.length≤40:=fun x hx=>by
   obtain⟨i,hi,rfl⟩:=List.getElem_of_mem hx;exact hf6 i hi
  have hclL:∀x∈cl.map aL.cV,x.cq.length<2^32:=fun x hx=>by
   obtain⟨y,hy,rfl⟩:=List.mem_map.1 hx;have:y.cq.length≤12:=uy y hy;show y.cq.length<2^32;omega
  have hvlL:∀x∈vl.map bz.cV,x.rows.length<2^16:=fun x hx=>by
   obtain⟨y,hy,rfl⟩:=List.mem_map.1 hx;have:y.rows.length≤40:=rB y hy;show y.rows.length<2^16;omega
  have hstL:∀x∈sl.map Stat.cV,x.l.length<2^32∧∀y∈x.l,kL y:=fun x hx=>by
   obtain⟨y,hy,rfl⟩:=List.mem_map.1 hx;exact⟨mG y hy,yb y hy⟩
  have hspL:∀x∈sl.map Stat.cV,x.sp≠[]:=fun x hx=>by
   obtain⟨y,hy,rfl⟩:=List.mem_map.1 hx;intro h
   have:(12:Nat)=0:=by simpa[Stat.cV]using congrArg List.length h
   omega
  refine jJ (fun v σ_=>(σ_.tidy [1,2,5,8,14,15,16,17,71,72,73] (nn [5,5,2,8,0,9,0,10,0,11])).put (some 73) (.pv (.int .i64 (Int.ofNat v)))) (2) (fun k=>True) (Fg.ca [1,2,5,8,14,15,16,17,71,72,73] (nn [5,5,2,8,0,9,0,10,0,11]) rfl (by first|(cbv;done)|(simp;cbv;done)|(simp;rfl))) ?_;intro v hv hk;refine ej ?_;refine bp.af (fun hd=>?_) (fun hd=>?_)
  ·have gh:v<2:=by rw[←aC,←ag]at hd;simp at hd;omega
   obtain⟨K,hK⟩:∃K:Int,aI [[.int .i64 k],[.int .i64 p]] (Int.ofNat v)=[.int .i64 K]:=by
    rw[←aQ]
    match v,gh with
    |0,_=>exact⟨k,rfl⟩
    |1,_=>exact⟨p,rfl⟩
   have hKin:aJ (Int.ofNat v) [[.int .i64 k],[.int .i64 p]] 1:=by
    rw[←aP]
    match v,gh with
    |0,_=>exact⟨by simp,by simp,by simp⟩
    |1,_=>exact⟨by simp,by simp,by simp⟩
   refine aY ?_;refine ae hKin ?_;rw[hK];obtain⟨os,rs,hof⟩:=Gh.ex kl (sl.map Stat.cV) boxes (e1:=e1) (e2:=e2) (e3:=e3) (k:=K);rw[←hN]at hof;obtain⟨e,he⟩:∃e,e=wW e1 e2 e3 N K:=⟨_,rfl⟩
   have A6:e=wW e1 e2 e4 N K:=by rw[he];simp only[wW,h34]
   rw[←he]at hof;have px:=abH (mx:=mx) (c:=C) (csp:=CM) (vv:=V) (vsp:=VM) (r:=r) (rsp:=RM) (f:=f) (fsp:=FM) (t:=T) (tsp:=TM) (l1:=l1) (l2:=l2) (l3:=l3) (l4:=l4) (m1:=m1) (m2:=m2) (m3:=m3) (m4:=m4) (ksp:=KM) (bsp:=BM) (ssp:=SM) (wrows:=W) (wsp:=WM) hC hV (by simp;omega) (by simp;omega) hclL hvlL hN n0 AB hS (by simp;omega) jb lO vf hstL hspL h1 h2 h3 he hof
   have KP:=fun(x:PV) (Md:e≠0→x=At) (LH:e=0→x=nU kl sl boxes K.toNat)=>KE (mx:=mx) (c:=c) (csp:=csp) (vv:=vv) (vsp:=vsp) (r:=r) (rsp:=rsp) (f:=f) (fsp:=fsp) (t:=t) (tsp:=tsp) (l1:=l1) (l2:=l2) (l3:=l3) (l4:=l4) (m1:=m1) (m2:=m2) (m3:=m3) (m4:=m4) (ksp:=ksp) (bsp:=bsp) (ssp:=ssp) (wrows:=wrows) (wsp:=wsp) h.c h.v (by omega) (by omega) (fun x hx=>by have:=uy x hx;omega) (fun x hx=>by have:=rB x hx;omega) hN n0 AB hs oa jb lO vf (fun x hx=>⟨mG x hx,yb x hx⟩) h1 h2 h4 A6 Md LH
   refine gK ?_;obtain⟨m,rfl⟩:∃m,m=v:=⟨v,rfl⟩
   rcases hof with⟨eb,rfl,rfl⟩|⟨hz,xd,u,hu,rfl,rfl⟩|⟨hz,xd,u,hu,rfl,rfl⟩
   ·refine q9 (by cbv) px ?_;refine gK ?_;refine ao (by cbv) (KP At (fun _=>rfl) (fun h=>absurd h eb)) (fun h=>by first|rfl|cases h) ?_;refine gK ?_;refine zhF ?_;refine aY ?_;refine ao (by cbv) (uQ (rows:=[]) (brows:=[]) (l:=[]) (boxes:=[]) rfl rfl (by simp) (by simp)) (fun h=>by first|rfl|cases h) ?_;refine gK ?_;refine jJ (fun v_ σ_=>(σ_.tidy [1,2,5,8,14,15,16,17,71,72,73,20,106,107] (nn [5,5,2,8,0,9,0,10,0,11,0,12])).put (some 107) (.pv (.int .i64 (Int.ofNat v_)))) 0 (fun _=>True) (Fg.ca [1,2,5,8,14,15,16,17,71,72,73,20,106,107] (nn [5,5,2,8,0,9,0,10,0,11,0,12]) rfl (by cbv)) ?_
    intro j hj hjk;refine ej ?_;refine bp.af (fun kD=>?_) (fun kD=>?_)
    ·first|rw[←aC,←ag]at kD|rw[←aC]at kD
     simp at kD
     try omega
    have tC:j=0:=by omega
    subst tC;refine aY ?_;refine ar rfl ?_;refine gK ?_;refine jJ (fun v_ σ_=>(σ_.tidy [1,2,5,8,14,15,16,17,71,72,73,20,118,119] (nn [5,5,2,8,0,9,0,10,0,11,0,12])).put (some 119) (.pv (.int .i64 (Int.ofNat v_)))) 0 (fun _=>True) (Fg.ca [1,2,5,8,14,15,16,17,71,72,73,20,118,119] (nn [5,5,2,8,0,9,0,10,0,11,0,12]) rfl (by cbv)) ?_;intro j hj hjk;refine ej ?_;refine bp.af (fun kD=>?_) (fun kD=>?_)
    ·first|rw[←aC,←ag]at kD|rw[←aC]at kD
     simp at kD
     try omega
    have tC:j=0:=by omega
    subst tC;refine aY ?_;refine ar rfl ?_;refine gK ?_;refine ak ⟨gh,trivial,?_⟩;rw[wS ah aw (v:=m) (by omega)];exact Fg.ca [1,2,5,8,14,15,16,17,71,72,73] (nn [5,5,2,8,0,9,0,10,0,11]) rfl (by cbv)
   ·have hK0:e3=0∧0≤K∧K<N:=by
     rw[hz]at he;unfold wW at he;split at he
     ·split at he
      ·exact⟨by omega,by assumption⟩
      ·omega
     ·omega
    have hz3:e3=0:=hK0.1;rw[hz3]at h3;have hlen:=h3.zero.2.2.1;rw[List.length_map]at hlen
    have Wb:u<sl.length:=by
     have h1:(u:Int)<N:=by rw[show(u:Int)=K from hu.symm];exact hK0.2.2
     have h2:(sl.length:Int)=N:=hlen;omega
    have Wc:=wO Wb
    have hku:K.toNat=u:=by rw[hu];rfl
    have hqn:(tq sl u).l.length≤30:=by rw[mC Wb];exact bS _ (List.getElem_mem Wb)
    rw[hz]at KP;obtain⟨port,CH⟩:∃q,q=(Ph kl u).port:=⟨_,rfl⟩;obtain⟨q,hq⟩:∃q,q=(tq sl u).l.map aH.enc:=⟨_,rfl⟩
    have hql:q.length=(tq sl u).l.length:=by simp[hq]
    rw[Wc,←hq,←CH]at px
    have bK:nU kl sl boxes K.toNat=.agg [.int .i64 K,.str port,.sl [] [],.sl q []]:=by
     unfold nU;rw[hku,←hu,←CH,←hq,xd,List.map_nil]
    have CI:=KP _ (fun h=>absurd rfl h) (fun _=>rfl);rw[bK]at CI;refine q9 (by cbv) px ?_;refine gK ?_;refine ao (by cbv) CI (fun h=>by first|rfl|cases h) ?_;refine gK ?_;refine zhF ?_;refine aY ?_;refine ao (by cbv) (uQ (brows:=[]) (boxes:=[]) hq rfl (by omega) (by simp)) (fun h=>by first|rfl|cases h) ?_;refine gK ?_;obtain⟨Z,We,hZs⟩:∃Z:Nat→List (List PV),Z 0=q∧∀v,Z (v+1)=nJ (Z v) (Int.ofNat v) 0 [.int .i64 (-1),.int .i64 0,.int .i64 0,.int .u8 0]:=⟨fun v=>Nat.rec q (fun v z=>nJ z (Int.ofNat v) 0 [.int .i64 (-1),.int .i64 0,.int .i64 0,.int .u8 0]) v,rfl,fun _=>rfl⟩
    have KQ:∀v,(Z v).length=q.length∧aK 4 (Z v):=by
     intro v
     induction v with
     |zero=>exact⟨by rw[We],by rw[We];exact(by rw[hq];intro r hr;obtain⟨x,-,rfl⟩:=List.mem_map.1 hr;rfl)⟩
     |succ v ih=>
      rw[hZs,←EB];have:=wP (v:=v) ih.2 (ys:=[.int .i64 (-1),.int .i64 0,.int .i64 0,.int .u8 0]) rfl;exact⟨this.1.trans ih.1,this.2⟩
    refine jJ (fun v_ σ_=>((σ_.tidy [1,2,5,8,14,15,16,17,71,72,73,20,106,107] (nn [5,5,2,8,0,9,0,10,0,11,0,12,0,13])).put (some 107) (.pv (.int .i64 (Int.ofNat v_)))).aq 12 (.rows 4 (Z v_) 0)) q.length (fun _=>True) (by rw[We];exact Fg.ca [1,2,5,8,14,15,16,17,71,72,73,20,106,107] (nn [5,5,2,8,0,9,0,10,0,11,0,12,0,13]) rfl (by cbv)) ?_;intro j hj hjk;refine ej ?_;refine bp.af (fun kD=>?_) (fun kD=>?_)
    ·have ui:j<q.length:=by rw[←aC,←ag]at kD;have:=(KQ j).1;simp at kD;omega
     refine aY ?_;refine ae (by rw[←aP];exact⟨by simp,by have:=(KQ j).1;simp;omega,uR (KQ j).2 (by have:=(KQ j).1;omega)⟩) ?_;refine gK ?_;refine ak ⟨ui,trivial,?_⟩;rw[hZs];rw[wS ah aw (v:=j) (by omega)];exact Fg.ca [1,2,5,8,14,15,16,17,71,72,73,20,106,107] (nn [5,5,2,8,0,9,0,10,0,11,0,12,0,13]) rfl (by cbv)
    have ui:j=q.length:=by rw[←aC,←ag]at kD;have:=(KQ j).1;simp at kD;omega
    subst ui;refine aY ?_;refine ar rfl ?_;refine gK ?_;refine jJ (fun v_ σ_=>(σ_.tidy [1,2,5,8,14,15,16,17,71,72,73,20,118,119] (nn [5,5,2,8,0,9,0,10,0,11,1,13])).put (some 119) (.pv (.int .i64 (Int.ofNat v_)))) 0 (fun _=>True) (Fg.ca [1,2,5,8,14,15,16,17,71,72,73,20,118,119] (nn [5,5,2,8,0,9,0,10,0,11,1,13]) rfl (by cbv)) ?_;intro j hj hjk;refine ej ?_;refine bp.af (fun kD=>?_) (fun kD=>?_)
    ·first|rw[←aC,←ag]at kD|rw[←aC]at kD
     simp at kD
     try omega
    have tC:j=0:=by omega
    subst tC;refine aY ?_;refine ar rfl ?_;refine gK ?_;refine ak ⟨gh,trivial,?_⟩;rw[wS ah aw (v:=m) (by omega)];exact Fg.ca [1,2,5,8,14,15,16,17,71,72,73] (nn [5,5,2,8,0,9,0,10,0,11]) rfl (by cbv)
   ·have hK0:e3=0∧0≤K∧K<N:=by
     rw[hz]at he;unfold wW at he;split at he
     ·split at he
      ·exact⟨by omega,by assumption⟩
      ·omega
     ·omega
    have hz3:e3=0:=hK0.1;rw[hz3]at h3;have hlen:=h3.zero.2.2.1;rw[List.length_map]at hlen
    have Wb:u<sl.length:=by
     have h1:(u:Int)<N:=by rw[show(u:Int)=K from hu.symm];exact hK0.2.2
     have h2:(sl.length:Int)=N:=hlen;omega
    have Wc:=wO Wb
    have hku:K.toNat=u:=by rw[hu];rfl
    have hqn:(tq sl u).l.length≤30:=by rw[mC Wb];exact bS _ (List.getElem_mem Wb)
    rw[hz]at KP;obtain⟨port,CH⟩:∃q,q=(Ph kl u).port:=⟨_,rfl⟩;obtain⟨q,hq⟩:∃q,q=(tq sl u).l.map aH.enc:=⟨_,rfl⟩
    have hql:q.length=(tq sl u).l.length:=by simp[hq]
    obtain⟨z,AD⟩:∃q,q=(ue boxes K boxes.length).map b6.enc:=⟨_,rfl⟩
    have GI:z.length≤boxes.length:=by rw[AD,List.length_map];exact uP
    rw[Wc,←hq,←CH,←AD]at px
    have bK:nU kl sl boxes K.toNat=.agg [.int .i64 K,.str port,.sl z [],.sl q []]:=by
     unfold nU;rw[hku,←hu,←CH,←hq,←AD]
    have CI:=KP _ (fun h=>absurd rfl h) (fun _=>rfl);rw[bK]at CI;refine q9 (by cbv) px ?_;refine gK ?_;refine ao (by cbv) CI (fun h=>by first|rfl|cases h) ?_;refine gK ?_;refine zhF ?_;refine aY ?_;refine ao (by cbv) (uQ hq AD (by omega) (by have:=uP (l:=boxes) (k:=K) (v:=boxes.length);omega)) (fun h=>by first|rfl|cases h) ?_;refine gK ?_;obtain⟨Z,We,hZs⟩:∃Z:Nat→List (List PV),Z 0=q∧∀v,Z (v+1)=nJ (Z v) (Int.ofNat v) 0 [.int .i64 (-1),.int .i64 0,.int .i64 0,.int .u8 0]:=⟨fun v=>Nat.rec q (fun v z=>nJ z (Int.ofNat v) 0 [.int .i64 (-1),.int .i64 0,.int .i64 0,.int .u8 0]) v,rfl,fun _=>rfl⟩
    have KQ:∀v,(Z v).length=q.length∧aK 4 (Z v):=by
     intro v
     induction v with
     |zero=>exact⟨by rw[We],by rw[We];exact(by rw[hq];intro r hr;obtain⟨x,-,rfl⟩:=List.mem_map.1 hr;rfl)⟩
     |succ v ih=>
      rw[hZs,←EB];have:=wP (v:=v) ih.2 (ys:=[.int .i64 (-1),.int .i64 0,.int .i64 0,.int .u8 0]) rfl;exact⟨this.1.trans ih.1,this.2⟩
    obtain⟨Y,hY0,hYs⟩:∃Z:Nat→List (List PV),Z 0=z∧∀v,Z (v+1)=nJ (Z v) (Int.ofNat v) 0 [.int .i64 (-1),.str [],.int .u8 0,.bool false,.int .i64 0,.int .i64 0,.int .i64 0,.int .u8 0,.bool false]:=⟨fun v=>Nat.rec z (fun v z=>nJ z (Int.ofNat v) 0 [.int .i64 (-1),.str [],.int .u8 0,.bool false,.int .i64 0,.int .i64 0,.int .i64 0,.int .u8 0,.bool false]) v,rfl,fun _=>rfl⟩
    have hYl:∀v,(Y v).length=z.length∧aK 9 (Y v):=by
     intro v
     induction v with
     |zero=>exact⟨by rw[hY0],by rw[hY0];exact(by rw[AD];intro r hr;obtain⟨x,-,rfl⟩:=List.mem_map.1 hr;rfl)⟩
     |succ v ih=>
      rw[hYs,←EB];have:=wP (v:=v) ih.2 (ys:=[.int .i64 (-1),.str [],.int .u8 0,.bool false,.int .i64 0,.int .i64 0,.int .i64 0,.int .u8 0,.bool false]) rfl;exact⟨this.1.trans ih.1,this.2⟩
    refine jJ (fun v_ σ_=>((σ_.tidy [1,2,5,8,14,15,16,17,71,72,73,20,106,107] (nn [5,5,2,8,0,9,0,10,0,11,0,12,0,13,0,14])).put (some 107) (.pv (.int .i64 (Int.ofNat v_)))).aq 12 (.rows 4 (Z v_) 0)) q.length (fun _=>True) (by rw[We];exact Fg.ca [1,2,5,8,14,15,16,17,71,72,73,20,106,107] (nn [5,5,2,8,0,9,0,10,0,11,0,12,0,13,0,14]) rfl (by cbv)) ?_;intro j hj hjk;refine ej ?_;refine bp.af (fun kD=>?_) (fun kD=>?_)
    ·have ui:j<q.length:=by rw[←aC,←ag]at kD;have:=(KQ j).1;simp at kD;omega
     refine aY ?_;refine ae (by rw[←aP];exact⟨by simp,by have:=(KQ j).1;simp;omega,uR (KQ j).2 (by have:=(KQ j).1;omega)⟩) ?_;refine gK ?_;refine ak ⟨ui,trivial,?_⟩;rw[hZs];rw[wS ah aw (v:=j) (by omega)];exact Fg.ca [1,2,5,8,14,15,16,17,71,72,73,20,106,107] (nn [5,5,2,8,0,9,0,10,0,11,0,12,0,13,0,14]) rfl (by cbv)
    have ui:j=q.length:=by rw[←aC,←ag]at kD;have:=(KQ j).1;simp at kD;omega
    subst ui;refine aY ?_;refine ar rfl ?_;refine gK ?_;refine jJ (fun v_ σ_=>((σ_.tidy [1,2,5,8,14,15,16,17,71,72,73,20,118,119] (nn [5,5,2,8,0,9,0,10,0,11,0,12,0,13,0,14])).put (some 119) (.pv (.int .i64 (Int.ofNat v_)))).aq 13 (.rows 9 (Y v_) 0)) z.length (fun _=>True) (by rw[hY0];exact Fg.ca [1,2,5,8,14,15,16,17,71,72,73,20,118,119] (nn [5,5,2,8,0,9,0,10,0,11,0,12,0,13,0,14]) rfl (by cbv)) ?_;intro j hj hjk
    refine ej ?_;refine bp.af (fun kD=>?_) (fun kD=>?_)
    ·have ui:j<z.length:=by rw[←aC,←ag]at kD;have:=(hYl j).1;simp at kD;omega
     refine aY ?_;refine ae (by rw[←aP];exact⟨by simp,by have:=(hYl j).1;simp;omega,uR (hYl j).2 (by have:=(hYl j).1;omega)⟩) ?_;refine gK ?_;refine ak ⟨ui,trivial,?_⟩;rw[hYs];rw[wS ah aw (v:=j) (by omega)];exact Fg.ca [1,2,5,8,14,15,16,17,71,72,73,20,118,119] (nn [5,5,2,8,0,9,0,10,0,11,0,12,0,13,0,14]) rfl (by cbv)
    have ui:j=z.length:=by rw[←aC,←ag]at kD;have:=(hYl j).1;simp at kD;omega
    subst ui;refine aY ?_;refine ar rfl ?_;refine gK ?_;refine ak ⟨gh,trivial,?_⟩;rw[wS ah aw (v:=m) (by omega)];exact Fg.ca [1,2,5,8,14,15,16,17,71,72,73] (nn [5,5,2,8,0,9,0,10,0,11]) rfl (by cbv)
  ·have gh:v=2:=by rw[←aC,←ag]at hd;simp at hd;omega
   refine aY ?_;refine ar rfl ?_;refine gK ?_;refine ao (by cbv) (B6 h hL) (fun h=>by first|rfl|cases h) ?_;refine gK ?_;refine ao (by cbv) (sc jb Xd lO) (fun h=>by first|rfl|cases h) ?_;refine gK ?_;refine ao (by cbv) (B9 hs hw hS W9 hW Xa oa xG mG JM) (fun h=>by first|rfl|cases h) ?_;refine gK ?_;refine ao (by cbv) (zT n0 hKM AB) (fun h=>by first|rfl|cases h) ?_;refine gK ?_;refine ao (by cbv) HB (fun h=>by first|rfl|cases h) ?_
   refine gK ?_;refine aX ?_;rfl
end Go.b8
end
