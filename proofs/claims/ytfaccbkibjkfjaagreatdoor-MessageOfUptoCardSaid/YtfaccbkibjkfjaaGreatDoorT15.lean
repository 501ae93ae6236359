import Derived.Test.YtfaccbkibjkfjaaGreatDoorT43
import Derived.Test.YtfaccbkibjkfjaaGreatDoorT41
import Derived.Test.YtfaccbkibjkfjaaGreatDoorT12
set_option linter.all false
set_option maxRecDepth 100000
set_option maxHeartbeats 1000000
section
open Go Go.Am Go.Proofs
attribute [local irreducible] Am.bp.holds bH fw bP ek
namespace Go.b8
variable {mx:Int}
open Classical
theorem wD {c csp v vsp r rsp f fsp t tsp:List (List PV)} {l1 l2 l3 l4 m1 m2 m3 m4:Int} {cl:List aL} {vl:List bz} (jI:c=cl.map aL.enc) (pN:v=vl.map bz.enc) (wU:cl.length<2^32) (Hn:vl.length<2^32) (CS:∀x∈cl,x.cq.length<2^32) (AE:∀x∈vl,x.rows.length<2^32) {res:Bool} (hr:res=decide (cC cl vl)):
  pC mx 147 [.agg [.sl c csp,.sl v vsp,.int .i64 l1,.int .i64 l2,.int .i64 l3,.int .i64 l4,.sl r rsp,.sl f fsp,.sl t tsp,.int .i64 m1,.int .i64 m2,.int .i64 m3,.int .i64 m4]] (.bool res):=by
 have Su:c.length=cl.length:=by simp[jI]
 have Kf:v.length=vl.length:=by simp[pN]
 obtain⟨V,hV⟩:∃V,V=v:=⟨v,rfl⟩;rw[←hV]at pN Kf ⊢;refine pZ MO ?_
 iterate 119 intro _
 intro cP cY _ aw bu ah aI aQ aJ aP aB aU aV bC bA ag aC;refine gK ?_;refine cU (by cbv) (kX rfl) (fun h=>?_) (fun h=>?_)<;>simp only[decide_eq_true_eq,decide_eq_false_iff_not]at h
 ·rw[←ag]at h;refine gK ?_;refine bp.af (fun h1=>?_) (fun h1=>?_)
  ·replace h1:=eE h1
   refine aY ?_;refine aX ?_;refine fa hr ?_;rintro⟨⟨-,-,h⟩,-⟩;omega
  ·replace h1:=eE h1
   have Ef:1≤cl.length∧cl.length≤200∧vl.length≤40:=by unfold In at h;simp at h;omega
   refine aY ?_;refine bQ [1,3] [none,some 1] (fun v σ_=>σ_.put (some 3) (.pv (.int .i64 (Int.ofNat v)))) (cl.length) (fun k=>(∀h:k<cl.length,fX cl[k]∧∀j,(hk:j<k)→qz cl[j] cl[k])) ?_;intro v hv hk;refine ej ?_;refine bp.af (fun hd=>?_) (fun hd=>?_)
   ·have aT:v<cl.length:=by rw[←aC,←ag]at hd;simp at hd;omega
    obtain⟨gI,bj⟩:∃x,cl[v]=x:=⟨_,rfl⟩
    have bG:aJ (Int.ofNat v) c 12:=by rw[←aP,jI];exact aO (enc:=aL.enc) aT rfl
    obtain⟨⟨dU,jE,gJ,eI,eB,kx,ky,ia,dw,kz,pn,po,pq⟩,bW⟩:∃y,gI=y:=⟨_,rfl⟩;subst bW
    have aW:aI c (Int.ofNat v)=[.int .i64 dU,.int .i64 jE,.bool gJ,.int .i64 eI,.int .i64 eB,.int .i64 kx,.int .i64 ky,.int .i64 ia,.sl (ints dw) kz,.int .i64 pn,.int .i64 po,.int .i64 pq]:=by rw[←aQ,jI,aN (enc:=aL.enc) aT,bj];rfl
    obtain⟨wV,gL⟩:∃p,p=ints dw:=⟨_,rfl⟩;rw[←gL]at aW;obtain⟨n,hn⟩:∃n,n=decide (fX ⟨dU,jE,gJ,eI,eB,kx,ky,ia,dw,kz,pn,po,pq⟩):=⟨_,rfl⟩;rw[←bj]at hn;have uF:=hn;rw[bj]at uF;refine aY ?_;refine ae bG ?_;rw[aW];refine gK ?_;refine cU (by cbv) (Ag (x:=⟨dU,jE,gJ,eI,eB,kx,ky,ia,dw,kz,pn,po,pq⟩) gL uF (bj▸CS _ (List.getElem_mem aT))) (fun h=>?_) (fun h=>?_)
    ·have Ie:fX cl[v]:=by rw[h]at hn;simpa using hn
     refine gK ?_;obtain⟨i,rfl⟩:∃i,i=v:=⟨v,rfl⟩;refine bQ [1,3,4] [none,some 1] (fun v σ_=>σ_.put (some 4) (.pv (.int .i64 (Int.ofNat v)))) (i) (fun k=>(∀hk:k<i,qz cl[k] cl[i])) ?_;intro v hv hk;refine ej ?_;refine bp.af (fun he=>?_) (fun he=>?_)
     ·have gh:v<i:=by rw[←aC]at he;simp at he;omega
      have rB:v<cl.length:=by omega
      obtain⟨Ac,fv⟩:∃x,cl[v]=x:=⟨_,rfl⟩
      have gw:aJ (Int.ofNat v) c 12:=by rw[←aP,jI];exact aO (enc:=aL.enc) rB rfl
      obtain⟨⟨Cr,abn,Kg,O5,Kh,abo,abp,VG,O6,abq,cx_b,cy_b,cz_b⟩,jF⟩:∃y,Ac=y:=⟨_,rfl⟩;subst jF
      have dV:aI c (Int.ofNat v)=[.int .i64 Cr,.int .i64 abn,.bool Kg,.int .i64 O5,.int .i64 Kh,.int .i64 abo,.int .i64 abp,.int .i64 VG,.sl (ints O6) abq,.int .i64 cx_b,.int .i64 cy_b,.int .i64 cz_b]:=by rw[←aQ,jI,aN (enc:=aL.enc) rB,fv];rfl
      cases gJ<;>cases Kg
      all_goals
       refine aY ?_
       repeat' (first
        |(refine ae bG ?_;rw[aW];refine gK ?_)
        |(refine ae gw ?_;rw[dV];refine gK ?_)
        |(refine bp.af (fun hc=>?_) (fun hc=>?_)<;>(rw[←bA]at hc)<;>(try simp at hc)<;>refine gH ?_))
      all_goals try(refine ff rfl (de.oV rfl ?_);show fN _ _=_;refine F3 ?_;refine fa hr ?_;rintro⟨-,h2,-⟩;exact(h2 i aT).2 v gh (by rw[bj,fv];exact⟨by assumption,by assumption,rfl⟩))
      all_goals
       refine ak ⟨gh,fun _=>(by rw[bj,fv];unfold qz;rintro⟨h1,h2,h3⟩;dsimp only at h1 h2 h3;first|omega|(cases h3)),?_⟩;rw[wS ah aw (v:=v) (by omega)]
       cbv
     ·have gh:v=i:=by rw[←aC]at he;simp at he;omega
      subst gh;refine aY ?_;refine ar rfl ?_;refine gK ?_;refine ak ⟨aT,fun _=>⟨Ie,fun j hj=>hk j hj hj⟩,?_⟩;rw[wS ah aw (v:=v) (by omega)]
      cbv
    ·refine gK ?_;refine dS ?_;refine fa hr ?_;rintro⟨-,h2,-⟩;rw[h]at hn;simp at hn;exact hn (h2 v aT).1
   ·have aT:v=cl.length:=by rw[←aC,←ag]at hd;simp at hd;omega
    have Cs:∀i,(h:i<cl.length)→fX cl[i]∧∀k,(hk:k<i)→qz cl[k] cl[i]:=fun i h=>hk i (by omega) h
    refine aY ?_;refine ar rfl ?_;refine gK ?_;refine bQ [1,5] [none,some 1] (fun v σ_=>σ_.put (some 5) (.pv (.int .i64 (Int.ofNat v)))) (vl.length) (fun k=>(∀h:k<vl.length,iM vl[k]∧∀j,(hk:j<k)→vl[j].jj=vl[k].jj→∀r,r∈vl[k].rows→r∉vl[j].rows)) ?_;intro v hv hk;refine ej ?_;refine bp.af (fun um=>?_) (fun um=>?_)
    ·have aT:v<vl.length:=by rw[←aC,←ag]at um;simp at um;omega
     obtain⟨gI,bj⟩:∃x,vl[v]=x:=⟨_,rfl⟩
     have bG:aJ (Int.ofNat v) V 2:=by rw[←aP,pN];exact aO (enc:=bz.enc) aT rfl
     obtain⟨⟨dU,cW,oe⟩,bW⟩:∃y,gI=y:=⟨_,rfl⟩;subst bW
     have aW:aI V (Int.ofNat v)=[.int .i64 dU,.sl (ints cW) oe]:=by rw[←aQ,pN,aN (enc:=bz.enc) aT,bj];rfl
     obtain⟨wV,gL⟩:∃p,p=ints cW:=⟨_,rfl⟩;rw[←gL]at aW
     have mn:cW.length<2^32:=by have:=AE _ (List.getElem_mem aT);rw[bj]at this;exact this
     have xT:wV.length=cW.length:=by simp[gL,ints]
     refine aY ?_;refine ae bG ?_;rw[aW];refine gK ?_;refine cU (by cbv) (kX rfl) (fun h=>?_) (fun h=>?_)<;>simp only[decide_eq_true_eq,decide_eq_false_iff_not]at h
     ·have hbay:=h;refine gK ?_;refine bp.af (fun h2=>?_) (fun h2=>?_)
      ·replace h2:=eE h2
       refine aY ?_;refine dS ?_;refine fa hr ?_;rintro⟨-,-,h3⟩;have:=(h3 v aT).1.2.1;rw[bj]at this;exact this (by simpa[gL,ints]using h2)
      ·replace h2:=eE h2
       have eb:cW≠[]:=by intro h;subst h;simp[ints]at gL;exact h2 gL
       refine aY ?_;obtain⟨i,rfl⟩:∃i,i=v:=⟨v,rfl⟩;refine bQ [1,5,6,7] [none,some 1,some 2] (fun v σ_=>σ_.put (some 7) (.pv (.int .i64 (Int.ofNat v)))) (cW.length) (fun k=>(qA ⟨dU,cW,oe⟩ k∧∀j,(h:j<i)→vl[j].jj=dU→cW.getD k 0∉vl[j].rows)) ?_;intro v hv hk;refine ej ?_
       have bad:((iM ⟨dU,cW,oe⟩∧∀j,(hk:j<i)→vl[j].jj=dU→∀r,r∈cW→r∉vl[j].rows)→False)→¬cC cl vl:=fun hF hS=>by
        have:=hS.2.2 i aT;rw[bj]at this;exact hF this
       refine bp.af (fun hd3=>?_) (fun hd3=>?_)
       ·have rI:v<cW.length:=by rw[←aC,←ag]at hd3;simp at hd3;omega
        obtain⟨q,hq⟩:∃q,q=cW.getD v 0:=⟨_,rfl⟩
        have ec:aJ (Int.ofNat v) wV 1:=by rw[←aP,gL];exact gW (by simp) (by simp;omega)
        have bK:aI wV (Int.ofNat v)=[.int .i64 q]:=by rw[←aQ,gL,gv (by simp) (by simp;omega),hq];rfl
        refine aY ?_;refine ae ec ?_;rw[bK];refine gK ?_;refine gG (by cbv) (kX rfl) (fun h=>?_) (fun h=>?_)<;>simp only[decide_eq_true_eq,decide_eq_false_iff_not]at h
        ·refine gK ?_
         repeat' (first|refine gH ?_|(refine iE (fun hc=>?_) (fun hc=>?_)<;>(try simp at hc)<;>(try(exfalso;omega))))
         ·obtain⟨w,hw⟩:∃w,v=w+1:=⟨v-1,by omega⟩
          have fu:bu .i64 (cP (Int.ofNat v) 1)=Int.ofNat w:=by rw[←ah,←cY];simp only[di,iQ];rw[dy]<;>simp<;>omega
          rw[fu];obtain⟨t,ht⟩:∃t,t=cW.getD w 0:=⟨_,rfl⟩
          have gq:aJ (Int.ofNat w) wV 1:=by rw[←aP,gL];exact gW (by simp) (by simp;omega)
          have dT:aI wV (Int.ofNat w)=[.int .i64 t]:=by rw[←aQ,gL,gv (by simp) (by simp;omega),ht];rfl
          refine ae gq ?_;rw[dT];refine gK ?_;refine ae ec ?_;rw[bK];refine gK ?_
          repeat' (first|refine gH ?_|(refine iE (fun hc=>?_) (fun hc=>?_)<;>(try simp at hc)<;>(try(exfalso;omega))))
          ·refine ff rfl (de.oV rfl ?_);show fN _ _=_;refine F3 ?_;refine fa hr (bad ?_);rintro⟨⟨-,-,h4⟩,-⟩;have:=(h4 v rI).2.2;dsimp only at this;simp only[hw,Nat.add_sub_cancel]at this;simp only[hw]at hq;omega
          ·have Eg:qA ⟨dU,cW,oe⟩ v:=⟨by rw[←hq];exact h.1,by rw[←hq];exact h.2,Or.inr (by dsimp only;simp only[hw,Nat.add_sub_cancel];simp only[hw]at hq;omega)⟩;obtain⟨j,rfl⟩:∃j,j=v:=⟨v,rfl⟩;refine bQ [1,5,6,7,8] [none,some 1,some 2] (fun v σ_=>σ_.put (some 8) (.pv (.int .i64 (Int.ofNat v)))) (i) (fun k=>(∀hk:k<i,vl[k].jj=dU→cW.getD j 0∉vl[k].rows)) ?_;intro v hv hk;refine ej ?_;refine bp.af (fun he=>?_) (fun he=>?_)
           ·have gh:v<i:=by rw[←aC]at he;simp at he;omega
            have rB:v<vl.length:=by omega
            obtain⟨Ac,fv⟩:∃x,vl[v]=x:=⟨_,rfl⟩
            have gw:aJ (Int.ofNat v) V 2:=by rw[←aP,pN];exact aO (enc:=bz.enc) rB rfl
            obtain⟨⟨Cr,rh,Ki⟩,jF⟩:∃y,Ac=y:=⟨_,rfl⟩;subst jF
            have dV:aI V (Int.ofNat v)=[.int .i64 Cr,.sl (ints rh) Ki]:=by rw[←aQ,pN,aN (enc:=bz.enc) rB,fv];rfl
            obtain⟨p_b,Kj⟩:∃p,p=ints rh:=⟨_,rfl⟩;rw[←Kj]at dV
            have hrb:rh.length<2^32:=by have:=AE _ (List.getElem_mem rB);rw[fv]at this;exact this
            refine aY ?_;refine ae gw ?_;rw[dV];refine gK ?_
            repeat' (first|refine gH ?_|(refine iE (fun hc=>?_) (fun hc=>?_)<;>(try simp at hc)<;>(try(exfalso;omega))))
            ·refine ae gw ?_;rw[dV];refine gK ?_;refine ae ec ?_;rw[bK];refine gK ?_;refine gG (by cbv) (sx Kj rfl hrb) (fun h=>?_) (fun h=>?_)<;>simp only[decide_eq_true_eq,decide_eq_false_iff_not]at h
             ·refine gK ?_;refine ff rfl (de.oV rfl (de.oV rfl ?_));show fN _ _=_;refine F3 ?_;refine fa hr (bad ?_);rintro⟨-,h4⟩;have:=h4 v gh (by rw[fv];assumption) q (by rw[hq,getD_eq rI];exact List.getElem_mem rI);rw[fv]at this;exact this h
             ·refine gK ?_;refine ak ⟨gh,fun _ _=>by rw[fv,←hq];exact h,?_⟩;rw[wS ah aw (v:=v) (by omega)]
              cbv
            ·refine ak ⟨gh,fun _ hb=>absurd hb (by rw[fv];assumption),?_⟩;rw[wS ah aw (v:=v) (by omega)]
             cbv
           ·have gh:v=i:=by rw[←aC]at he;simp at he;omega
            subst gh;refine aY ?_;refine ar rfl ?_;refine gK ?_;refine ak ⟨rI,⟨Eg,fun j hj=>hk j hj hj⟩,?_⟩;rw[wS ah aw (v:=j) (by omega)]
            cbv
         ·have Eg:qA ⟨dU,cW,oe⟩ v:=⟨by rw[←hq];exact h.1,by rw[←hq];exact h.2,Or.inl (by omega)⟩;obtain⟨j,rfl⟩:∃j,j=v:=⟨v,rfl⟩;refine bQ [1,5,6,7,8] [none,some 1,some 2] (fun v σ_=>σ_.put (some 8) (.pv (.int .i64 (Int.ofNat v)))) (i) (fun k=>(∀hk:k<i,vl[k].jj=dU→cW.getD j 0∉vl[k].rows)) ?_;intro v hv hk;refine ej ?_;refine bp.af (fun he=>?_) (fun he=>?_)
          ·have gh:v<i:=by rw[←aC]at he;simp at he;omega
           have rB:v<vl.length:=by omega
           obtain⟨Ac,fv⟩:∃x,vl[v]=x:=⟨_,rfl⟩
           have gw:aJ (Int.ofNat v) V 2:=by rw[←aP,pN];exact aO (enc:=bz.enc) rB rfl
           obtain⟨⟨Cr,rh,Ki⟩,jF⟩:∃y,Ac=y:=⟨_,rfl⟩;subst jF
           have dV:aI V (Int.ofNat v)=[.int .i64 Cr,.sl (ints rh) Ki]:=by rw[←aQ,pN,aN (enc:=bz.enc) rB,fv];rfl
           obtain⟨p_b,Kj⟩:∃p,p=ints rh:=⟨_,rfl⟩;rw[←Kj]at dV
           have hrb:rh.length<2^32:=by have:=AE _ (List.getElem_mem rB);rw[fv]at this;exact this
           refine aY ?_;refine ae gw ?_;rw[dV];refine gK ?_
           repeat' (first|refine gH ?_|(refine iE (fun hc=>?_) (fun hc=>?_)<;>(try simp at hc)<;>(try(exfalso;omega))))
           ·refine ae gw ?_;rw[dV];refine gK ?_;refine ae ec ?_;rw[bK];refine gK ?_;refine gG (by cbv) (sx Kj rfl hrb) (fun h=>?_) (fun h=>?_)<;>simp only[decide_eq_true_eq,decide_eq_false_iff_not]at h
            ·refine gK ?_;refine ff rfl (de.oV rfl (de.oV rfl ?_));show fN _ _=_;refine F3 ?_;refine fa hr (bad ?_);rintro⟨-,h4⟩;have:=h4 v gh (by rw[fv];assumption) q (by rw[hq,getD_eq rI];exact List.getElem_mem rI);rw[fv]at this;exact this h
            ·refine gK ?_;refine ak ⟨gh,fun _ _=>by rw[fv,←hq];exact h,?_⟩;rw[wS ah aw (v:=v) (by omega)]
             cbv
           ·refine ak ⟨gh,fun _ hb=>absurd hb (by rw[fv];assumption),?_⟩;rw[wS ah aw (v:=v) (by omega)]
            cbv
          ·have gh:v=i:=by rw[←aC]at he;simp at he;omega
           subst gh;refine aY ?_;refine ar rfl ?_;refine gK ?_;refine ak ⟨rI,⟨Eg,fun j hj=>hk j hj hj⟩,?_⟩;rw[wS ah aw (v:=j) (by omega)]
           cbv
        ·refine gK ?_
         repeat' (first|refine gH ?_|refine bp.af (fun hc=>?_) (fun hc=>?_))
         refine ff rfl (de.oV rfl ?_);show fN _ _=_;refine F3 ?_;refine fa hr (bad ?_);rintro⟨⟨-,-,h4⟩,-⟩;have:=(h4 v rI);exact h ⟨by rw[hq];exact this.1,by rw[hq];exact this.2.1⟩
       ·have rI:v=cW.length:=by rw[←aC,←ag]at hd3;simp at hd3;omega
        refine aY ?_;refine ar rfl ?_;refine gK ?_
        refine ak ⟨aT,fun _=>by
         rw[bj];refine⟨⟨hbay,eb,fun j hj=>(hk j (by dsimp only at hj;omega)).1⟩,fun j hj hb r hrm=>?_⟩;obtain⟨k,WH,WS⟩:=List.getElem_of_mem hrm;dsimp only at WH WS hb;have:=(hk k (by omega)).2 j hj hb;rw[getD_eq WH,WS]at this
         exact this,?_⟩
        rw[wS ah aw (v:=i) (by omega)]
        cbv
     ·refine gK ?_
      repeat' (first|refine gH ?_|refine bp.af (fun hc=>?_) (fun hc=>?_))
      refine dS ?_;refine fa hr ?_;rintro⟨-,-,h3⟩;have:=(h3 v aT).1.1;rw[bj]at this;exact h this
    ·have aT:v=vl.length:=by rw[←aC,←ag]at um;simp at um;omega
     refine aY ?_;refine ar rfl ?_;refine gK ?_;refine aX ?_;exact tr hr ⟨Ef,Cs,fun i h=>hk i (by omega) h⟩
 ·rw[←ag]at h;refine gK ?_;refine aX ?_;refine fa hr ?_;rintro⟨⟨h1,h2,-⟩,-⟩;unfold In at h;simp at h;omega
end Go.b8
end
section
open Go Go.Am Go.Proofs
attribute [local irreducible] Am.bp.holds bH fw bP ek
namespace Go.b8
variable {mx:Int}
open Classical
def Lc (n:Int):Prop:= -9223372036854775808≤n∧n<9223372036854775808
def og (b:b6):Prop:=(0≤b.size∧b.size<256)∧(0≤b.cls∧b.cls<256)∧Lc b.id∧Lc b.cD∧Lc b.load∧Lc b.discharge
def kL (x:aH):Prop:=Lc x.box∧Lc x.slot.column∧Lc x.slot.hP∧(0≤x.slot.half∧x.slot.half<256)
theorem Eh {c csp vv vsp r rsp f fsp t tsp:List (List PV)} {l1 l2 l3 l4 m1 m2 m3 m4:Int} {rows sp brows bsp:List (List PV)} {cl:List aL} {l:List aH} {boxes:List b6} {n:Nat} {res:Bool} (jI:c=cl.map aL.enc) (eS:rows=l.map aH.enc) (jb:brows=boxes.map b6.enc) (uy:cl.length<2^32) (hl:l.length<2^32) (lO:boxes.length<2^32) (hn:n<cl.length) (h0:0≤cl[n].dk)
  (hr:res=decide (¬Fits cl[n] boxes l (Int.ofNat n))):pC mx 221 [.agg [.sl c csp,.sl vv vsp,.int .i64 l1,.int .i64 l2,.int .i64 l3,.int .i64 l4,.sl r rsp,.sl f fsp,.sl t tsp,.int .i64 m1,.int .i64 m2,.int .i64 m3,.int .i64 m4],.sl brows bsp,.sl rows sp,.int .i64 (Int.ofNat n)] (.bool res):=by
 have hlen:c.length=cl.length:=by simp[jI]
 refine pZ MX ?_
 iterate 125 intro _
 intro aI aQ aJ aP aB aU aV bC bA ag aC;obtain⟨gI,bj⟩:∃x,cl[n]=x:=⟨_,rfl⟩
 have bG:aJ (Int.ofNat n) c 12:=by rw[←aP,jI];exact aO (enc:=aL.enc) hn rfl
 obtain⟨⟨dU,jE,gJ,eI,eB,kx,ky,ia,dw,kz,pn,po,pq⟩,bW⟩:∃y,gI=y:=⟨_,rfl⟩;subst bW
 have aW:aI c (Int.ofNat n)=[.int .i64 dU,.int .i64 jE,.bool gJ,.int .i64 eI,.int .i64 eB,.int .i64 kx,.int .i64 ky,.int .i64 ia,.sl (ints dw) kz,.int .i64 pn,.int .i64 po,.int .i64 pq]:=by rw[←aQ,jI,aN (enc:=aL.enc) hn,bj];rfl
 obtain⟨wV,gL⟩:∃p,p=ints dw:=⟨_,rfl⟩;rw[←gL]at aW;rw[bj]at h0 hr;unfold Fits at hr;dsimp only at h0 hr;refine gK ?_;refine ae bG ?_;rw[aW];refine gK ?_;refine bp.af (fun h1=>?_) (fun h1=>?_)
 ·replace h1:=eE h1
  refine aY ?_;refine aX ?_;exact fa hr (by omega)
 ·replace h1:=eE h1
  refine aY ?_;refine yu (by cbv) (sk eS jb hl lO rfl) (fun _=>rfl) ?_;intro x hx;refine gK ?_;refine ae bG ?_;rw[aW];refine gK ?_;refine bp.af (fun h2=>?_) (fun h2=>?_)
  ·replace h2:=eE h2
   refine aY ?_;refine aX ?_;exact tr hr (by omega)
  ·replace h2:=eE h2
   refine aY ?_;refine yu (by cbv) (sk eS jb hl lO rfl) (fun _=>rfl) ?_;intro y hy;refine gK ?_;refine ae bG ?_;rw[aW];refine gK ?_
   repeat' (first|refine gH ?_|(refine iE (fun hc=>?_) (fun hc=>?_)<;>(try simp at hc)<;>(try(exfalso;omega))))
   all_goals(refine aX ?_)
   ·exact tr hr (by omega)
   ·exact fa hr (by omega)
theorem Ei {c csp vv vsp r rsp f fsp t tsp:List (List PV)} {l1 l2 l3 l4 m1 m2 m3 m4:Int} {rows sp brows bsp:List (List PV)} {cl:List aL} {vl:List bz} {l:List aH} {boxes:List b6} {res:Bool} (jI:c=cl.map aL.enc) (pN:vv=vl.map bz.enc) (wU:cl.length<2^32) (Hn:vl.length<2^32) (CS:∀x∈cl,x.cq.length<2^32) (AE:∀x∈vl,x.rows.length<2^32)
  (eS:rows=l.map aH.enc) (jb:brows=boxes.map b6.enc) (hl:l.length<2^32) (lO:boxes.length<2^32) (vf:∀b∈boxes,og b) (bO:∀x∈l,kL x) (hr:res=decide (gC cl vl boxes l)):
  pC mx 116 [.agg [.sl c csp,.sl vv vsp,.int .i64 l1,.int .i64 l2,.int .i64 l3,.int .i64 l4,.sl r rsp,.sl f fsp,.sl t tsp,.int .i64 m1,.int .i64 m2,.int .i64 m3,.int .i64 m4],.sl brows bsp,.sl rows sp] (.bool res):=by
 have hlen:c.length=cl.length:=by simp[jI]
 have Gd:rows.length=l.length:=by simp[eS]
 obtain⟨S,hS⟩:∃S,S=(l.map (·.slot)).map Slot.enc:=⟨_,rfl⟩;refine pZ MY ?_
 iterate 122 intro _
 intro aw bu ah aI aQ aJ aP aB aU aV bC bA ag aC;refine gK ?_;refine cU (by cbv) (wD jI pN wU Hn CS AE rfl) (fun h=>?_) (fun h=>?_)<;>simp only[decide_eq_true_eq,decide_eq_false_iff_not]at h
 ·have kN:=h;refine gK ?_;refine bQ [1,2,3,7] (nn [3,3]) (fun v σ_=>σ_.put (some 7) (.pv (.int .i64 (Int.ofNat v)))) (l.length) (fun k=>pk cl boxes l k) ?_;intro v hv hk;refine ej ?_;refine bp.af (fun hd=>?_) (fun hd=>?_)
  ·have aT:v<l.length:=by rw[←aC,←ag]at hd;simp at hd;omega
   have bad:¬pk cl boxes l v→¬gC cl vl boxes l:=fun h h'=>h (h'.2.1 v aT)
   have xR:=bO _ (List.getElem_mem aT);obtain⟨gI,bj⟩:∃x,l[v]=x:=⟨_,rfl⟩
   have bG:aJ (Int.ofNat v) rows 4:=by rw[←aP,eS];exact aO (enc:=aH.enc) aT rfl
   obtain⟨⟨eH,⟨dO,du,ct⟩⟩,bW⟩:∃y,gI=y:=⟨_,rfl⟩;subst bW
   have aW:aI rows (Int.ofNat v)=[.int .i64 eH,.int .i64 dO,.int .i64 du,.int .u8 ct]:=by rw[←aQ,eS,aN (enc:=aH.enc) aT,bj];rfl
   rw[bj]at xR;refine aY ?_;refine ae bG ?_;rw[aW];refine gK ?_
   cases hf:ku boxes eH with
   |none=>
    refine ao (by cbv) (nQ (id:=eH) (ok:=false) (cs:=[.int .i64 0,.str [],.int .u8 0,.bool false,.int .i64 0,.int .i64 0,.int .i64 0,.int .u8 0,.bool false]) jb lO (by simp only[dM,hf];rfl) (by simp only[dM,hf])) (fun h=>by first|rfl|cases h) ?_;refine gK ?_;refine dS ?_;refine fa hr (bad ?_);intro h;obtain⟨⟨b,hb,-⟩,-⟩:=h aT;rw[bj]at hb;dsimp only at hb;rw[hf]at hb
    cases hb
   |some b=>
    have hbm:og b:=vf b (by unfold ku at hf;exact List.mem_of_find?_eq_some hf);obtain⟨Ou,zZ,bsize,qB,nR,sq,z6,z7,kW⟩:=b;refine ao (by cbv) (nQ (id:=eH) (ok:=true) (cs:=[.int .i64 Ou,.str zZ,.int .u8 bsize,.bool qB,.int .i64 nR,.int .i64 sq,.int .i64 z6,.int .u8 z7,.bool kW]) jb lO (by simp only[dM,hf];rfl) (by simp only[dM,hf])) (fun h=>by first|rfl|cases h) ?_
    have hw:bu .i64 bsize=bsize:=by rw[←ah];simp only[di];rw[dy]<;>(have:=hbm.1;dsimp only at this;omega)
    refine gK ?_;refine ae bG ?_;rw[aW];refine gK ?_;rw[hw];refine gG (by cbv) (DR (x:=⟨dO,du,ct⟩) jI wU rfl) (fun h=>?_) (fun h=>?_)<;>simp only[decide_eq_true_eq,decide_eq_false_iff_not]at h
    ·have hsr:=h;refine gK ?_;refine ae bG ?_;rw[aW];refine gK ?_;refine bF (by cbv) (Ce eS hS hl) (fun h=>by first|rfl|cases h) ?_;refine gK ?_;refine gG (by cbv) (DS (x:=⟨dO,du,ct⟩) hS (by simpa using hl) (by have:=xR.2.2.1.2;dsimp only at this ⊢;omega) rfl) (fun h=>?_) (fun h=>?_)<;>simp only[decide_eq_true_eq,decide_eq_false_iff_not]at h
     ·have hhe:=h;refine gK ?_;obtain⟨i,rfl⟩:∃i,i=v:=⟨v,rfl⟩;refine bQ [1,2,3,7,10] (nn [3,3]) (fun v σ_=>σ_.put (some 10) (.pv (.int .i64 (Int.ofNat v)))) (i) (fun k=>(∀hk:k<i,l[k].box<l[i].box∧¬zV l[k].slot l[i].slot)) ?_;intro v hv hk;refine ej ?_;refine bp.af (fun he=>?_) (fun he=>?_)
      ·have gh:v<i:=by rw[←aC]at he;simp at he;omega
       have rB:v<l.length:=by omega
       obtain⟨Ac,fv⟩:∃x,l[v]=x:=⟨_,rfl⟩
       have gw:aJ (Int.ofNat v) rows 4:=by rw[←aP,eS];exact aO (enc:=aH.enc) rB rfl
       obtain⟨⟨Kk,⟨Ge,Ah,Ai⟩⟩,jF⟩:∃y,Ac=y:=⟨_,rfl⟩;subst jF
       have dV:aI rows (Int.ofNat v)=[.int .i64 Kk,.int .i64 Ge,.int .i64 Ah,.int .u8 Ai]:=by rw[←aQ,eS,aN (enc:=aH.enc) rB,fv];rfl
       refine aY ?_;refine ae gw ?_;rw[dV];refine gK ?_;refine ae bG ?_;rw[aW];refine gK ?_
       repeat' (first|refine gH ?_|(refine iE (fun hc=>?_) (fun hc=>?_)<;>(try simp at hc)<;>(try(exfalso;omega))))
       ·refine ff rfl (de.oV rfl ?_);show fN _ _=_;refine F3 ?_;refine fa hr (bad ?_);intro h';have:=((h' aT).2.2 v gh).1;rw[bj,fv]at this;dsimp only at this;omega
       ·refine ae gw ?_;rw[dV];refine gK ?_;refine ae bG ?_;rw[aW];refine gK ?_;refine gG (by cbv) (DQ (a:=⟨Ge,Ah,Ai⟩) (b:=⟨dO,du,ct⟩) rfl) (fun h=>?_) (fun h=>?_)<;>simp only[decide_eq_true_eq,decide_eq_false_iff_not]at h
        ·refine gK ?_;refine ff rfl (de.oV rfl ?_);show fN _ _=_;refine F3 ?_;refine fa hr (bad ?_);intro h';have:=((h' aT).2.2 v gh).2;rw[bj,fv]at this;exact this h
        ·refine gK ?_;refine ak ⟨gh,fun _=>by rw[bj,fv];exact⟨by assumption,h⟩,?_⟩;rw[wS ah aw (v:=v) (by omega)]
         cbv
      ·have gh:v=i:=by rw[←aC]at he;simp at he;omega
       subst gh;refine aY ?_;refine ar rfl ?_;refine gK ?_;refine ak ⟨aT,fun _=>⟨⟨_,by rw[bj];exact hf,by rw[bj];exact hsr⟩,by rw[bj];exact hhe,fun k eR=>hk k eR eR⟩,?_⟩;rw[wS ah aw (v:=v) (by omega)]
       cbv
     ·refine gK ?_;refine dS ?_;refine fa hr (bad ?_);intro h';have:=(h' aT).2.1;rw[bj]at this;exact h this
    ·refine gK ?_;refine dS ?_;refine fa hr (bad ?_);intro h';obtain⟨⟨b,hb,oA⟩,-⟩:=h' aT;rw[bj]at hb oA;dsimp only at hb;rw[hf]at hb
     cases hb
     exact h oA
  ·have aT:v=l.length:=by rw[←aC,←ag]at hd;simp at hd;omega
   have yb:∀i,i<l.length→pk cl boxes l i:=fun i h=>hk i (by omega)
   refine aY ?_;refine ar rfl ?_;refine gK ?_;refine bQ [1,2,3,11] (nn [3,3]) (fun v σ_=>σ_.put (some 11) (.pv (.int .i64 (Int.ofNat v)))) (cl.length) (fun k=>(∀h:k<cl.length,Fits cl[k] boxes l (Int.ofNat k))) ?_;intro v hv hk;refine ej ?_;refine bp.af (fun um=>?_) (fun um=>?_)
   ·have aT:v<cl.length:=by rw[←aC,←ag]at um;simp at um;omega
    refine aY ?_;refine cU (by cbv) (Eh jI eS jb wU hl lO aT ((kN.2.1 v aT).1.2.2.2.2.1.1) rfl) (fun h=>?_) (fun h=>?_)<;>simp only[decide_eq_true_eq,decide_eq_false_iff_not,Classical.not_not]at h
    ·refine gK ?_;refine dS ?_;refine fa hr ?_;rintro⟨-,-,h'⟩;exact h (h' v aT)
    ·refine gK ?_;refine ak ⟨aT,fun _=>h,?_⟩;rw[wS ah aw (v:=v) (by omega)]
     cbv
   ·have aT:v=cl.length:=by rw[←aC,←ag]at um;simp at um;omega
    refine aY ?_;refine ar rfl ?_;refine gK ?_;refine aX ?_;exact tr hr ⟨kN,yb,fun i h=>hk i (by omega) h⟩
 ·refine gK ?_;refine aX ?_;refine fa hr ?_;rintro⟨h',-⟩;exact h h'
end Go.b8
end
