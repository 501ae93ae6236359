import Derived.Test.YtfaccbkibjkfjaaGreatDoorT43
import Derived.Test.YtfaccbkibjkfjaaGreatDoorT41
import Derived.Test.YtfaccbkibjkfjaaGreatDoorT12
set_option linter.all false
set_option maxRecDepth 100000
set_option maxHeartbeats 1000000
section
open Go Go.Am Go.Proofs
attribute [local irreducible] Am.bl.holds bA fw bC dv
namespace Go.bW
variable {mx:Int}
open Classical
theorem xL {c csp v vsp r rsp f fsp t tsp:List (List PV)} {l1 l2 l3 l4 m1 m2 m3 m4:Int} {cl:List aM} {vl:List bq} (ff:c=cl.map aM.enc) (lU:v=vl.map bq.enc) (mj:cl.length<2^32) (rP:vl.length<2^32) (oc:∀x∈cl,x.b9.length<2^32) (rv:∀x∈vl,x.rows.length<2^32) {res:Bool} (hr:res=decide (fy cl vl)):
  pC mx 147 [.agg [.sl c csp,.sl v vsp,.int .i64 l1,.int .i64 l2,.int .i64 l3,.int .i64 l4,.sl r rsp,.sl f fsp,.sl t tsp,.int .i64 m1,.int .i64 m2,.int .i64 m3,.int .i64 m4]] (.bool res):=by
 have R6:c.length=cl.length:=by simp[ff]
 have KE:v.length=vl.length:=by simp[lU]
 obtain⟨V,hV⟩:∃V,V=v:=⟨v,rfl⟩;rw[←hV]at lU KE ⊢;refine pZ NZ ?_
 iterate 119 intro _
 intro b5 cQ _ aO aw ak aI aU aL aP aB aV aW bp bu ah aD;refine gK ?_;refine bX (by cbv) (lP rfl) (fun h=>?_) (fun h=>?_)<;>simp only[decide_eq_true_eq,decide_eq_false_iff_not]at h
 ·rw[←ah]at h;refine gK ?_;refine bl.af (fun h1=>?_) (fun h1=>?_)
  ·replace h1:=eT h1
   refine dp ?_;refine aN ?_;refine fa hr ?_;rintro⟨⟨-,-,h⟩,-⟩;omega
  ·replace h1:=eT h1
   have uD:1≤cl.length∧cl.length≤200∧vl.length≤40:=by unfold In at h;simp at h;omega
   refine dp ?_;refine bG [1,3] [none,some 1] (fun v σ_=>σ_.put (some 3) (.pv (.int .i64 (Int.ofNat v)))) (cl.length) (fun k=>(∀h:k<cl.length,gd cl[k]∧∀j,(hk:j<k)→rN cl[j] cl[k])) ?_;intro v hv hk;refine dC ?_;refine bl.af (fun hd=>?_) (fun hd=>?_)
   ·have aY:v<cl.length:=by rw[←aD,←ah]at hd;simp at hd;omega
    obtain⟨kD,bh⟩:∃x,cl[v]=x:=⟨_,rfl⟩
    have bx:aL (Int.ofNat v) c 12:=by rw[←aP,ff];exact aR (enc:=aM.enc) aY rfl
    obtain⟨⟨cZ,gM,eh,dM,dz,jd,je,fP,cP,jf,ny,nA,nB⟩,cK⟩:∃y,kD=y:=⟨_,rfl⟩;subst cK
    have a6:aI c (Int.ofNat v)=[.int .i64 cZ,.int .i64 gM,.bool eh,.int .i64 dM,.int .i64 dz,.int .i64 jd,.int .i64 je,.int .i64 fP,.sl (ints cP) jf,.int .i64 ny,.int .i64 nA,.int .i64 nB]:=by rw[←aU,ff,aQ (enc:=aM.enc) aY,bh];rfl
    obtain⟨wh,gh⟩:∃p,p=ints cP:=⟨_,rfl⟩;rw[←gh]at a6;obtain⟨n,hn⟩:∃n,n=decide (gd ⟨cZ,gM,eh,dM,dz,jd,je,fP,cP,jf,ny,nA,nB⟩):=⟨_,rfl⟩;rw[←bh]at hn;have rG:=hn;rw[bh]at rG;refine dp ?_;refine ae bx ?_;rw[a6];refine gK ?_;refine bX (by cbv) (Bq (x:=⟨cZ,gM,eh,dM,dz,jd,je,fP,cP,jf,ny,nA,nB⟩) gh rG (bh▸oc _ (List.getElem_mem aY))) (fun h=>?_) (fun h=>?_)
    ·have AJ:gd cl[v]:=by rw[h]at hn;simpa using hn
     refine gK ?_;obtain⟨i,rfl⟩:∃i,i=v:=⟨v,rfl⟩;refine bG [1,3,4] [none,some 1] (fun v σ_=>σ_.put (some 4) (.pv (.int .i64 (Int.ofNat v)))) (i) (fun k=>(∀hk:k<i,rN cl[k] cl[i])) ?_;intro v hv hk;refine dC ?_;refine bl.af (fun he=>?_) (fun he=>?_)
     ·have gu:v<i:=by rw[←aD]at he;simp at he;omega
      have sP:v<cl.length:=by omega
      obtain⟨C8,dq⟩:∃x,cl[v]=x:=⟨_,rfl⟩
      have dT:aL (Int.ofNat v) c 12:=by rw[←aP,ff];exact aR (enc:=aM.enc) sP rfl
      obtain⟨⟨C9,aak,KF,Oy,KG,aal,aam,Vw,Oz,aan,cx_b,cy_b,cz_b⟩,lk⟩:∃y,C8=y:=⟨_,rfl⟩;subst lk
      have cL:aI c (Int.ofNat v)=[.int .i64 C9,.int .i64 aak,.bool KF,.int .i64 Oy,.int .i64 KG,.int .i64 aal,.int .i64 aam,.int .i64 Vw,.sl (ints Oz) aan,.int .i64 cx_b,.int .i64 cy_b,.int .i64 cz_b]:=by rw[←aU,ff,aQ (enc:=aM.enc) sP,dq];rfl
      cases eh<;>cases KF
      all_goals
       refine dp ?_
       repeat' (first
        |(refine ae bx ?_;rw[a6];refine gK ?_)
        |(refine ae dT ?_;rw[cL];refine gK ?_)
        |(refine bl.af (fun hc=>?_) (fun hc=>?_)<;>(rw[←bu]at hc)<;>(try simp at hc)<;>refine rQ ?_))
      all_goals try(refine dS rfl (cO.ml rfl ?_);show eV _ _=_;refine zeT ?_;refine fa hr ?_;rintro⟨-,h2,-⟩;exact(h2 i aY).2 v gu (by rw[bh,dq];exact⟨by assumption,by assumption,rfl⟩))
      all_goals
       refine ai ⟨gu,fun _=>(by rw[bh,dq];unfold rN;rintro⟨h1,h2,h3⟩;dsimp only at h1 h2 h3;first|omega|(cases h3)),?_⟩;rw[wS ak aO (v:=v) (by omega)]
       cbv
     ·have gu:v=i:=by rw[←aD]at he;simp at he;omega
      subst gu;refine dp ?_;refine au rfl ?_;refine gK ?_;refine ai ⟨aY,fun _=>⟨AJ,fun j hj=>hk j hj hj⟩,?_⟩;rw[wS ak aO (v:=v) (by omega)]
      cbv
    ·refine gK ?_;refine dm ?_;refine fa hr ?_;rintro⟨-,h2,-⟩;rw[h]at hn;simp at hn;exact hn (h2 v aY).1
   ·have aY:v=cl.length:=by rw[←aD,←ah]at hd;simp at hd;omega
    have Da:∀i,(h:i<cl.length)→gd cl[i]∧∀k,(hk:k<i)→rN cl[k] cl[i]:=fun i h=>hk i (by omega) h
    refine dp ?_;refine au rfl ?_;refine gK ?_;refine bG [1,5] [none,some 1] (fun v σ_=>σ_.put (some 5) (.pv (.int .i64 (Int.ofNat v)))) (vl.length) (fun k=>(∀h:k<vl.length,jc vl[k]∧∀j,(hk:j<k)→vl[j].jH=vl[k].jH→∀r,r∈vl[k].rows→r∉vl[j].rows)) ?_;intro v hv hk;refine dC ?_;refine bl.af (fun ru=>?_) (fun ru=>?_)
    ·have aY:v<vl.length:=by rw[←aD,←ah]at ru;simp at ru;omega
     obtain⟨kD,bh⟩:∃x,vl[v]=x:=⟨_,rfl⟩
     have bx:aL (Int.ofNat v) V 2:=by rw[←aP,lU];exact aR (enc:=bq.enc) aY rfl
     obtain⟨⟨cZ,c8,pg⟩,cK⟩:∃y,kD=y:=⟨_,rfl⟩;subst cK
     have a6:aI V (Int.ofNat v)=[.int .i64 cZ,.sl (ints c8) pg]:=by rw[←aU,lU,aQ (enc:=bq.enc) aY,bh];rfl
     obtain⟨wh,gh⟩:∃p,p=ints c8:=⟨_,rfl⟩;rw[←gh]at a6
     have px:c8.length<2^32:=by have:=rv _ (List.getElem_mem aY);rw[bh]at this;exact this
     have zn:wh.length=c8.length:=by simp[gh,ints]
     refine dp ?_;refine ae bx ?_;rw[a6];refine gK ?_;refine bX (by cbv) (lP rfl) (fun h=>?_) (fun h=>?_)<;>simp only[decide_eq_true_eq,decide_eq_false_iff_not]at h
     ·have EN:=h;refine gK ?_;refine bl.af (fun h2=>?_) (fun h2=>?_)
      ·replace h2:=eT h2
       refine dp ?_;refine dm ?_;refine fa hr ?_;rintro⟨-,-,h3⟩;have:=(h3 v aY).1.2.1;rw[bh]at this;exact this (by simpa[gh,ints]using h2)
      ·replace h2:=eT h2
       have dW:c8≠[]:=by intro h;subst h;simp[ints]at gh;exact h2 gh
       refine dp ?_;obtain⟨i,rfl⟩:∃i,i=v:=⟨v,rfl⟩;refine bG [1,5,6,7] [none,some 1,some 2] (fun v σ_=>σ_.put (some 7) (.pv (.int .i64 (Int.ofNat v)))) (c8.length) (fun k=>(rO ⟨cZ,c8,pg⟩ k∧∀j,(h:j<i)→vl[j].jH=cZ→c8.getD k 0∉vl[j].rows)) ?_;intro v hv hk;refine dC ?_
       have bad:((jc ⟨cZ,c8,pg⟩∧∀j,(hk:j<i)→vl[j].jH=cZ→∀r,r∈c8→r∉vl[j].rows)→False)→¬fy cl vl:=fun hF hS=>by
        have:=hS.2.2 i aY;rw[bh]at this;exact hF this
       refine bl.af (fun hd3=>?_) (fun hd3=>?_)
       ·have s6:v<c8.length:=by rw[←aD,←ah]at hd3;simp at hd3;omega
        obtain⟨q,hq⟩:∃q,q=c8.getD v 0:=⟨_,rfl⟩
        have eQ:aL (Int.ofNat v) wh 1:=by rw[←aP,gh];exact jW (by simp) (by simp;omega)
        have bM:aI wh (Int.ofNat v)=[.int .i64 q]:=by rw[←aU,gh,jb (by simp) (by simp;omega),hq];rfl
        refine dp ?_;refine ae eQ ?_;rw[bM];refine gK ?_;refine im (by cbv) (lP rfl) (fun h=>?_) (fun h=>?_)<;>simp only[decide_eq_true_eq,decide_eq_false_iff_not]at h
        ·refine gK ?_
         repeat' (first|refine rQ ?_|(refine vy (fun hc=>?_) (fun hc=>?_)<;>(try simp at hc)<;>(try(exfalso;omega))))
         ·obtain⟨w,hw⟩:∃w,v=w+1:=⟨v-1,by omega⟩
          have dD:aw .i64 (b5 (Int.ofNat v) 1)=Int.ofNat w:=by rw[←ak,←cQ];simp only[ct,kP];rw[dh]<;>simp<;>omega
          rw[dD];obtain⟨t,ht⟩:∃t,t=c8.getD w 0:=⟨_,rfl⟩
          have jX:aL (Int.ofNat w) wh 1:=by rw[←aP,gh];exact jW (by simp) (by simp;omega)
          have fF:aI wh (Int.ofNat w)=[.int .i64 t]:=by rw[←aU,gh,jb (by simp) (by simp;omega),ht];rfl
          refine ae jX ?_;rw[fF];refine gK ?_;refine ae eQ ?_;rw[bM];refine gK ?_
          repeat' (first|refine rQ ?_|(refine vy (fun hc=>?_) (fun hc=>?_)<;>(try simp at hc)<;>(try(exfalso;omega))))
          ·refine dS rfl (cO.ml rfl ?_);show eV _ _=_;refine zeT ?_;refine fa hr (bad ?_);rintro⟨⟨-,-,h4⟩,-⟩;have:=(h4 v s6).2.2;dsimp only at this;simp only[hw,Nat.add_sub_cancel]at this;simp only[hw]at hq;omega
          ·have EO:rO ⟨cZ,c8,pg⟩ v:=⟨by rw[←hq];exact h.1,by rw[←hq];exact h.2,Or.inr (by dsimp only;simp only[hw,Nat.add_sub_cancel];simp only[hw]at hq;omega)⟩;obtain⟨j,rfl⟩:∃j,j=v:=⟨v,rfl⟩;refine bG [1,5,6,7,8] [none,some 1,some 2] (fun v σ_=>σ_.put (some 8) (.pv (.int .i64 (Int.ofNat v)))) (i) (fun k=>(∀hk:k<i,vl[k].jH=cZ→c8.getD j 0∉vl[k].rows)) ?_;intro v hv hk;refine dC ?_;refine bl.af (fun he=>?_) (fun he=>?_)
           ·have gu:v<i:=by rw[←aD]at he;simp at he;omega
            have sP:v<vl.length:=by omega
            obtain⟨C8,dq⟩:∃x,vl[v]=x:=⟨_,rfl⟩
            have dT:aL (Int.ofNat v) V 2:=by rw[←aP,lU];exact aR (enc:=bq.enc) sP rfl
            obtain⟨⟨C9,sG,KH⟩,lk⟩:∃y,C8=y:=⟨_,rfl⟩;subst lk
            have cL:aI V (Int.ofNat v)=[.int .i64 C9,.sl (ints sG) KH]:=by rw[←aU,lU,aQ (enc:=bq.enc) sP,dq];rfl
            obtain⟨p_b,KI⟩:∃p,p=ints sG:=⟨_,rfl⟩;rw[←KI]at cL
            have hrb:sG.length<2^32:=by have:=rv _ (List.getElem_mem sP);rw[dq]at this;exact this
            refine dp ?_;refine ae dT ?_;rw[cL];refine gK ?_
            repeat' (first|refine rQ ?_|(refine vy (fun hc=>?_) (fun hc=>?_)<;>(try simp at hc)<;>(try(exfalso;omega))))
            ·refine ae dT ?_;rw[cL];refine gK ?_;refine ae eQ ?_;rw[bM];refine gK ?_;refine im (by cbv) (tz KI rfl hrb) (fun h=>?_) (fun h=>?_)<;>simp only[decide_eq_true_eq,decide_eq_false_iff_not]at h
             ·refine gK ?_;refine dS rfl (cO.ml rfl (cO.ml rfl ?_));show eV _ _=_;refine zeT ?_;refine fa hr (bad ?_);rintro⟨-,h4⟩;have:=h4 v gu (by rw[dq];assumption) q (by rw[hq,getD_eq s6];exact List.getElem_mem s6);rw[dq]at this;exact this h
             ·refine gK ?_;refine ai ⟨gu,fun _ _=>by rw[dq,←hq];exact h,?_⟩;rw[wS ak aO (v:=v) (by omega)]
              cbv
            ·refine ai ⟨gu,fun _ hb=>absurd hb (by rw[dq];assumption),?_⟩;rw[wS ak aO (v:=v) (by omega)]
             cbv
           ·have gu:v=i:=by rw[←aD]at he;simp at he;omega
            subst gu;refine dp ?_;refine au rfl ?_;refine gK ?_;refine ai ⟨s6,⟨EO,fun j hj=>hk j hj hj⟩,?_⟩;rw[wS ak aO (v:=j) (by omega)]
            cbv
         ·have EO:rO ⟨cZ,c8,pg⟩ v:=⟨by rw[←hq];exact h.1,by rw[←hq];exact h.2,Or.inl (by omega)⟩;obtain⟨j,rfl⟩:∃j,j=v:=⟨v,rfl⟩;refine bG [1,5,6,7,8] [none,some 1,some 2] (fun v σ_=>σ_.put (some 8) (.pv (.int .i64 (Int.ofNat v)))) (i) (fun k=>(∀hk:k<i,vl[k].jH=cZ→c8.getD j 0∉vl[k].rows)) ?_;intro v hv hk;refine dC ?_;refine bl.af (fun he=>?_) (fun he=>?_)
          ·have gu:v<i:=by rw[←aD]at he;simp at he;omega
           have sP:v<vl.length:=by omega
           obtain⟨C8,dq⟩:∃x,vl[v]=x:=⟨_,rfl⟩
           have dT:aL (Int.ofNat v) V 2:=by rw[←aP,lU];exact aR (enc:=bq.enc) sP rfl
           obtain⟨⟨C9,sG,KH⟩,lk⟩:∃y,C8=y:=⟨_,rfl⟩;subst lk
           have cL:aI V (Int.ofNat v)=[.int .i64 C9,.sl (ints sG) KH]:=by rw[←aU,lU,aQ (enc:=bq.enc) sP,dq];rfl
           obtain⟨p_b,KI⟩:∃p,p=ints sG:=⟨_,rfl⟩;rw[←KI]at cL
           have hrb:sG.length<2^32:=by have:=rv _ (List.getElem_mem sP);rw[dq]at this;exact this
           refine dp ?_;refine ae dT ?_;rw[cL];refine gK ?_
           repeat' (first|refine rQ ?_|(refine vy (fun hc=>?_) (fun hc=>?_)<;>(try simp at hc)<;>(try(exfalso;omega))))
           ·refine ae dT ?_;rw[cL];refine gK ?_;refine ae eQ ?_;rw[bM];refine gK ?_;refine im (by cbv) (tz KI rfl hrb) (fun h=>?_) (fun h=>?_)<;>simp only[decide_eq_true_eq,decide_eq_false_iff_not]at h
            ·refine gK ?_;refine dS rfl (cO.ml rfl (cO.ml rfl ?_));show eV _ _=_;refine zeT ?_;refine fa hr (bad ?_);rintro⟨-,h4⟩;have:=h4 v gu (by rw[dq];assumption) q (by rw[hq,getD_eq s6];exact List.getElem_mem s6);rw[dq]at this;exact this h
            ·refine gK ?_;refine ai ⟨gu,fun _ _=>by rw[dq,←hq];exact h,?_⟩;rw[wS ak aO (v:=v) (by omega)]
             cbv
           ·refine ai ⟨gu,fun _ hb=>absurd hb (by rw[dq];assumption),?_⟩;rw[wS ak aO (v:=v) (by omega)]
            cbv
          ·have gu:v=i:=by rw[←aD]at he;simp at he;omega
           subst gu;refine dp ?_;refine au rfl ?_;refine gK ?_;refine ai ⟨s6,⟨EO,fun j hj=>hk j hj hj⟩,?_⟩;rw[wS ak aO (v:=j) (by omega)]
           cbv
        ·refine gK ?_
         repeat' (first|refine rQ ?_|refine bl.af (fun hc=>?_) (fun hc=>?_))
         refine dS rfl (cO.ml rfl ?_);show eV _ _=_;refine zeT ?_;refine fa hr (bad ?_);rintro⟨⟨-,-,h4⟩,-⟩;have:=(h4 v s6);exact h ⟨by rw[hq];exact this.1,by rw[hq];exact this.2.1⟩
       ·have s6:v=c8.length:=by rw[←aD,←ah]at hd3;simp at hd3;omega
        refine dp ?_;refine au rfl ?_;refine gK ?_
        refine ai ⟨aY,fun _=>by
         rw[bh];refine⟨⟨EN,dW,fun j hj=>(hk j (by dsimp only at hj;omega)).1⟩,fun j hj hb r hrm=>?_⟩;obtain⟨k,Uv,Ni⟩:=List.getElem_of_mem hrm;dsimp only at Uv Ni hb;have:=(hk k (by omega)).2 j hj hb;rw[getD_eq Uv,Ni]at this
         exact this,?_⟩
        rw[wS ak aO (v:=i) (by omega)]
        cbv
     ·refine gK ?_
      repeat' (first|refine rQ ?_|refine bl.af (fun hc=>?_) (fun hc=>?_))
      refine dm ?_;refine fa hr ?_;rintro⟨-,-,h3⟩;have:=(h3 v aY).1.1;rw[bh]at this;exact h this
    ·have aY:v=vl.length:=by rw[←aD,←ah]at ru;simp at ru;omega
     refine dp ?_;refine au rfl ?_;refine gK ?_;refine aN ?_;exact tr hr ⟨uD,Da,fun i h=>hk i (by omega) h⟩
 ·rw[←ah]at h;refine gK ?_;refine aN ?_;refine fa hr ?_;rintro⟨⟨h1,h2,-⟩,-⟩;unfold In at h;simp at h;omega
end Go.bW
end
section
open Go Go.Am Go.Proofs
attribute [local irreducible] Am.bl.holds bA fw bC dv
namespace Go.bW
variable {mx:Int}
open Classical
def Je (n:Int):Prop:= -9223372036854775808≤n∧n<9223372036854775808
def mw (b:cE):Prop:=(0≤b.size∧b.size<256)∧(0≤b.cls∧b.cls<256)∧Je b.id∧Je b.ca∧Je b.load∧Je b.discharge
def kF (x:aT):Prop:=Je x.box∧Je x.slot.column∧Je x.slot.gG∧(0≤x.slot.half∧x.slot.half<256)
theorem ES {c csp vv vsp r rsp f fsp t tsp:List (List PV)} {l1 l2 l3 l4 m1 m2 m3 m4:Int} {rows sp bF bsp:List (List PV)} {cl:List aM} {l:List aT} {boxes:List cE} {n:Nat} {res:Bool} (ff:c=cl.map aM.enc) (cq:rows=l.map aT.enc) (gN:bF=boxes.map cE.enc) (gE:cl.length<2^32) (hl:l.length<2^32) (ph:boxes.length<2^32) (hn:n<cl.length) (h0:0≤cl[n].di)
  (hr:res=decide (¬Fits cl[n] boxes l (Int.ofNat n))):pC mx 221 [.agg [.sl c csp,.sl vv vsp,.int .i64 l1,.int .i64 l2,.int .i64 l3,.int .i64 l4,.sl r rsp,.sl f fsp,.sl t tsp,.int .i64 m1,.int .i64 m2,.int .i64 m3,.int .i64 m4],.sl bF bsp,.sl rows sp,.int .i64 (Int.ofNat n)] (.bool res):=by
 have hlen:c.length=cl.length:=by simp[ff]
 refine pZ Oa ?_
 iterate 125 intro _
 intro aI aU aL aP aB aV aW bp bu ah aD;obtain⟨kD,bh⟩:∃x,cl[n]=x:=⟨_,rfl⟩
 have bx:aL (Int.ofNat n) c 12:=by rw[←aP,ff];exact aR (enc:=aM.enc) hn rfl
 obtain⟨⟨cZ,gM,eh,dM,dz,jd,je,fP,cP,jf,ny,nA,nB⟩,cK⟩:∃y,kD=y:=⟨_,rfl⟩;subst cK
 have a6:aI c (Int.ofNat n)=[.int .i64 cZ,.int .i64 gM,.bool eh,.int .i64 dM,.int .i64 dz,.int .i64 jd,.int .i64 je,.int .i64 fP,.sl (ints cP) jf,.int .i64 ny,.int .i64 nA,.int .i64 nB]:=by rw[←aU,ff,aQ (enc:=aM.enc) hn,bh];rfl
 obtain⟨wh,gh⟩:∃p,p=ints cP:=⟨_,rfl⟩;rw[←gh]at a6;rw[bh]at h0 hr;unfold Fits at hr;dsimp only at h0 hr;refine gK ?_;refine ae bx ?_;rw[a6];refine gK ?_;refine bl.af (fun h1=>?_) (fun h1=>?_)
 ·replace h1:=eT h1
  refine dp ?_;refine aN ?_;exact fa hr (by omega)
 ·replace h1:=eT h1
  refine dp ?_;refine zS (by cbv) (tA cq gN hl ph rfl) (fun _=>rfl) ?_;intro x hx;refine gK ?_;refine ae bx ?_;rw[a6];refine gK ?_;refine bl.af (fun h2=>?_) (fun h2=>?_)
  ·replace h2:=eT h2
   refine dp ?_;refine aN ?_;exact tr hr (by omega)
  ·replace h2:=eT h2
   refine dp ?_;refine zS (by cbv) (tA cq gN hl ph rfl) (fun _=>rfl) ?_;intro y hy;refine gK ?_;refine ae bx ?_;rw[a6];refine gK ?_
   repeat' (first|refine rQ ?_|(refine vy (fun hc=>?_) (fun hc=>?_)<;>(try simp at hc)<;>(try(exfalso;omega))))
   all_goals(refine aN ?_)
   ·exact tr hr (by omega)
   ·exact fa hr (by omega)
theorem ET {c csp vv vsp r rsp f fsp t tsp:List (List PV)} {l1 l2 l3 l4 m1 m2 m3 m4:Int} {rows sp bF bsp:List (List PV)} {cl:List aM} {vl:List bq} {l:List aT} {boxes:List cE} {res:Bool} (ff:c=cl.map aM.enc) (lU:vv=vl.map bq.enc) (mj:cl.length<2^32) (rP:vl.length<2^32) (oc:∀x∈cl,x.b9.length<2^32) (rv:∀x∈vl,x.rows.length<2^32)
  (cq:rows=l.map aT.enc) (gN:bF=boxes.map cE.enc) (hl:l.length<2^32) (ph:boxes.length<2^32) (oC:∀b∈boxes,mw b) (bL:∀x∈l,kF x) (hr:res=decide (lV cl vl boxes l)):
  pC mx 116 [.agg [.sl c csp,.sl vv vsp,.int .i64 l1,.int .i64 l2,.int .i64 l3,.int .i64 l4,.sl r rsp,.sl f fsp,.sl t tsp,.int .i64 m1,.int .i64 m2,.int .i64 m3,.int .i64 m4],.sl bF bsp,.sl rows sp] (.bool res):=by
 have hlen:c.length=cl.length:=by simp[ff]
 have zX:rows.length=l.length:=by simp[cq]
 obtain⟨S,hS⟩:∃S,S=(l.map (·.slot)).map Slot.enc:=⟨_,rfl⟩;refine pZ Ob ?_
 iterate 122 intro _
 intro aO aw ak aI aU aL aP aB aV aW bp bu ah aD;refine gK ?_;refine bX (by cbv) (xL ff lU mj rP oc rv rfl) (fun h=>?_) (fun h=>?_)<;>simp only[decide_eq_true_eq,decide_eq_false_iff_not]at h
 ·have pj:=h;refine gK ?_;refine bG [1,2,3,7] (nn [3,3]) (fun v σ_=>σ_.put (some 7) (.pv (.int .i64 (Int.ofNat v)))) (l.length) (fun k=>sE cl boxes l k) ?_;intro v hv hk;refine dC ?_;refine bl.af (fun hd=>?_) (fun hd=>?_)
  ·have aY:v<l.length:=by rw[←aD,←ah]at hd;simp at hd;omega
   have bad:¬sE cl boxes l v→¬lV cl vl boxes l:=fun h h'=>h (h'.2.1 v aY)
   have Ma:=bL _ (List.getElem_mem aY);obtain⟨kD,bh⟩:∃x,l[v]=x:=⟨_,rfl⟩
   have bx:aL (Int.ofNat v) rows 4:=by rw[←aP,cq];exact aR (enc:=aT.enc) aY rfl
   obtain⟨⟨fH,⟨eB,dX,cG⟩⟩,cK⟩:∃y,kD=y:=⟨_,rfl⟩;subst cK
   have a6:aI rows (Int.ofNat v)=[.int .i64 fH,.int .i64 eB,.int .i64 dX,.int .u8 cG]:=by rw[←aU,cq,aQ (enc:=aT.enc) aY,bh];rfl
   rw[bh]at Ma;refine dp ?_;refine ae bx ?_;rw[a6];refine gK ?_
   cases hf:kl boxes fH with
   |none=>
    refine an (by cbv) (oQ (id:=fH) (ok:=false) (cs:=[.int .i64 0,.str [],.int .u8 0,.bool false,.int .i64 0,.int .i64 0,.int .i64 0,.int .u8 0,.bool false]) gN ph (by simp only[dN,hf];rfl) (by simp only[dN,hf])) (fun h=>by first|rfl|cases h) ?_;refine gK ?_;refine dm ?_;refine fa hr (bad ?_);intro h;obtain⟨⟨b,hb,-⟩,-⟩:=h aY;rw[bh]at hb;dsimp only at hb;rw[hf]at hb
    cases hb
   |some b=>
    have hbm:mw b:=oC b (by unfold kl at hf;exact List.mem_of_find?_eq_some hf);obtain⟨OD,Bs,bsize,rR,oR,tB,Bt,Bu,lQ⟩:=b;refine an (by cbv) (oQ (id:=fH) (ok:=true) (cs:=[.int .i64 OD,.str Bs,.int .u8 bsize,.bool rR,.int .i64 oR,.int .i64 tB,.int .i64 Bt,.int .u8 Bu,.bool lQ]) gN ph (by simp only[dN,hf];rfl) (by simp only[dN,hf])) (fun h=>by first|rfl|cases h) ?_
    have hw:aw .i64 bsize=bsize:=by rw[←ak];simp only[ct];rw[dh]<;>(have:=hbm.1;dsimp only at this;omega)
    refine gK ?_;refine ae bx ?_;rw[a6];refine gK ?_;rw[hw];refine im (by cbv) (kE (x:=⟨eB,dX,cG⟩) ff mj rfl) (fun h=>?_) (fun h=>?_)<;>simp only[decide_eq_true_eq,decide_eq_false_iff_not]at h
    ·have hsr:=h;refine gK ?_;refine ae bx ?_;rw[a6];refine gK ?_;refine ao (by cbv) (Dc cq hS hl) (fun h=>by first|rfl|cases h) ?_;refine gK ?_;refine im (by cbv) (ER (x:=⟨eB,dX,cG⟩) hS (by simpa using hl) (by have:=Ma.2.2.1.2;dsimp only at this ⊢;omega) rfl) (fun h=>?_) (fun h=>?_)<;>simp only[decide_eq_true_eq,decide_eq_false_iff_not]at h
     ·have hhe:=h;refine gK ?_;obtain⟨i,rfl⟩:∃i,i=v:=⟨v,rfl⟩;refine bG [1,2,3,7,10] (nn [3,3]) (fun v σ_=>σ_.put (some 10) (.pv (.int .i64 (Int.ofNat v)))) (i) (fun k=>(∀hk:k<i,l[k].box<l[i].box∧¬Bo l[k].slot l[i].slot)) ?_;intro v hv hk;refine dC ?_;refine bl.af (fun he=>?_) (fun he=>?_)
      ·have gu:v<i:=by rw[←aD]at he;simp at he;omega
       have sP:v<l.length:=by omega
       obtain⟨C8,dq⟩:∃x,l[v]=x:=⟨_,rfl⟩
       have dT:aL (Int.ofNat v) rows 4:=by rw[←aP,cq];exact aR (enc:=aT.enc) sP rfl
       obtain⟨⟨tC,⟨nf,jY,jZ⟩⟩,lk⟩:∃y,C8=y:=⟨_,rfl⟩;subst lk
       have cL:aI rows (Int.ofNat v)=[.int .i64 tC,.int .i64 nf,.int .i64 jY,.int .u8 jZ]:=by rw[←aU,cq,aQ (enc:=aT.enc) sP,dq];rfl
       refine dp ?_;refine ae dT ?_;rw[cL];refine gK ?_;refine ae bx ?_;rw[a6];refine gK ?_
       repeat' (first|refine rQ ?_|(refine vy (fun hc=>?_) (fun hc=>?_)<;>(try simp at hc)<;>(try(exfalso;omega))))
       ·refine dS rfl (cO.ml rfl ?_);show eV _ _=_;refine zeT ?_;refine fa hr (bad ?_);intro h';have:=((h' aY).2.2 v gu).1;rw[bh,dq]at this;dsimp only at this;omega
       ·refine ae dT ?_;rw[cL];refine gK ?_;refine ae bx ?_;rw[a6];refine gK ?_;refine im (by cbv) (EP (a:=⟨nf,jY,jZ⟩) (b:=⟨eB,dX,cG⟩) rfl) (fun h=>?_) (fun h=>?_)<;>simp only[decide_eq_true_eq,decide_eq_false_iff_not]at h
        ·refine gK ?_;refine dS rfl (cO.ml rfl ?_);show eV _ _=_;refine zeT ?_;refine fa hr (bad ?_);intro h';have:=((h' aY).2.2 v gu).2;rw[bh,dq]at this;exact this h
        ·refine gK ?_;refine ai ⟨gu,fun _=>by rw[bh,dq];exact⟨by assumption,h⟩,?_⟩;rw[wS ak aO (v:=v) (by omega)]
         cbv
      ·have gu:v=i:=by rw[←aD]at he;simp at he;omega
       subst gu;refine dp ?_;refine au rfl ?_;refine gK ?_;refine ai ⟨aY,fun _=>⟨⟨_,by rw[bh];exact hf,by rw[bh];exact hsr⟩,by rw[bh];exact hhe,fun k eZ=>hk k eZ eZ⟩,?_⟩;rw[wS ak aO (v:=v) (by omega)]
       cbv
     ·refine gK ?_;refine dm ?_;refine fa hr (bad ?_);intro h';have:=(h' aY).2.1;rw[bh]at this;exact h this
    ·refine gK ?_;refine dm ?_;refine fa hr (bad ?_);intro h';obtain⟨⟨b,hb,sd⟩,-⟩:=h' aY;rw[bh]at hb sd;dsimp only at hb;rw[hf]at hb
     cases hb
     exact h sd
  ·have aY:v=l.length:=by rw[←aD,←ah]at hd;simp at hd;omega
   have Yj:∀i,i<l.length→sE cl boxes l i:=fun i h=>hk i (by omega)
   refine dp ?_;refine au rfl ?_;refine gK ?_;refine bG [1,2,3,11] (nn [3,3]) (fun v σ_=>σ_.put (some 11) (.pv (.int .i64 (Int.ofNat v)))) (cl.length) (fun k=>(∀h:k<cl.length,Fits cl[k] boxes l (Int.ofNat k))) ?_;intro v hv hk;refine dC ?_;refine bl.af (fun ru=>?_) (fun ru=>?_)
   ·have aY:v<cl.length:=by rw[←aD,←ah]at ru;simp at ru;omega
    refine dp ?_;refine bX (by cbv) (ES ff cq gN mj hl ph aY ((pj.2.1 v aY).1.2.2.2.2.1.1) rfl) (fun h=>?_) (fun h=>?_)<;>simp only[decide_eq_true_eq,decide_eq_false_iff_not,Classical.not_not]at h
    ·refine gK ?_;refine dm ?_;refine fa hr ?_;rintro⟨-,-,h'⟩;exact h (h' v aY)
    ·refine gK ?_;refine ai ⟨aY,fun _=>h,?_⟩;rw[wS ak aO (v:=v) (by omega)]
     cbv
   ·have aY:v=cl.length:=by rw[←aD,←ah]at ru;simp at ru;omega
    refine dp ?_;refine au rfl ?_;refine gK ?_;refine aN ?_;exact tr hr ⟨pj,Yj,fun i h=>hk i (by omega) h⟩
 ·refine gK ?_;refine aN ?_;refine fa hr ?_;rintro⟨h',-⟩;exact h h'
end Go.bW
end
