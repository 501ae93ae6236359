import Derived.Test.YtfaccbkibjkfjaaGreatDoorT13
import Derived.Test.YtfaccbkibjkfjaaGreatDoorT30
import Derived.Test.YtfaccbkibjkfjaaGreatDoorT45
import Derived.Test.YtfaccbkibjkfjaaGreatDoorT21
import Derived.Test.YtfaccbkibjkfjaaGreatDoorT41
set_option linter.all false
set_option maxRecDepth 100000
set_option maxHeartbeats 1000000
section
open Go Go.Am Go.Proofs
namespace Go.bW
variable {mx:Int}
open Classical
def opens:cT→Bool
 |.vJ (_::_) none=>true
 |.vJ _ (some _)=>true
 |.seq a _=>opens a
 |_=>false
theorem DC {C:FuncId→List PV→PV→Prop} {A:Ar} {I:IC}:∀{c:cT} {st s0:St} {Q:Ex→St→Prop},opens c=true→Fg st s0→fw C A I c s0 Q→fw C A I c st Q
 |.vJ (x::xs) none,st,s0,Q,_,hf,h=>by
  simp only[fw,bC]at h ⊢;obtain⟨s1,h1,h2⟩:=h;exact⟨s1,Fg.trans hf h1,h2⟩
 |.vJ l (some lt),st,s0,Q,_,hf,h=>by
  simp only[fw]at h ⊢;obtain⟨s1,h1,h2⟩:=h;exact⟨s1,Fg.trans hf h1,h2⟩
 |.seq a b,st,s0,Q,ho,hf,h=>by
  simp only[fw]at h ⊢;exact DC (c:=a) ho hf h
 |.vJ [] none,_,_,_,ho,_,_=>by cases ho
 |.skip,_,_,_,ho,_,_=>by cases ho
 |.cond ..,_,_,_,ho,_,_=>by cases ho
 |.block ..,_,_,_,ho,_,_=>by cases ho
 |.loop _,_,_,_,ho,_,_=>by cases ho
 |.exit _,_,_,_,ho,_,_=>by cases ho
 |.ret,_,_,_,ho,_,_=>by cases ho
theorem yp {P:Program} {G:Nat→Option (List PV)} {A:Ar} {l:List AI} {c1 c2:cT} {is:List Am.Item} {Q:Ex→St→Prop} {s:St} (f:St→St) (ho:opens c2=true)
  (h1:bA (ar P G) A (bB P G) [.ops l,.code c1] (fun e s'=>e=.normal∧Fg s' (f s)) .normal s) (h2:bA (ar P G) A (bB P G) (.code c2::is) Q .normal (f s)):
  bA (ar P G) A (bB P G) (.ops l::.code c1::.code c2::is) Q .normal s:=by
 simp only[bA]at h1 h2 ⊢;refine gv (rH P G) l (fun s1 h=>?_) h1;refine e9 (rH P G) c1 (fun e s2 h=>?_) h;obtain⟨rfl,h⟩:=h;simp only[bA];exact DC ho h h2
theorem lR {C:FuncId→List PV→PV→Prop} {A:Ar} {I:IC} {s s0:St} (h:Fg s s0):(bl.fin .normal s).holds C A I (fun e s'=>e=.normal∧Fg s' s0):=⟨rfl,h⟩
attribute [local irreducible] Am.bl.holds bA fw bC dv
def abE:yC
 |157=>some (Lj,[],20)
 |258=>some (K6,[.tmp 4],17)
 |260=>some (K7,[.tmp 2],8)
 |80=>some (Wc,[.tmp 2],14)
 |_=>none
theorem PA:∀f ac cN nt,abE f=some (ac,cN,nt)→∃accs,gW Tryz.prog (GG mx) accs f=some (ac,cN,nt):=by
 intro f ac cN nt h;unfold abE at h;split at h
 ·cases h;exact⟨_,Hk⟩
 ·cases h;exact⟨_,Hf⟩
 ·cases h;exact⟨_,Hg⟩
 ·cases h;exact⟨_,Lk⟩
 ·cases h
def objB:List (List PV)→Am.Obj
 |[]=>.cells [.iJ 140,.full []]
 |_::_=>.cells [.ptr 0 0,.dB 1 0]
def objC:List (List PV)→Option Am.Obj
 |[]=>none
 |r::rs=>some (.cH 5 (r::rs) 0)
def Wp (o:Am.Obj) (c:Option Am.Obj) (s:St):St:=⟨s.cY,s.held,s.base,[some o,c]⟩
theorem oi (s:List UInt8):(aG.bytes s).length=s.length:=List.length_map _
theorem kJ (a b:List UInt8):aG.bytes (a++b)=aG.bytes a++aG.bytes b:=List.map_append
theorem oj (s:List UInt8):aS 1 (aG.bytes s):=fun r hr=>by
 obtain⟨x,-,rfl⟩:=List.mem_map.1 hr;rfl
theorem Lv {s:List UInt8} {r:Bool} (hl:s.length<2^32) (hr:r=decide (0<s.length∧at_ s 0=32)):pC mx 257 [.str s,.str [32]] (.bool r):=by
 have h302:pC mx 302 [.str s,.str [32]] (.bool r):=by
  refine pZ Hd ?_
  iterate 12 intro _
  intro uA
  iterate 77 intro _
  intro og lD oU
  iterate 36 intro _
  intro aB aV aW bp bu ah aD;refine gK ?_
  have h32:uA [32]=1:=by rw[←aB];rfl
  rw[h32];refine bl.af (fun h1=>?_) (fun h1=>?_)
  ·rw[←bp,←aB]at h1;simp only[J9,CU,decide_eq_true_eq]at h1;refine dp ?_;rw[h32];refine ae (by rw[←og];simp;omega) ?_
   obtain⟨x,xs,rfl⟩:∃x xs,s=x::xs:=by cases s with|nil=>simp at h1|cons x xs=>exact⟨x,xs,rfl⟩
   rw[show lD (x::xs) 0 1=[x] by rw[←oU];rfl];have nV:at_ (x::xs) 0=(x.toNat:Int):=rfl;refine gK ?_;refine bl.af (fun h2=>?_) (fun h2=>?_)
   ·rw[←aV]at h2;simp at h2;refine dp ?_;refine aN ?_;refine tr hr ⟨by simp,?_⟩;rw[nV,h2];rfl
   ·rw[←aV]at h2;simp at h2;refine dp ?_;refine aN ?_;refine fa hr (fun h=>h2 ?_);have:=h.2;rw[nV]at this;exact UInt8.toNat_inj.1 (by rw[show(32:UInt8).toNat=32 from rfl];omega)
  ·rw[←bp,←aB]at h1;simp only[J9,CU,decide_eq_false_iff_not]at h1;refine dp ?_;refine aN ?_;exact fa hr (fun h=>by omega)
 refine pZ He ?_
 iterate 129 intro _
 intro aB aV aW bp bu ah aD;refine gK ?_;refine an (by cbv) h302 (fun h=>by first|rfl|cases h) ?_;refine gK ?_;refine aN ?_;rfl
def Dry (x:pE):Prop:=∀e es sp,x=(e::es,sp)→∀c cs,e.1=c::cs→at_ c 0≠32
theorem DD {rows sp:List (List PV)} {ls:List pE} {t:List UInt8} {e:Int} (cq:rows=ls.map mQ) (hl:ls.length<2^32) (hle:∀x∈ls,x.1.length<2^32∧∀y∈x.1,y.1.length<2^32∧∀c∈y.1,c.length<2^32) (hdry:∀x∈ls,Dry x) (dW:0<ls.length) (ht:Dm (ls.map pE.val)=(t,e)):
  pC mx 169 [.sl rows sp] (.ep [.str t,.int .i64 e]):=by
 have hlen:rows.length=ls.length:=by simp[cq]
 obtain⟨L,O7⟩:∃L,L=ls.map pE.val:=⟨_,rfl⟩
 have hLl:L.length=ls.length:=by simp[O7]
 rw[←O7]at ht;unfold Dm at ht;refine pT PA BF ?_
 iterate 17 intro _
 intro A5 _ _ _ _ A6
 iterate 74 intro _
 intro eg jt ej _ _ ga _ _ _ _ _ _ gy fE gA _ _ _ _ bO bs bE _ _ _ aO _ ak aI aU aL aP aB aV aW bp bu ah aD hT;refine gT hT ?_;refine bl.af (fun h1=>?_) (fun h1=>?_)
 ·replace h1:=eT h1
  rw[if_pos (by omega)]at ht
  cases ht
  refine dp ?_;refine aN ?_;rfl
 ·replace h1:=eT h1
  rw[if_neg (by omega)]at ht;refine dp ?_;refine qf (fun v σ_=>(σ_.tidy [0,17,18,19] []).put (some 19) (.pv (.int .i64 (Int.ofNat v)))) (ls.length) (fun k=>(∀h:k<L.length,cj L[k])) (Fg.b8 [0,17,18,19] [] rfl (by first|(cbv;done)|(simp;cbv;done)|(simp;rfl))) ?_;intro v hv hk;refine Ka (U:=false) hT 10000 (by cbv) ?_;refine bl.af (fun hd=>?_) (fun hd=>?_)
  ·have aY:v<ls.length:=by rw[←aD,←ah]at hd;simp at hd;omega
   have q0:=hle _ (List.getElem_mem aY)
   have D2:L[v]'(by omega)=(ls[v]).1.map (·.1):=by simp[O7,pE.val]
   obtain⟨⟨lp,Dn⟩,bh⟩:∃x,ls[v]=x:=⟨_,rfl⟩;obtain⟨oq,gm⟩:∃q,q=lp.map hU:=⟨_,rfl⟩
   have bx:aL (Int.ofNat v) rows 1:=by rw[←aP,cq];exact aR (enc:=mQ) aY rfl
   have a6:aI rows (Int.ofNat v)=[.sl oq Dn]:=by rw[←aU,cq,aQ (enc:=mQ) aY,bh,gm];rfl
   rw[bh]at q0 D2;refine dp ?_;refine ae bx ?_;rw[a6];refine gT hT ?_;refine bX (by cbv) (vF gm q0.1 (fun y hy=>(q0.2 y hy).1) rfl) (fun h=>?_) (fun h=>?_)<;>simp only[decide_eq_true_eq,decide_eq_false_iff_not]at h
   ·refine gT hT ?_;refine ai ⟨aY,fun _=>by rw[D2];exact h,?_⟩;rw[wS ak aO (v:=v) (by omega)];exact Fg.b8 [0,17,18,19] [] rfl (by cbv)
   ·rw[if_pos ⟨v,by omega,by rw[D2];exact h⟩]at ht
    cases ht
    refine gT hT ?_;refine dm ?_;rfl
  ·have aY:v=ls.length:=by rw[←aD,←ah]at hd;simp at hd;omega
   have bP:∀k,(h:k<L.length)→cj L[k]:=fun k h=>hk k (by omega) h
   rw[if_neg (by rintro⟨i,h,h2⟩;exact h2 (bP i h))]at ht;refine dp ?_;refine au rfl ?_;refine gT hT ?_;obtain⟨OB,hOB⟩:∃o,o=objB:=⟨_,rfl⟩;obtain⟨OC,hOC⟩:∃o,o=objC:=⟨_,rfl⟩
   have Hp:OB []=.cells [.iJ 140,.full []]:=by rw[hOB];rfl
   have Hq:∀r rs,OB (r::rs)=.cells [.ptr 0 0,.dB 1 0]:=fun r rs=>by rw[hOB];rfl
   have Lw:∀Z,Z≠[]→OB Z=.cells [.ptr 0 0,.dB 1 0]:=fun Z h=>by cases Z with|nil=>exact absurd rfl h|cons r rs=>exact Hq r rs
   have dQ:∀(X:List (List PV)) (b:Int),X.length≤2^30→aS 1 X→A5 X [[.int .u8 b]] 1 1:=fun X b h1 h2=>by
    rw[←bO,cU];exact⟨by simp only[List.length_cons,List.length_nil];omega,by simp only[List.length_cons,List.length_nil];omega,by simp[cr,fr],h2⟩
   have Hr:OC []=none:=by rw[hOC];rfl
   have Hs:∀r rs,OC (r::rs)=some (.cH 5 (r::rs) 0):=fun r rs=>by rw[hOC];rfl
   have Lx:∀Z,Z≠[]→OC Z=some (.cH 5 Z 0):=fun Z h=>by cases Z with|nil=>exact absurd rfl h|cons r rs=>exact Hs r rs
   obtain⟨B,hB⟩:∃B:Nat→List (List PV),∀v,B v=aG.bytes (fv L v):=⟨_,fun _=>rfl⟩
   have hB0:B 0=[]:=by rw[hB];rfl
   have S8:∀v,(B v).length=(fv L v).length:=fun v=>by rw[hB];exact oi _
   refine qf (fun v σ_=>Wp (OB (B v)) (OC (B v)) ((σ_.tidy [6,27,28,29] [some 0]).put (some 29) (.pv (.int .i64 (Int.ofNat v))))) ls.length (fun k=>(fv L (k+1)).length≤65536) ?_ ?_
   ·rw[hB0,Hp,Hr];exact Fg.b8 [6,27,28,29] [some 0,none] rfl (by cbv)
   intro v hv hk
   have jm:(fv L v).length≤65536:=by
    cases v with
    |zero=>simp[fv]
    |succ v=>exact hk v (by omega)
   have DE:=S8 v;generalize hR:B v=R at DE;refine Ka (U:=false) hT 10000 (by cbv) ?_;refine bl.af (fun hd=>?_) (fun hd=>?_)
   ·have aY:v<ls.length:=by rw[←aD,←ah]at hd;simp at hd;omega
    have q0:=hle _ (List.getElem_mem aY)
    have D2:L[v]'(by omega)=(ls[v]).1.map (·.1):=by simp[O7,pE.val]
    have hdr:=hdry _ (List.getElem_mem aY);have O9:=bP v (by omega);obtain⟨⟨lp,Dn⟩,bh⟩:∃x,ls[v]=x:=⟨_,rfl⟩;obtain⟨oq,gm⟩:∃q,q=lp.map hU:=⟨_,rfl⟩
    have bx:aL (Int.ofNat v) rows 1:=by rw[←aP,cq];exact aR (enc:=mQ) aY rfl
    have a6:aI rows (Int.ofNat v)=[.sl oq Dn]:=by rw[←aU,cq,aQ (enc:=mQ) aY,bh,gm];rfl
    rw[bh]at q0 D2 hdr;rw[D2]at O9;obtain⟨S,hS⟩:∃S,S=lp.map (·.1):=⟨_,rfl⟩;rw[←hS]at O9 D2
    have R7:S.length=lp.length:=by simp[hS]
    have XR:0<lp.length:=by have:=O9.1;omega
    obtain⟨⟨FC,es_d⟩,mE⟩:∃x,lp[0]=x:=⟨_,rfl⟩;obtain⟨q_d,PB⟩:∃q,q=strs FC:=⟨_,rfl⟩
    have hql_d:q_d.length=FC.length:=by simp[PB,strs]
    have tK:aL (Int.ofNat 0) oq 1:=by rw[←aP,gm];exact aR (enc:=hU) XR rfl
    have oT:aI oq (Int.ofNat 0)=[.sl q_d es_d]:=by rw[←aU,gm,aQ (enc:=hU) XR,mE,PB];rfl
    have hE0:=O9.2.2 0 (by omega);refine dp ?_;refine ae bx ?_;rw[a6];refine gT hT ?_;refine ae tK ?_;rw[show aI oq 0=_ from oT];refine gT hT ?_
    have ff:0<FC.length:=by
     have:S[0]'(by omega)=FC:=by simp[hS,mE]
     rw[this]at hE0;exact hE0.1
    obtain⟨c_c,gP⟩:∃x,FC[0]=x:=⟨_,rfl⟩
    have jL:aL (Int.ofNat 0) q_d 1:=by rw[←aP,PB];exact aR (enc:=eK) ff rfl
    have jx:aI q_d (Int.ofNat 0)=[.str c_c]:=by rw[←aU,PB,strs,aQ (enc:=eK) ff,gP];rfl
    have abH:c_c.length<2^32:=by
     have h1:=(q0.2 lp[0] (List.getElem_mem XR)).2 c_c (by rw[mE,←gP];exact List.getElem_mem ff);exact h1
    have wL:¬(0<c_c.length∧at_ c_c 0=32):=fun h=>by
     obtain⟨e1,Ru,he1⟩:∃e1 Ru,lp=e1::Ru:=by cases lp with|nil=>simp at XR|cons e1 Ru=>exact⟨e1,Ru,rfl⟩
     subst he1
     obtain⟨c1,cs1,yD⟩:∃c1 cs1,FC=c1::cs1:=by cases FC with|nil=>simp at ff|cons e1 Ru=>exact⟨e1,Ru,rfl⟩
     simp only[List.getElem_cons_zero]at mE;subst yD;simp only[List.getElem_cons_zero]at gP;exact hdr e1 Ru Dn rfl c1 cs1 (by rw[mE]) (by rw[gP];exact h.2)
    refine ae jL ?_;rw[show aI q_d 0=_ from jx];refine gT hT ?_;refine bX (by cbv) (Lv abH rfl) (fun h=>?_) (fun h=>?_)<;>simp only[decide_eq_true_eq,decide_eq_false_iff_not]at h
    ·exact absurd h wL
    clear h
    obtain⟨B4,Wq⟩:∃B4:Nat→List (List PV),∀i,B4 i=aG.bytes (fv L v++oe S i):=⟨_,fun _=>rfl⟩
    have hB40:B4 0=R:=by rw[Wq,←hR,hB];simp[oe]
    have hqa:oq.length=lp.length:=by rw[gm];simp
    have DZ:=uG O9;have hS30:=DZ.1
    have hB4l:∀i,i≤30→(B4 i).length≤65536+2011*i:=fun i hi=>by
     rw[Wq,oi,List.length_append];have:=qZ DZ.2 (n:=i);omega
    refine gT hT ?_;refine qf (fun i σ_=>Wp (OB (B4 i)) (OC (B4 i)) ((σ_.tidy [6,27,28,29,40,41,42] [some 0]).put (some 42) (.pv (.int .i64 (Int.ofNat i))))) lp.length (fun k=>True) ?_ ?_
    ·rw[hB40]
     rcases R with _|⟨r,rs⟩
     ·simp only[Hp,Hr];exact Fg.b8 [6,27,28,29,40,41,42] [some 0,none] rfl (by cbv)
     ·simp only[Hq,Hs];exact Fg.b8 [6,27,28,29,40,41,42] [some 0,some 1] rfl (by cbv)
    intro i hi hk4;have hR4l:=hB4l i (by omega);generalize XS:B4 i=R at hR4l;refine Ka (U:=false) hT 10000 (by cbv) ?_;refine bl.af (fun hd4=>?_) (fun hd4=>?_)
    ·have hY:i<lp.length:=by rw[←aD,←ah]at hd4;simp at hd4;omega
     obtain⟨⟨tO,es_b⟩,dq⟩:∃x,lp[i]=x:=⟨_,rfl⟩;obtain⟨q_b,Ly⟩:∃q,q=strs tO:=⟨_,rfl⟩
     have hql_b:q_b.length=tO.length:=by simp[Ly,strs]
     have dT:aL (Int.ofNat i) oq 1:=by rw[←aP,gm];exact aR (enc:=hU) hY rfl
     have cL:aI oq (Int.ofNat i)=[.sl q_b es_b]:=by rw[←aU,gm,aQ (enc:=hU) hY,dq,Ly];rfl
     refine dp ?_;refine ae dT ?_;rw[cL];obtain⟨Z,hZ⟩:∃Z,Z=R++(if 0<i then [[.int .u8 43]]else []):=⟨_,rfl⟩
     have DE:R.length≤2^30:=by omega
     have D3:aS 1 R:=by rw[←XS,Wq];exact oj _
     refine goT (U:=false) hT 8 (by cbv) ?_;refine tL ?_;refine yp (fun s=>Wp (OB Z) (OC Z) (s.tidy [6,10,27,28,29,40,41,42] [some 0])) (by rfl) ?_ ?_
     ·refine gT hT ?_;refine bl.af (fun h0=>?_) (fun h0=>?_)
      ·replace h0:=eT h0
       rw[if_pos (by omega)]at hZ
       have tP:Z≠[]:=by rw[hZ];simp
       rcases R with _|⟨r,rs⟩
       ·have hZ1:Z=[[.int .u8 43]]:=hZ;rw[Hp,Hr];refine dp ?_;refine oh uN ?_;refine gT hT ?_;refine ae ⟨dQ _ _ DE D3,fun h=>by cases h⟩ ?_;refine gT hT ?_;refine lR ?_;rw[Lw Z tP,Lx Z tP,hZ1];exact Fg.b8 [6,10,27,28,29,40,41,42] [some 0,some 16] rfl (by cbv)
       ·rw[Hq,Hs];refine dp ?_;refine ae ⟨dQ _ _ DE D3,fun h=>by cases h⟩ ?_;rw[show bs (r::rs) [[.int .u8 43]]=Z by rw[←bE,hZ];rfl];refine gT hT ?_;refine lR ?_;rw[Lw Z tP,Lx Z tP];exact Fg.b8 [6,10,27,28,29,40,41,42] [some 0,some 1] rfl (by cbv)
      ·replace h0:=eT h0
       rw[if_neg (by omega),List.append_nil]at hZ;rw[←hZ];refine dp ?_;refine lR ?_
       rcases Z with _|⟨r,rs⟩
       ·simp only[Hp,Hr];exact Fg.b8 [6,10,27,28,29,40,41,42] [some 0,none] rfl (by cbv)
       ·simp only[Hq,Hs];exact Fg.b8 [6,10,27,28,29,40,41,42] [some 0,some 1] rfl (by cbv)
     ·refine gT hT ?_;obtain⟨F,hF⟩:∃F,F=decide (i=0):=⟨_,rfl⟩;obtain⟨B6,Wr⟩:∃B6:Nat→List (List PV),∀j,B6 j=Z++aG.bytes (j9 tO F j):=⟨_,fun _=>rfl⟩
      have Ws:B6 0=Z:=by rw[Wr];simp[j9,aG]
      have hSi:S.getD i []=tO:=by rw[hS,List.getD_eq_getElem?_getD];simp[hY,dq]
      have H3:tO.length≤10∧∀c∈tO,c.length≤100:=by
       have:=DZ.2 (S[i]'(by omega)) (List.getElem_mem _);rw[←hSi,List.getD_eq_getElem?_getD,List.getElem?_eq_getElem (by omega)];exact this
      have abK:B4 (i+1)=B6 tO.length:=by
       rw[Wr,hZ,←XS,Wq,Wq];simp only[oe];rw[hSi,hF,←List.append_assoc,←List.append_assoc,kJ,kJ]
       congr 2
       split<;>rfl
      have abL:∀j,j≤10→(B6 j).length≤200000:=fun j hj=>by
       have h1:=mG (e:=tO) (f:=F) H3.2 (n:=j);rw[Wr,List.length_append,oi,hZ,List.length_append];split<;>simp only[List.length_cons,List.length_nil]<;>omega
      have abM:∀j,aS 1 (B6 j):=fun j r hr=>by
       rw[Wr,hZ]at hr
       rcases List.mem_append.1 hr with hr|hr
       ·rcases List.mem_append.1 hr with hr|hr
        ·exact D3 r hr
        ·split at hr
         ·simp at hr;subst hr;rfl
         ·cases hr
       ·exact oj _ r hr
      have hqb:q_b.length=tO.length:=by rw[Ly];simp[strs]
      refine qf (fun j σ_=>Wp (OB (B6 j)) (OC (B6 j)) ((σ_.tidy [6,27,28,29,40,41,42,50,51,52] [some 0]).put (some 52) (.pv (.int .i64 (Int.ofNat j))))) tO.length (fun k=>True) ?_ ?_
      ·rw[Ws]
       clear Ws Wr abK abL abM
       rcases Z with _|⟨r,rs⟩
       ·simp only[Hp,Hr];exact Fg.b8 [6,27,28,29,40,41,42,50,51,52] [some 0,none] rfl (by cbv)
       ·simp only[Hq,Hs];exact Fg.b8 [6,27,28,29,40,41,42,50,51,52] [some 0,some 1] rfl (by cbv)
      clear Ws
      intro j hj hk6;have DE:=abL j (by omega);have D3:=abM j;generalize hR6:B6 j=R at DE D3;refine Ka (U:=false) hT 10000 (by cbv) ?_;refine bl.af (fun hd6=>?_) (fun hd6=>?_)
      ·have vN:j<tO.length:=by rw[←aD,←ah]at hd6;simp at hd6;omega
       obtain⟨Ht,PD⟩:∃x,tO[j]=x:=⟨_,rfl⟩
       have abO:aL (Int.ofNat j) q_b 1:=by rw[←aP,Ly];exact aR (enc:=eK) vN rfl
       have Wt:aI q_b (Int.ofNat j)=[.str Ht]:=by rw[←aU,Ly,strs,aQ (enc:=eK) vN,PD];rfl
       have hcl_g:Ht.length≤100:=by rw[←PD];exact H3.2 _ (List.getElem_mem vN)
       have uv:tO.getD j []=Ht:=by rw[List.getD_eq_getElem?_getD,List.getElem?_eq_getElem vN,PD];rfl
       refine dp ?_;refine ae abO ?_;rw[Wt];obtain⟨Z,hZ⟩:∃Z,Z=R++(if 0<j then [[.int .u8 58]]else []):=⟨_,rfl⟩
       have DE:R.length≤2^30:=by omega
       refine goT (U:=false) hT 8 (by cbv) ?_;refine tL ?_;refine yp (fun s=>Wp (OB Z) (OC Z) (s.tidy [6,12,27,28,29,40,41,42,50,51,52] [some 0])) (by rfl) ?_ ?_
       ·refine gT hT ?_;refine bl.af (fun h0=>?_) (fun h0=>?_)
        ·replace h0:=eT h0
         rw[if_pos (by omega)]at hZ
         have tP:Z≠[]:=by rw[hZ];simp
         rcases R with _|⟨r,rs⟩
         ·have hZ1:Z=[[.int .u8 58]]:=hZ;rw[Hp,Hr];refine dp ?_;refine oh uN ?_;refine gT hT ?_;refine ae ⟨dQ _ _ DE D3,fun h=>by cases h⟩ ?_;refine gT hT ?_;refine lR ?_;rw[Lw Z tP,Lx Z tP,hZ1];exact Fg.b8 [6,12,27,28,29,40,41,42,50,51,52] [some 0,some 16] rfl (by cbv)
         ·rw[Hq,Hs];refine dp ?_;refine ae ⟨dQ _ _ DE D3,fun h=>by cases h⟩ ?_;rw[show bs (r::rs) [[.int .u8 58]]=Z by rw[←bE,hZ];rfl];refine gT hT ?_;refine lR ?_;rw[Lw Z tP,Lx Z tP];exact Fg.b8 [6,12,27,28,29,40,41,42,50,51,52] [some 0,some 1] rfl (by cbv)
        ·replace h0:=eT h0
         rw[if_neg (by omega),List.append_nil]at hZ;rw[←hZ];refine dp ?_;refine lR ?_
         rcases Z with _|⟨r,rs⟩
         ·simp only[Hp,Hr];exact Fg.b8 [6,12,27,28,29,40,41,42,50,51,52] [some 0,none] rfl (by cbv)
         ·simp only[Hq,Hs];exact Fg.b8 [6,12,27,28,29,40,41,42,50,51,52] [some 0,some 1] rfl (by cbv)
       ·refine gT hT ?_;obtain⟨gg,hgg⟩:∃g,g=(F&&decide (j=0)):=⟨_,rfl⟩
        have Ur:∀k,¬(gg=true∧k=0∧at_ Ht k=32):=by
         rintro k ⟨h1,h2,h3⟩;rw[hgg,hF]at h1;simp only[Bool.and_eq_true,decide_eq_true_eq]at h1;obtain⟨rfl,rfl⟩:=h1;subst h2;rw[dq]at mE;obtain⟨rfl,rfl⟩:=Prod.mk.inj mE;rw[PD]at gP;subst gP;refine wL ⟨?_,h3⟩
         cases Ht with
         |nil=>simp[at_]at h3
         |cons x xs=>simp
        obtain⟨B8,Wu⟩:∃B8:Nat→List (List PV),∀k,B8 k=Z++aG.bytes (jg Ht gg k):=⟨_,fun _=>rfl⟩
        have Ww:B8 0=Z:=by rw[Wu];simp[jg,aG]
        have abP:B6 (j+1)=B8 Ht.length:=by
         rw[Wu,hZ,←hR6,Wr,Wr];simp only[j9];rw[uv,hgg,kJ,kJ,←List.append_assoc,←List.append_assoc]
         congr 2
         split<;>rfl
        have abQ:∀k,k≤100→(B8 k).length≤300000:=fun k hk=>by
         have h1:=kH (c:=Ht) (f:=gg) (n:=k);rw[Wu,List.length_append,oi,hZ,List.length_append];split<;>simp only[List.length_cons,List.length_nil]<;>omega
        have abR:∀k,aS 1 (B8 k):=fun k r hr=>by
         rw[Wu,hZ]at hr
         rcases List.mem_append.1 hr with hr|hr
         ·rcases List.mem_append.1 hr with hr|hr
          ·exact D3 r hr
          ·split at hr
           ·simp at hr;subst hr;rfl
           ·cases hr
         ·exact oj _ r hr
        refine qf (fun k σ_=>Wp (OB (B8 k)) (OC (B8 k)) ((σ_.tidy [6,12,27,28,29,40,41,42,50,51,52,61,62] [some 0]).put (some 62) (.pv (.int .i64 (Int.ofNat k))))) Ht.length (fun k=>True) ?_ ?_
        ·rw[Ww]
         clear Ww Wu abP abQ abR
         rcases Z with _|⟨r,rs⟩
         ·simp only[Hp,Hr];exact Fg.b8 [6,12,27,28,29,40,41,42,50,51,52,61,62] [some 0,none] rfl (by cbv)
         ·simp only[Hq,Hs];exact Fg.b8 [6,12,27,28,29,40,41,42,50,51,52,61,62] [some 0,some 1] rfl (by cbv)
        clear Ww
        intro v hv hk8;have DE:=abQ v (by omega);have D3:=abR v;generalize hR8:B8 v=R at DE D3
        have DE:R.length≤2^30:=by omega
        refine Ka (U:=false) hT 10000 (by cbv) ?_;refine bl.af (fun hd8=>?_) (fun hd8=>?_)
        ·have aY:v<Ht.length:=by rw[←aD,←aB]at hd8;simp at hd8;omega
         have BP:ga (Int.ofNat v) Ht:=by rw[←gy];simp;omega
         obtain⟨vH,yq⟩:∃b,b=at_ Ht v:=⟨_,rfl⟩
         have PE:0≤vH∧vH<256:=by rw[yq];exact nZ _ _
         have BQ:fE Ht (Int.ofNat v)=vH:=by rw[←gA,yq];rfl
         obtain⟨r0,Jc⟩:∃r,r=Lib.indexByte [39,43,58,63] vH.toNat.toUInt8:=⟨_,rfl⟩;have XQ:=Wo PE Jc;obtain⟨Z,hZ⟩:∃Z,Z=R++(if 0≤r0 then [[.int .u8 63]]else []):=⟨_,rfl⟩
         have Wx:B8 (v+1)=Z++[[.int .u8 vH]]:=by
          rw[hZ,←hR8,Wu,Wu];simp only[jg];rw[kJ,kJ,←List.append_assoc,←List.append_assoc,yq]
          congr 2
          ·by_cases h:0≤r0
           ·rw[if_pos h,if_pos (Or.inl (by unfold yZ;rw[←yq];exact XQ.1 h))];rfl
           ·rw[if_neg h,if_neg (by rintro(h1|h1);exact h (XQ.2 (by unfold yZ at h1;rw[yq];exact h1));exact Ur v h1)];rfl
         refine dp ?_;refine ae BP ?_;rw[BQ];refine gT hT ?_;refine an (by cbv) (fT Jc) (fun h=>by first|rfl|cases h) ?_;refine yp (fun s=>Wp (OB Z) (OC Z) (s.tidy [6,12,13,27,28,29,40,41,42,50,51,52,61,62] [some 0])) (by rfl) ?_ ?_
         ·refine gT hT ?_;refine bl.af (fun h0=>?_) (fun h0=>?_)
          ·replace h0:=eT h0
           rw[if_pos (by omega)]at hZ
           have tP:Z≠[]:=by rw[hZ];simp
           rcases R with _|⟨r,rs⟩
           ·have hZ1:Z=[[.int .u8 63]]:=hZ;rw[Hp,Hr];refine dp ?_;refine oh uN ?_;refine gT hT ?_;refine ae ⟨dQ _ _ DE D3,fun h=>by cases h⟩ ?_;refine gT hT ?_;refine lR ?_;rw[Lw Z tP,Lx Z tP,hZ1];exact Fg.b8 [6,12,13,27,28,29,40,41,42,50,51,52,61,62] [some 0,some 16] rfl (by cbv)
           ·rw[Hq,Hs];refine dp ?_;refine ae ⟨dQ _ _ DE D3,fun h=>by cases h⟩ ?_;rw[show bs (r::rs) [[.int .u8 63]]=Z by rw[←bE,hZ];rfl];refine gT hT ?_;refine lR ?_;rw[Lw Z tP,Lx Z tP];exact Fg.b8 [6,12,13,27,28,29,40,41,42,50,51,52,61,62] [some 0,some 1] rfl (by cbv)
          ·replace h0:=eT h0
           rw[if_neg (by omega),List.append_nil]at hZ;rw[←hZ];refine dp ?_;refine lR ?_
           rcases Z with _|⟨r,rs⟩
           ·simp only[Hp,Hr];exact Fg.b8 [6,12,13,27,28,29,40,41,42,50,51,52,61,62] [some 0,none] rfl (by cbv)
           ·simp only[Hq,Hs];exact Fg.b8 [6,12,13,27,28,29,40,41,42,50,51,52,61,62] [some 0,some 1] rfl (by cbv)
         ·have hZl:Z.length≤2^30:=by rw[hZ,List.length_append];split<;>simp only[List.length_cons,List.length_nil]<;>omega
          have hZa:aS 1 Z:=fun r hr=>by
           rw[hZ]at hr
           rcases List.mem_append.1 hr with hr|hr
           ·exact D3 r hr
           ·split at hr
            ·simp at hr;subst hr;rfl
            ·cases hr
          obtain⟨Z2,PF⟩:∃Z2,Z2=Z++[[.int .u8 vH]]:=⟨_,rfl⟩
          have tQ:Z2≠[]:=by rw[PF];simp
          rw[←PF]at Wx
          clear hZ
          rcases Z with _|⟨r,rs⟩
          ·have hZ1:Z2=[[.int .u8 vH]]:=PF;rw[Hp,Hr];refine gT hT ?_;refine ae BP ?_;rw[BQ];refine gT hT ?_;refine oh uN ?_;refine gT hT ?_;refine ae ⟨dQ _ _ hZl hZa,fun h=>by cases h⟩ ?_;refine gT hT ?_;refine ai ⟨aY,trivial,?_⟩;rw[wS ak aO (v:=v) (by omega)];rw[Wx,Lw Z2 tQ,Lx Z2 tQ,hZ1];exact Fg.b8 [6,12,27,28,29,40,41,42,50,51,52,61,62] [some 0,some 16] rfl (by cbv)
          ·rw[Hq,Hs];refine gT hT ?_;refine ae BP ?_;rw[BQ];refine gT hT ?_;refine ae ⟨dQ _ _ hZl hZa,fun h=>by cases h⟩ ?_;rw[show bs (r::rs) [[.int .u8 vH]]=Z2 by rw[←bE,PF];rfl];refine gT hT ?_;refine ai ⟨aY,trivial,?_⟩;rw[wS ak aO (v:=v) (by omega)];rw[Wx,Lw Z2 tQ,Lx Z2 tQ];exact Fg.b8 [6,12,27,28,29,40,41,42,50,51,52,61,62] [some 0,some 1] rfl (by cbv)
        ·have aY:v=Ht.length:=by rw[←aD,←aB]at hd8;simp at hd8;omega
         rw[aY]at hR8;refine dp ?_;refine au rfl ?_;refine gT hT ?_;refine ai ⟨vN,trivial,?_⟩;rw[wS ak aO (v:=j) (by omega)];rw[abP,hR8]
         clear hR8
         rcases R with _|⟨r,rs⟩
         ·simp only[Hp,Hr];exact Fg.b8 [6,27,28,29,40,41,42,50,51,52] [some 0,none] rfl (by cbv)
         ·simp only[Hq,Hs];exact Fg.b8 [6,27,28,29,40,41,42,50,51,52] [some 0,some 1] rfl (by cbv)
      ·have vN:j=tO.length:=by rw[←aD,←ah]at hd6;simp at hd6;omega
       rw[vN]at hR6;refine dp ?_;refine au rfl ?_;refine gT hT ?_;refine ai ⟨hY,trivial,?_⟩;rw[wS ak aO (v:=i) (by omega)];rw[abK,hR6]
       clear hR6
       rcases R with _|⟨r,rs⟩
       ·simp only[Hp,Hr];exact Fg.b8 [6,27,28,29,40,41,42] [some 0,none] rfl (by cbv)
       ·simp only[Hq,Hs];exact Fg.b8 [6,27,28,29,40,41,42] [some 0,some 1] rfl (by cbv)
    ·have hY:i=lp.length:=by rw[←aD,←ah]at hd4;simp at hd4;omega
     rw[hY]at XS;obtain⟨Z2,PF⟩:∃Z2,Z2=R++[[.int .u8 39]]:=⟨_,rfl⟩
     have tQ:Z2≠[]:=by rw[PF];simp
     have hBs:B (v+1)=Z2:=by
      rw[PF,←XS,hB,Wq];simp only[fv,qD];rw[List.getD_eq_getElem?_getD,List.getElem?_eq_getElem (by omega),Option.getD_some,D2,R7,←List.append_assoc,kJ];rfl
     have hZ2l:Z2.length=(fv L (v+1)).length:=by rw[←hBs,S8]
     have DE:R.length≤2^30:=by omega
     have D3:aS 1 R:=by rw[←XS,Wq];exact oj _
     clear XS
     rcases R with _|⟨r,rs⟩
     ·have hZ1:Z2=[[.int .u8 39]]:=PF;rw[Hp,Hr];refine dp ?_;refine au rfl ?_;refine gT hT ?_;refine oh uN ?_;refine gT hT ?_;refine ae ⟨dQ _ _ DE D3,fun h=>by cases h⟩ ?_;rw[←hZ1];refine gT hT ?_;refine bl.af (fun h9=>?_) (fun h9=>?_)
      ·rw[←aD,←ah]at h9;simp only[oK,il,decide_eq_true_eq]at h9;rw[if_pos (by have:=oV (l:=L) (n:=v+1) (m:=L.length) (by omega);omega)]at ht
       cases ht
       refine dp ?_;refine dm ?_;rfl
      ·rw[←aD,←ah]at h9;simp only[oK,il,decide_eq_false_iff_not]at h9;refine dp ?_;refine ai ⟨aY,by omega,?_⟩;rw[wS ak aO (v:=v) (by omega)];rw[hBs,Lw Z2 tQ,Lx Z2 tQ];exact Fg.b8 [6,27,28,29] [some 0,some 16] rfl (by cbv)
     ·rw[Hq,Hs];refine dp ?_;refine au rfl ?_;refine gT hT ?_;refine ae ⟨dQ _ _ DE D3,fun h=>by cases h⟩ ?_;rw[show bs (r::rs) [[.int .u8 39]]=Z2 by rw[←bE,PF];rfl];refine gT hT ?_;refine bl.af (fun h9=>?_) (fun h9=>?_)
      ·rw[←aD,←ah]at h9;simp only[oK,il,decide_eq_true_eq]at h9;rw[if_pos (by have:=oV (l:=L) (n:=v+1) (m:=L.length) (by omega);omega)]at ht
       cases ht
       refine dp ?_;refine dm ?_;rfl
      ·rw[←aD,←ah]at h9;simp only[oK,il,decide_eq_false_iff_not]at h9;refine dp ?_;refine ai ⟨aY,by omega,?_⟩;rw[wS ak aO (v:=v) (by omega)];rw[hBs,Lw Z2 tQ,Lx Z2 tQ];exact Fg.b8 [6,27,28,29] [some 0,some 1] rfl (by cbv)
   ·have aY:v=ls.length:=by rw[←aD,←ah]at hd;simp at hd;omega
    have Wy:R≠[]:=by
     rw[←hR,hB,aY];intro h
     have h1:ls.length=(ls.length-1)+1:=by omega
     rw[h1]at h;simp only[fv,qD]at h;have:=congrArg List.length h;rw[oi]at this;simp at this
    rw[if_neg (by rw[hLl,←aY];omega)]at ht;obtain⟨Ik,Pu⟩:=Prod.mk.inj ht;subst Pu
    have hRt:eg R=t:=by
     rw[←ej,←hR,hB,aY,←Ik,hLl];simp[aG,Function.comp_def]
    have hRb:A6 R:=by
     rw[←jt,←hR,hB];intro r hr;obtain⟨x,-,rfl⟩:=List.mem_map.1 hr;exact⟨_,rfl⟩
    have hR0:0<R.length:=List.length_pos_iff.2 Wy
    have S9:aS 1 R:=by rw[←hR,hB];exact oj _
    have hR1:(R.getD 0 []).length=1:=by
     rw[List.getD_eq_getElem?_getD,List.getElem?_eq_getElem hR0,Option.getD_some];exact S9 _ (List.getElem_mem hR0)
    rw[Lw R Wy,Lx R Wy];refine dp ?_;refine au rfl ?_;refine gT hT ?_;refine ae (by rw[←aP];exact⟨by simp,by simpa using hR0,hR1⟩) ?_;refine gT hT ?_;refine ae ⟨hRb,by rw[←bO,cU];exact⟨by simp only[List.length_nil];omega,by simp only[List.length_nil];omega,fun r hr=>by simp at hr,S9⟩⟩ ?_;rw[hRt];refine gT hT ?_;refine aN ?_;rfl
end Go.bW
end
