import Derived.Test.YtfaccbkibjkfjaaGreatDoorT20
import Derived.Test.YtfaccbkibjkfjaaGreatDoorT17
import Derived.Test.YtfaccbkibjkfjaaGreatDoorT41
set_option linter.all false
set_option maxRecDepth 100000
set_option maxHeartbeats 1000000
section
open Go Go.Am Go.Proofs
attribute [local irreducible] Am.bp.holds bH fw bP ek
namespace Go.b8
variable {mx:Int}
open Classical
noncomputable def wW (e1 e2 e3:Int) (n k:Int):Int:=if e1=0∧e2=0∧e3=0 then if 0≤k∧k<n then 0 else 6 else 2
def Ph (kl:List cT) (v:Nat):cT:=kl.getD v ⟨[],0,0⟩
theorem KC {kl:List cT} {i:Nat} (h:i<kl.length):Ph kl i=kl[i]:=by simp[Ph,List.getD_eq_getElem?_getD,h]
noncomputable def ue (l:List b6) (k:Int) (v:Nat):List b6:=(l.take v).filter (fun b=>decide (lG b k))
theorem sC {l:List b6} {k:Int} {v:Nat} (h:v<l.length):ue l k (v+1)=if lG l[v] k then ue l k v++[l[v]]else ue l k v:=by
 unfold ue;rw[List.take_succ_eq_append_getElem h,List.filter_append]
 by_cases hp:lG l[v] k<;>simp[hp]
theorem uP {l:List b6} {k:Int} {v:Nat}:(ue l k v).length≤l.length:=by
 unfold ue;exact Nat.le_trans (List.length_filter_le _ _) (by simp;omega)
def ri:AV:=.agg [.pv (.int .i64 0),.pv (.str []),.full [],.full []]
def Gh (kl:List cT) (sl:List Stat) (boxes:List b6) (k e:Int) (os:List (Nat×List (List PV))) (rs:List AV):Prop:=
 (e≠0∧os=[]∧rs=[ri,.pv (.int .i64 e)])∨
 (e=0∧ue boxes k boxes.length=[]∧∃v,k=Int.ofNat v∧os=[(4,(tq sl v).l.map aH.enc)]∧rs=[.agg [.pv (.int .i64 k),.pv (.str (Ph kl v).port),.full [],.c8 0 0],.pv (.int .i64 0)])∨
 (e=0∧ue boxes k boxes.length≠[]∧∃v,k=Int.ofNat v∧os=[(4,(tq sl v).l.map aH.enc),(9,(ue boxes k boxes.length).map b6.enc)]∧rs=[.agg [.pv (.int .i64 k),.pv (.str (Ph kl v).port),.c8 1 0,.c8 0 0],.pv (.int .i64 0)])
theorem abH {c csp vv vsp r rsp f fsp t tsp:List (List PV)} {l1 l2 l3 l4 m1 m2 m3 m4:Int} {gy ksp dK ssp wrows wsp brows bsp:List (List PV)} {cl:List aL} {vl:List bz} {sl:List Stat} {kl:List cT} {boxes:List b6} {k k1 e1 i2 e2 k3 e3 e N:Int} {os:List (Nat×List (List PV))} {rs:List AV} (jI:c=cl.map aL.enc) (pN:vv=vl.map bz.enc) (wU:cl.length<2^32) (Hn:vl.length<2^32) (CS:∀x∈cl,x.cq.length<2^32) (AE:∀x∈vl,x.rows.length<2^16)
  (hN:N=Int.ofNat kl.length) (n0:gy=kl.map cT.enc) (AB:kl.length<2^32) (hs:dK=sl.map Stat.enc) (oa:sl.length<2^32) (jb:brows=boxes.map b6.enc) (lO:boxes.length<2^32) (vf:∀b∈boxes,og b) (yb:∀x∈sl,x.l.length<2^32∧∀y∈x.l,kL y)
  (mG:∀x∈sl,x.sp≠[]) (h1:fh kl k1 e1) (h2:ib boxes i2 e2) (h3:dq cl vl boxes N sl k3 e3) (he:e=wW e1 e2 e3 N k) (dD:Gh kl sl boxes k e os rs):
  oQ Tryz.prog (GG mx) 21 [.agg [.sl c csp,.sl vv vsp,.int .i64 l1,.int .i64 l2,.int .i64 l3,.int .i64 l4,.sl r rsp,.sl f fsp,.sl t tsp,.int .i64 m1,.int .i64 m2,.int .i64 m3,.int .i64 m4],.sl gy ksp,.sl brows bsp,.agg [.sl dK ssp,.sl wrows wsp],.int .i64 k] os (one? rs):=by
 have Sz:gy.length=kl.length:=by simp[n0]
 have KD:brows.length=boxes.length:=by simp[jb]
 have SA:dK.length=sl.length:=by simp[hs]
 refine BO (rs:=rs) mixed U2 (leT rfl) (az (F:=fun A=>bH (CC Tryz.prog (GG mx)) A (bh Tryz.prog (GG mx)) [.code aaA] (nb [.cell 10 (some 4),.tmp 11] os rs) .normal (Am.start 89 [.agg [.sl c csp,.sl vv vsp,.int .i64 l1,.int .i64 l2,.int .i64 l3,.int .i64 l4,.sl r rsp,.sl f fsp,.sl t tsp,.int .i64 m1,.int .i64 m2,.int .i64 m3,.int .i64 m4],.sl gy ksp,.sl brows bsp,.agg [.sl dK ssp,.sl wrows wsp],.int .i64 k])) ?_)
 iterate 105 intro _
 intro yR
 iterate 9 intro _
 intro b7 dF bJ bX _ _ _ aw _ ah aI aQ aJ aP aB aU aV bC bA ag aC;refine gK ?_;refine ao (by cbv) (Kx n0 AB h1) (fun h=>by first|rfl|cases h) ?_;refine gK ?_;refine ao (by cbv) (Ka jb h2) (fun h=>by first|rfl|cases h) ?_;refine gK ?_;have hN':N=(kl.length:Int):=hN
 have mn:b7 gy=N:=by rw[←ag];simp[n0,hN]
 have fin:e≠0→os=[]∧rs=[ri,.pv (.int .i64 e)]:=fun he=>by
  rcases dD with⟨-,h1,h2⟩|⟨h,-⟩|⟨h,-⟩
  ·exact⟨h1,h2⟩
  ·exact absurd h he
  ·exact absurd h he
 repeat' (first|refine gH ?_|(refine iE (fun hc=>?_) (fun hc=>?_)<;>(try simp at hc)<;>(try(exfalso;omega))))
 ·have h2:e=2:=by rw[he,wW,if_neg (by omega)]
  obtain⟨rfl,rfl⟩:=fin (by omega);rw[h2];refine o6 (fg (vs:=[ri,.pv (.int .i64 2)]) (t:=[]) [] (by cbv) rfl (by cbv) rfl rfl rfl)
 ·have h2:e=2:=by rw[he,wW,if_neg (by omega)]
  obtain⟨rfl,rfl⟩:=fin (by omega);rw[h2];refine o6 (fg (vs:=[ri,.pv (.int .i64 2)]) (t:=[]) [] (by cbv) rfl (by cbv) rfl rfl rfl)
 rw[mn];refine ao (by cbv) (As jI pN wU Hn CS AE hs oa jb lO vf yb h3) (fun h=>by first|rfl|cases h) ?_;refine gK ?_
 repeat' (first|refine gH ?_|(refine iE (fun hc=>?_) (fun hc=>?_)<;>(try simp at hc)<;>(try(exfalso;omega))))
 ·have h2:e=2:=by rw[he,wW,if_neg (by omega)]
  obtain⟨rfl,rfl⟩:=fin (by omega);rw[h2];refine o6 (fg (vs:=[ri,.pv (.int .i64 2)]) (t:=[]) [] (by cbv) rfl (by cbv) rfl rfl rfl)
 ·have h2:e=6:=by rw[he,wW,if_pos (by omega),if_neg (by omega)]
  obtain⟨rfl,rfl⟩:=fin (by omega);rw[h2];refine o6 (fg (vs:=[ri,.pv (.int .i64 6)]) (t:=[]) [] (by cbv) rfl (by cbv) rfl rfl rfl)
 ·have h2:e=6:=by rw[he,wW,if_pos (by omega),if_neg (by rintro⟨h,h'⟩;rw[hN]at h';have h':k<(kl.length:Int):=h';omega)]
  obtain⟨rfl,rfl⟩:=fin (by omega);rw[h2];refine o6 (fg (vs:=[ri,.pv (.int .i64 6)]) (t:=[]) [] (by cbv) rfl (by cbv) rfl rfl rfl)
 have he3:e3=0:=by omega
 subst he3;have hz:=h3.zero
 have hsk:sl.length=kl.length:=by have:=hz.2.2.1;rw[hN]at this;exact Int.ofNat.inj this
 obtain⟨v,rj⟩:∃v,k=Int.ofNat v:=⟨k.toNat,by simp;omega⟩
 have Ma:v<kl.length:=by have hkv':k=(v:Int):=rj;omega
 have gh:v<sl.length:=by omega
 obtain⟨gI,bj⟩:∃x,kl[v]=x:=⟨_,rfl⟩
 have bG:aJ (Int.ofNat v) gy 3:=by rw[←aP,n0];exact aO (enc:=cT.enc) Ma rfl
 obtain⟨⟨jd,Ao,Ap⟩,bW⟩:∃y,gI=y:=⟨_,rfl⟩;subst bW
 have aW:aI gy (Int.ofNat v)=[.str jd,.int .i64 Ao,.int .i64 Ap]:=by rw[←aQ,n0,aN (enc:=cT.enc) Ma,bj];rfl
 obtain⟨Ac,fv⟩:∃x,sl[v]=x:=⟨_,rfl⟩
 have gw:aJ (Int.ofNat v) dK 1:=by rw[←aP,hs];exact aO (enc:=Stat.enc) gh rfl
 obtain⟨⟨Pj,Pk⟩,jF⟩:∃y,Ac=y:=⟨_,rfl⟩;subst jF
 have dV:aI dK (Int.ofNat v)=[.sl (Pj.map aH.enc) Pk]:=by rw[←aQ,hs,aN (enc:=Stat.enc) gh,fv];rfl
 have hkp:(Ph kl v).port=jd:=by rw[KC Ma,bj]
 have Pl:(tq sl v).l=Pj:=by rw[mC gh,fv]
 have hsp2:Pk≠[]:=by have:=mG _ (List.getElem_mem gh);rw[fv]at this;exact this
 have Hu:=yb _ (List.getElem_mem gh);rw[fv]at Hu;obtain⟨q,hq⟩:∃q,q=Pj.map aH.enc:=⟨_,rfl⟩;rw[←hq]at dV
 have he0:e=0:=by rw[he,wW,if_pos (by omega),if_pos (by exact⟨by omega,by omega⟩)]
 rw[←rj]at bG aW gw dV;refine ae bG ?_;rw[aW];refine gK ?_;refine ae gw ?_;rw[dV];refine gK ?_;refine BT (by cbv) (by cbv) (KB hq (by simp[hsp2]) Hu.1) (by cbv) (Nat.le_of_ble_eq_true (by cbv)) ?_;refine gK ?_;refine jJ (fun v_ σ_=>if ue boxes k v_=[]then(σ_.tidy [4,10,18,72,73,74] (nn [10,10,7,18,51,70,14,85])).put (some 74) (.pv (.int .i64 (Int.ofNat v_)))else(((σ_.tidy [4,10,18,72,73,74] (nn [10,10,7,18,51,70,14,85])).put (some 74) (.pv (.int .i64 (Int.ofNat v_)))).aq 18 (.cells [.pv (.int .i64 k),.pv (.str jd),.c8 85 0,.c8 70 0])).aq 85 (.rows 9 ((ue boxes k v_).map b6.enc) 0)) boxes.length (fun _=>True) (by rw[if_pos (show ue boxes k 0=[] from rfl)];exact Fg.ca [4,10,18,72,73,74] (nn [10,10,7,18,51,70,14,85]) rfl (by cbv)) ?_
 intro u hu hku
 by_cases xd:ue boxes k u=[]
 ·rw[if_pos xd];refine ej ?_;refine bp.af (fun hd=>?_) (fun hd=>?_)
  ·have qd:u<boxes.length:=by rw[←aC,←ag]at hd;simp at hd;omega
   obtain⟨VU,wK⟩:∃x,boxes[u]=x:=⟨_,rfl⟩
   have sD:aJ (Int.ofNat u) brows 9:=by rw[←aP,jb];exact aO (enc:=b6.enc) qd rfl
   obtain⟨⟨lJ,ie,fj,fk,dW,fo,ig,ij,dm⟩,wL⟩:∃y,VU=y:=⟨_,rfl⟩;subst wL
   have nT:aI brows (Int.ofNat u)=[.int .i64 lJ,.str ie,.int .u8 fj,.bool fk,.int .i64 dW,.int .i64 fo,.int .i64 ig,.int .u8 ij,.bool dm]:=by rw[←aQ,jb,aN (enc:=b6.enc) qd,wK];rfl
   have dJ:=sC (k:=k) qd;rw[xd,wK,List.nil_append]at dJ;refine aY ?_;refine ae sD ?_;rw[nT];refine gK ?_;refine cU (by cbv) (yI (x:=⟨lJ,ie,fj,fk,dW,fo,ig,ij,dm⟩) rfl rfl) (fun h=>?_) (fun h=>?_)<;>simp only[decide_eq_true_eq,decide_eq_false_iff_not]at h
   ·rw[if_pos h]at dJ;refine gK ?_;refine ae (by rw[←dF,←yR];simp) ?_;refine gK ?_;refine ak ⟨qd,trivial,?_⟩;rw[if_neg (by rw[dJ];simp)];rw[wS ah aw (v:=u) (by omega)];rw[dJ];rw[show bJ [] [[.int .i64 lJ,.str ie,.int .u8 fj,.bool fk,.int .i64 dW,.int .i64 fo,.int .i64 ig,.int .u8 ij,.bool dm]]=[⟨lJ,ie,fj,fk,dW,fo,ig,ij,dm⟩].map b6.enc by rw[←bX];rfl];obtain⟨z,hz⟩:∃z,z=[(⟨lJ,ie,fj,fk,dW,fo,ig,ij,dm⟩:b6)].map b6.enc:=⟨_,rfl⟩
    rw[←hz];exact Fg.ca [4,10,18,72,73,74] (nn [10,10,7,18,51,70,14,85]) rfl (by cbv)
   ·rw[if_neg h]at dJ;refine gK ?_;refine ak ⟨qd,trivial,?_⟩;rw[if_pos dJ];rw[wS ah aw (v:=u) (by omega)];exact Fg.ca [4,10,18,72,73,74] (nn [10,10,7,18,51,70,14,85]) rfl (by cbv)
  ·have qd:u=boxes.length:=by rw[←aC,←ag]at hd;simp at hd;omega
   refine aY ?_;refine ar rfl ?_;refine gK ?_;subst qd
   rcases dD with⟨h,-⟩|⟨-,-,v',aT,rfl,rfl⟩|⟨-,h,-⟩
   ·exact absurd he0 h
   ·have HK:v'=v:=Int.ofNat.inj (aT.symm.trans rj);subst HK;rw[hkp,Pl,←hq];refine o6 (fg (vs:=[.agg [.pv (.int .i64 k),.pv (.str jd),.full [],.c8 70 0],.pv (.int .i64 0)]) (t:=[]) [some 70] (by cbv) rfl (by cbv) rfl rfl rfl)
   ·exact absurd xd h
 ·rw[if_neg xd];obtain⟨z,hz⟩:∃z,z=(ue boxes k u).map b6.enc:=⟨_,rfl⟩
  have GI:z.length≤boxes.length:=by rw[hz,List.length_map];exact uP
  have hza:aK 9 z:=by
   rw[hz];intro r hr;obtain⟨x,-,rfl⟩:=List.mem_map.1 hr;rfl
  rw[←hz];refine ej ?_;refine bp.af (fun hd=>?_) (fun hd=>?_)
  ·have qd:u<boxes.length:=by rw[←aC,←ag]at hd;simp at hd;omega
   obtain⟨VU,wK⟩:∃x,boxes[u]=x:=⟨_,rfl⟩
   have sD:aJ (Int.ofNat u) brows 9:=by rw[←aP,jb];exact aO (enc:=b6.enc) qd rfl
   obtain⟨⟨lJ,ie,fj,fk,dW,fo,ig,ij,dm⟩,wL⟩:∃y,VU=y:=⟨_,rfl⟩;subst wL
   have nT:aI brows (Int.ofNat u)=[.int .i64 lJ,.str ie,.int .u8 fj,.bool fk,.int .i64 dW,.int .i64 fo,.int .i64 ig,.int .u8 ij,.bool dm]:=by rw[←aQ,jb,aN (enc:=b6.enc) qd,wK];rfl
   have dJ:=sC (k:=k) qd;rw[wK]at dJ;refine aY ?_;refine ae sD ?_;rw[nT];refine gK ?_;refine cU (by cbv) (yI (x:=⟨lJ,ie,fj,fk,dW,fo,ig,ij,dm⟩) rfl rfl) (fun h=>?_) (fun h=>?_)<;>simp only[decide_eq_true_eq,decide_eq_false_iff_not]at h
   ·rw[if_pos h]at dJ;refine gK ?_;refine ae (by rw[←dF];simp[hza];omega) ?_;refine gK ?_;refine ak ⟨qd,trivial,?_⟩;rw[if_neg (by rw[dJ];simp)];rw[wS ah aw (v:=u) (by omega)];rw[dJ];rw[show bJ z [[.int .i64 lJ,.str ie,.int .u8 fj,.bool fk,.int .i64 dW,.int .i64 fo,.int .i64 ig,.int .u8 ij,.bool dm]]=(ue boxes k u++[(⟨lJ,ie,fj,fk,dW,fo,ig,ij,dm⟩:b6)]).map b6.enc by rw[←bX,hz];simp;rfl];obtain⟨z2,Qz⟩:∃z2,z2=(ue boxes k u++[(⟨lJ,ie,fj,fk,dW,fo,ig,ij,dm⟩:b6)]).map b6.enc:=⟨_,rfl⟩
    rw[←Qz];exact Fg.ca [4,10,18,72,73,74] (nn [10,10,7,18,51,70,14,85]) rfl (by cbv)
   ·rw[if_neg h]at dJ;refine gK ?_;refine ak ⟨qd,trivial,?_⟩;rw[dJ,if_neg xd];rw[wS ah aw (v:=u) (by omega)];rw[←hz];exact Fg.ca [4,10,18,72,73,74] (nn [10,10,7,18,51,70,14,85]) rfl (by cbv)
  ·have qd:u=boxes.length:=by rw[←aC,←ag]at hd;simp at hd;omega
   refine aY ?_;refine ar rfl ?_;refine gK ?_;subst qd
   rcases dD with⟨h,-⟩|⟨-,h,-⟩|⟨-,-,v',aT,rfl,rfl⟩
   ·exact absurd he0 h
   ·exact absurd h xd
   ·have HK:v'=v:=Int.ofNat.inj (aT.symm.trans rj);subst HK;rw[hkp,Pl,←hq,←hz];refine o6 (fg (vs:=[.agg [.pv (.int .i64 k),.pv (.str jd),.c8 85 0,.c8 70 0],.pv (.int .i64 0)]) (t:=[]) [some 70,some 85] (by cbv) rfl (by cbv) rfl rfl rfl)
end Go.b8
end
section
open Go Go.Am Go.Proofs
attribute [local irreducible] Am.bp.holds bH fw bP ek
namespace Go.b8
variable {mx:Int}
open Classical
def At:PV:=.agg [.int .i64 0,.str [],.sl [] [],.sl [] []]
noncomputable def nU (kl:List cT) (sl:List Stat) (boxes:List b6) (v:Nat):PV:=.agg [.int .i64 (Int.ofNat v),.str (Ph kl v).port,.sl ((ue boxes (Int.ofNat v) boxes.length).map b6.enc) [],.sl ((tq sl v).l.map aH.enc) []]
theorem KE {c csp vv vsp r rsp f fsp t tsp:List (List PV)} {l1 l2 l3 l4 m1 m2 m3 m4:Int} {gy ksp dK ssp wrows wsp brows bsp:List (List PV)} {cl:List aL} {vl:List bz} {sl:List Stat} {kl:List cT} {boxes:List b6} {k k1 e1 i2 e2 k3 e3 e N:Int} {x:PV} (jI:c=cl.map aL.enc) (pN:vv=vl.map bz.enc) (wU:cl.length<2^32) (Hn:vl.length<2^32) (CS:∀x∈cl,x.cq.length<2^32) (AE:∀x∈vl,x.rows.length<2^16)
  (hN:N=Int.ofNat kl.length) (n0:gy=kl.map cT.enc) (AB:kl.length<2^32) (hs:dK=sl.map Stat.enc) (oa:sl.length<2^32) (jb:brows=boxes.map b6.enc) (lO:boxes.length<2^32) (vf:∀b∈boxes,og b) (yb:∀x∈sl,x.l.length<2^32∧∀y∈x.l,kL y)
  (h1:fh kl k1 e1) (h2:ib boxes i2 e2) (h3:dq cl vl boxes N sl k3 e3) (he:e=wW e1 e2 e3 N k) (Md:e≠0→x=At) (LH:e=0→x=nU kl sl boxes k.toNat):
  pC mx 22 [.agg [.sl c csp,.sl vv vsp,.int .i64 l1,.int .i64 l2,.int .i64 l3,.int .i64 l4,.sl r rsp,.sl f fsp,.sl t tsp,.int .i64 m1,.int .i64 m2,.int .i64 m3,.int .i64 m4],.sl gy ksp,.sl brows bsp,.agg [.sl dK ssp,.sl wrows wsp],.int .i64 k] (.eN [x,.int .i64 e]):=by
 have Sz:gy.length=kl.length:=by simp[n0]
 have KD:brows.length=boxes.length:=by simp[jb]
 have SA:dK.length=sl.length:=by simp[hs]
 have VS:∀x∈vl,x.rows.length<2^32:=fun x hx=>by have:=AE x hx;omega
 refine pZ U3 ?_
 iterate 105 intro _
 intro yR
 iterate 9 intro _
 intro b7 dF bJ bX _ _ _ aw _ ah aI aQ aJ aP aB aU aV bC bA ag aC;refine gK ?_;refine ao (by cbv) (Cy n0 AB h1) (fun h=>by first|rfl|cases h) ?_;refine gK ?_;refine ao (by cbv) (Cl jb h2) (fun h=>by first|rfl|cases h) ?_;have hN':N=(kl.length:Int):=hN;refine gK ?_
 have mn:b7 gy=N:=by rw[←ag];simp[n0,hN]
 rw[mn];refine ao (by cbv) (Eo jI pN wU Hn CS AE hs oa jb lO vf yb h3) (fun h=>by first|rfl|cases h) ?_;refine gK ?_
 repeat' (first|refine gH ?_|(refine iE (fun hc=>?_) (fun hc=>?_)<;>(try simp at hc)<;>(try(exfalso;omega))))
 ·have h2:e=2:=by rw[he,wW,if_neg (by omega)]
  rw[Md (by omega),h2];refine oW (by cbv)
 ·have h2:e=2:=by rw[he,wW,if_neg (by omega)]
  rw[Md (by omega),h2];refine oW (by cbv)
 ·have h2:e=2:=by rw[he,wW,if_neg (by omega)]
  rw[Md (by omega),h2];refine oW (by cbv)
 ·have h2:e=6:=by rw[he,wW,if_pos (by omega),if_neg (by omega)]
  rw[Md (by omega),h2];refine oW (by cbv)
 ·have h2:e=6:=by rw[he,wW,if_pos (by omega),if_neg (by omega)]
  rw[Md (by omega),h2];refine oW (by cbv)
 have he3:e3=0:=by omega
 subst he3;have hz:=h3.zero
 have hsk:sl.length=kl.length:=by have:=hz.2.2.1;rw[hN]at this;exact Int.ofNat.inj this
 obtain⟨v,rj⟩:∃v,k=Int.ofNat v:=⟨k.toNat,by simp;omega⟩
 have Ma:v<kl.length:=by have hkv':k=(v:Int):=rj;omega
 have gh:v<sl.length:=by omega
 have he0:e=0:=by rw[he,wW,if_pos (by omega),if_pos (by exact⟨by omega,by omega⟩)]
 rw[LH he0,show k.toNat=v by rw[rj];rfl,he0];unfold nU;obtain⟨gI,bj⟩:∃x,kl[v]=x:=⟨_,rfl⟩
 have bG:aJ (Int.ofNat v) gy 3:=by rw[←aP,n0];exact aO (enc:=cT.enc) Ma rfl
 obtain⟨⟨jd,Ao,Ap⟩,bW⟩:∃y,gI=y:=⟨_,rfl⟩;subst bW
 have aW:aI gy (Int.ofNat v)=[.str jd,.int .i64 Ao,.int .i64 Ap]:=by rw[←aQ,n0,aN (enc:=cT.enc) Ma,bj];rfl
 obtain⟨Ac,fv⟩:∃x,sl[v]=x:=⟨_,rfl⟩
 have gw:aJ (Int.ofNat v) dK 1:=by rw[←aP,hs];exact aO (enc:=Stat.enc) gh rfl
 obtain⟨⟨Pj,Pk⟩,jF⟩:∃y,Ac=y:=⟨_,rfl⟩;subst jF
 have dV:aI dK (Int.ofNat v)=[.sl (Pj.map aH.enc) Pk]:=by rw[←aQ,hs,aN (enc:=Stat.enc) gh,fv];rfl
 have hkp:(Ph kl v).port=jd:=by rw[KC Ma,bj]
 have Pl:(tq sl v).l=Pj:=by rw[mC gh,fv]
 have Hu:=yb _ (List.getElem_mem gh);rw[fv]at Hu;rw[hkp,Pl,←rj];obtain⟨q,hq⟩:∃q,q=Pj.map aH.enc:=⟨_,rfl⟩;rw[←hq]at dV ⊢;rw[←rj]at bG aW gw dV;refine ae bG ?_;rw[aW];refine gK ?_;refine ae gw ?_;rw[dV];refine gK ?_;refine ae ⟨by rw[←dF,hq];exact⟨by have:Pj.length<2^32:=Hu.1;simp;omega,by have:Pj.length<2^32:=Hu.1;simp;omega,ud,by simp⟩,by rw[←yR];simp⟩ ?_;rw[show bJ [] q=q by rw[←bX];simp];refine gK ?_
 refine jJ (fun v_ σ_=>if ue boxes k v_=[]then(σ_.tidy [2,4,10,18,19] (nn [10,10,7,18,54,73,20,94])).put (some 19) (.pv (.int .i64 (Int.ofNat v_)))else(((σ_.tidy [2,4,10,18,19] (nn [10,10,7,18,54,73,20,94])).put (some 19) (.pv (.int .i64 (Int.ofNat v_)))).aq 18 (.cells [.pv (.int .i64 k),.pv (.str jd),.c8 94 0,.c8 73 0])).aq 94 (.rows 9 ((ue boxes k v_).map b6.enc) 0)) boxes.length (fun _=>True) (by rw[if_pos (show ue boxes k 0=[] from rfl)];exact Fg.ca [2,4,10,18,19] (nn [10,10,7,18,54,73,20,94]) rfl (by cbv)) ?_
 intro u hu hku
 by_cases xd:ue boxes k u=[]
 ·rw[if_pos xd];refine ej ?_;refine bp.af (fun hd=>?_) (fun hd=>?_)
  ·have qd:u<boxes.length:=by rw[←aC,←ag]at hd;simp at hd;omega
   obtain⟨VU,wK⟩:∃x,boxes[u]=x:=⟨_,rfl⟩
   have sD:aJ (Int.ofNat u) brows 9:=by rw[←aP,jb];exact aO (enc:=b6.enc) qd rfl
   obtain⟨⟨lJ,ie,fj,fk,dW,fo,ig,ij,dm⟩,wL⟩:∃y,VU=y:=⟨_,rfl⟩;subst wL
   have nT:aI brows (Int.ofNat u)=[.int .i64 lJ,.str ie,.int .u8 fj,.bool fk,.int .i64 dW,.int .i64 fo,.int .i64 ig,.int .u8 ij,.bool dm]:=by rw[←aQ,jb,aN (enc:=b6.enc) qd,wK];rfl
   have dJ:=sC (k:=k) qd;rw[xd,wK,List.nil_append]at dJ;refine aY ?_;refine ae sD ?_;rw[nT];refine gK ?_;refine cU (by cbv) (su (x:=⟨lJ,ie,fj,fk,dW,fo,ig,ij,dm⟩) rfl rfl) (fun h=>?_) (fun h=>?_)<;>simp only[decide_eq_true_eq,decide_eq_false_iff_not]at h
   ·rw[if_pos h]at dJ;refine gK ?_;refine ae sD ?_;rw[nT];refine gK ?_;refine ae (by rw[←dF,←yR];simp) ?_;refine gK ?_;refine ak ⟨qd,trivial,?_⟩;rw[if_neg (by rw[dJ];simp)];rw[wS ah aw (v:=u) (by omega)];rw[dJ];rw[show bJ [] [[.int .i64 lJ,.str ie,.int .u8 fj,.bool fk,.int .i64 dW,.int .i64 fo,.int .i64 ig,.int .u8 ij,.bool dm]]=[(⟨lJ,ie,fj,fk,dW,fo,ig,ij,dm⟩:b6)].map b6.enc by rw[←bX];rfl];obtain⟨z,hz⟩:∃z,z=[(⟨lJ,ie,fj,fk,dW,fo,ig,ij,dm⟩:b6)].map b6.enc:=⟨_,rfl⟩
    rw[←hz];exact Fg.ca [2,4,10,18,19] (nn [10,10,7,18,54,73,20,94]) rfl (by cbv)
   ·rw[if_neg h]at dJ;refine gK ?_;refine ak ⟨qd,trivial,?_⟩;rw[dJ,if_pos rfl];rw[wS ah aw (v:=u) (by omega)];exact Fg.ca [2,4,10,18,19] (nn [10,10,7,18,54,73,20,94]) rfl (by cbv)
  ·have qd:u=boxes.length:=by rw[←aC,←ag]at hd;simp at hd;omega
   refine aY ?_;refine ar rfl ?_;refine gK ?_;subst qd;rw[xd,List.map_nil];refine oW (by cbv)
 ·rw[if_neg xd];obtain⟨z,hz⟩:∃z,z=(ue boxes k u).map b6.enc:=⟨_,rfl⟩
  have GI:z.length≤boxes.length:=by rw[hz,List.length_map];exact uP
  have hza:aK 9 z:=by
   rw[hz];intro r hr;obtain⟨x,-,rfl⟩:=List.mem_map.1 hr;rfl
  rw[←hz];refine ej ?_;refine bp.af (fun hd=>?_) (fun hd=>?_)
  ·have qd:u<boxes.length:=by rw[←aC,←ag]at hd;simp at hd;omega
   obtain⟨VU,wK⟩:∃x,boxes[u]=x:=⟨_,rfl⟩
   have sD:aJ (Int.ofNat u) brows 9:=by rw[←aP,jb];exact aO (enc:=b6.enc) qd rfl
   obtain⟨⟨lJ,ie,fj,fk,dW,fo,ig,ij,dm⟩,wL⟩:∃y,VU=y:=⟨_,rfl⟩;subst wL
   have nT:aI brows (Int.ofNat u)=[.int .i64 lJ,.str ie,.int .u8 fj,.bool fk,.int .i64 dW,.int .i64 fo,.int .i64 ig,.int .u8 ij,.bool dm]:=by rw[←aQ,jb,aN (enc:=b6.enc) qd,wK];rfl
   have dJ:=sC (k:=k) qd;rw[wK]at dJ;refine aY ?_;refine ae sD ?_;rw[nT];refine gK ?_;refine cU (by cbv) (su (x:=⟨lJ,ie,fj,fk,dW,fo,ig,ij,dm⟩) rfl rfl) (fun h=>?_) (fun h=>?_)<;>simp only[decide_eq_true_eq,decide_eq_false_iff_not]at h
   ·rw[if_pos h]at dJ;refine gK ?_;refine ae sD ?_;rw[nT];refine gK ?_;refine ae (by rw[←dF];simp[hza];omega) ?_;refine gK ?_;refine ak ⟨qd,trivial,?_⟩;rw[if_neg (by rw[dJ];simp)];rw[wS ah aw (v:=u) (by omega)];rw[dJ];rw[show bJ z [[.int .i64 lJ,.str ie,.int .u8 fj,.bool fk,.int .i64 dW,.int .i64 fo,.int .i64 ig,.int .u8 ij,.bool dm]]=(ue boxes k u++[(⟨lJ,ie,fj,fk,dW,fo,ig,ij,dm⟩:b6)]).map b6.enc by rw[←bX,hz];simp;rfl]
    obtain⟨z2,Qz⟩:∃z2,z2=(ue boxes k u++[(⟨lJ,ie,fj,fk,dW,fo,ig,ij,dm⟩:b6)]).map b6.enc:=⟨_,rfl⟩;rw[←Qz];exact Fg.ca [2,4,10,18,19] (nn [10,10,7,18,54,73,20,94]) rfl (by cbv)
   ·rw[if_neg h]at dJ;refine gK ?_;refine ak ⟨qd,trivial,?_⟩;rw[dJ,if_neg xd];rw[wS ah aw (v:=u) (by omega)];rw[←hz];exact Fg.ca [2,4,10,18,19] (nn [10,10,7,18,54,73,20,94]) rfl (by cbv)
  ·have qd:u=boxes.length:=by rw[←aC,←ag]at hd;simp at hd;omega
   refine aY ?_;refine ar rfl ?_;refine gK ?_;subst qd;rw[←hz];refine oW (by cbv)
end Go.b8
end
