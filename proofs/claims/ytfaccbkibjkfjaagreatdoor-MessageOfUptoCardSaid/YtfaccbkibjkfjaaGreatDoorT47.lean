import Derived.Test.YtfaccbkibjkfjaaGreatDoorT07
import Derived.Test.YtfaccbkibjkfjaaGreatDoorT10
import Derived.Test.YtfaccbkibjkfjaaGreatDoorT15
import Derived.Test.YtfaccbkibjkfjaaGreatDoorT41
import Derived.Test.YtfaccbkibjkfjaaGreatDoorT13
import Derived.Test.YtfaccbkibjkfjaaGreatDoorT11
import Derived.Test.YtfaccbkibjkfjaaGreatDoorT12
set_option linter.all false
set_option maxRecDepth 100000
set_option maxHeartbeats 1000000
section
open Go Go.Am Go.Proofs
namespace Go.b8
theorem dx {B:Nat} {k:IntKind} {ss:List Sh} {ps:List PV} (h:iR B (.i k::ss) ps):∃n r,ps=.int k n::r∧(Lit.int k n).wf=true∧iR B ss r:=by
 simp only[iR,K9]at h;obtain⟨p,r,rfl,⟨n,rfl,hn⟩,h⟩:=h;exact⟨n,r,rfl,hn,h⟩
theorem Eu {B:Nat} {ss:List Sh} {ps:List PV} (h:iR B (.b::ss) ps):∃n r,ps=.bool n::r∧iR B ss r:=by
 simp only[iR,K9]at h;obtain⟨p,r,rfl,⟨n,rfl⟩,h⟩:=h;exact⟨n,r,rfl,h⟩
theorem KI {B:Nat} {ss:List Sh} {ps:List PV} (h:iR B (.s::ss) ps):∃n r,ps=.str n::r∧n.length≤B∧iR B ss r:=by
 simp only[iR,K9]at h;obtain⟨p,r,rfl,⟨n,rfl,hn⟩,h⟩:=h;exact⟨n,r,rfl,hn,h⟩
theorem qe {B:Nat} {row ss:List Sh} {ps:List PV} (h:iR B (.l row::ss) ps):∃rows sp r,ps=.sl rows sp::r∧rows.length≤B∧(∀x∈rows,iR B row x)∧iR B ss r:=by
 simp only[iR,K9]at h;obtain⟨p,r,rfl,⟨rows,sp,rfl,h1,h2,h3⟩,h⟩:=h;exact⟨rows,sp,r,rfl,by omega,h2,h⟩
theorem kO {B:Nat} {ps:List PV} (h:iR B [] ps):ps=[]:=by simpa only[iR]using h
theorem rowsOf {B:Nat} {sh:List Sh} {α:Type} {enc:α→List PV} {Q:α→Prop} (h:∀ps,iR B sh ps→∃x,ps=enc x∧Q x):∀{rows:List (List PV)},(∀r∈rows,iR B sh r)→∃l:List α,rows=l.map enc∧∀x∈l,Q x
 |[],_=>⟨[],rfl,fun _ hx=>by cases hx⟩
 |r::rows,hr=>by
  obtain⟨x,rfl,hx⟩:=h r (hr r (by simp));obtain⟨l,rfl,hl⟩:=rowsOf h (rows:=rows) (fun y hy=>hr y (by simp[hy]))
  exact⟨x::l,rfl,fun y hy=>by
   rcases List.mem_cons.1 hy with rfl|hy
   ·exact hx
   ·exact hl y hy⟩
theorem Av {B:Nat} {rows:List (List PV)} (h:∀r∈rows,iR B [.i .i64] r):∃l:List Int,rows=ints l:=by
 obtain⟨l,rfl,-⟩:=rowsOf (enc:=fun p:Int=>[PV.int .i64 p]) (Q:=fun _=>True) (fun ps h=>by
  obtain⟨n,r,rfl,-,h⟩:=dx h;obtain rfl:=kO h
  exact⟨n,rfl,trivial⟩) h
 exact⟨l,rfl⟩
abbrev lP:Sh:=.i .i64
abbrev SD:List Sh:=[lP,lP,.b,lP,lP,lP,lP,lP,.l [lP],lP,lP,lP]
abbrev SE:List Sh:=[lP,.l [lP]]
abbrev KJ:List Sh:=[lP,lP,lP,lP,lP]
abbrev KK:List Sh:=[lP,lP,lP,lP,lP,.l [lP]]
abbrev CG:List Sh:=[lP,.s,.i .u8,.b,lP,lP,lP,.i .u8,.b]
abbrev Ew:List Sh:=[lP,lP,lP,.i .u8]
abbrev Ey:List Sh:=[.l SD,.l SE,lP,lP,lP,lP,.l KJ,.l KJ,.l KK,lP,lP,lP,lP]
abbrev PQ:List Sh:=[lP,.s,.l CG,.l Ew]
theorem pz {n:Int} (h:(Lit.int .i64 n).wf=true):Lc n:=by
 simp only[Lit.wf,Bool.and_eq_true,decide_eq_true_eq]at h
 have h1:IntKind.i64.min= -9223372036854775808:=by rfl
 have h2:IntKind.i64.max=9223372036854775807:=by rfl
 rw[h1,h2]at h;unfold Lc;omega
theorem KL {n:Int} (h:(Lit.int .u8 n).wf=true):0≤n∧n<256:=by
 simp only[Lit.wf,Bool.and_eq_true,decide_eq_true_eq]at h
 have h1:IntKind.u8.min=0:=by rfl
 have h2:IntKind.u8.max=255:=by rfl
 rw[h1,h2]at h;omega
theorem abV {B:Nat} {ps:List PV} (h:iR B SD ps):∃x:aL,ps=x.enc∧x.cq.length≤B:=by
 obtain⟨n1,_,rfl,-,h⟩:=dx h;obtain⟨n2,_,rfl,-,h⟩:=dx h;obtain⟨n3,_,rfl,hq3⟩:=Eu h
 replace h:=hq3
 obtain⟨n4,_,rfl,-,h⟩:=dx h;obtain⟨n5,_,rfl,-,h⟩:=dx h;obtain⟨n6,_,rfl,-,h⟩:=dx h;obtain⟨n7,_,rfl,-,h⟩:=dx h;obtain⟨n8,_,rfl,-,h⟩:=dx h;obtain⟨rows,sp,_,rfl,hb,hr,h⟩:=qe h;obtain⟨n9,_,rfl,-,h⟩:=dx h;obtain⟨n10,_,rfl,-,h⟩:=dx h;obtain⟨n11,_,rfl,-,h⟩:=dx h;obtain rfl:=kO h;obtain⟨l,rfl⟩:=Av hr;exact⟨⟨n1,n2,n3,n4,n5,n6,n7,n8,l,sp,n9,n10,n11⟩,rfl,by simpa[ints]using hb⟩
theorem abW {B:Nat} {ps:List PV} (h:iR B SE ps):∃x:bz,ps=x.enc∧x.rows.length≤B:=by
 obtain⟨n1,_,rfl,-,h⟩:=dx h;obtain⟨rows,sp,_,rfl,hb,hr,h⟩:=qe h;obtain rfl:=kO h;obtain⟨l,rfl⟩:=Av hr;exact⟨⟨n1,l,sp⟩,rfl,by simpa[ints]using hb⟩
theorem rowOf {B:Nat} {ps:List PV} (h:iR B KJ ps):∃x:Row,ps=x.enc∧True:=by
 obtain⟨n1,_,rfl,-,h⟩:=dx h;obtain⟨n2,_,rfl,-,h⟩:=dx h;obtain⟨n3,_,rfl,-,h⟩:=dx h;obtain⟨n4,_,rfl,-,h⟩:=dx h;obtain⟨n5,_,rfl,-,h⟩:=dx h;obtain rfl:=kO h;exact⟨⟨n1,n2,n3,n4,n5⟩,rfl,trivial⟩
theorem V6 {B:Nat} {ps:List PV} (h:iR B KK ps):∃x:eg,ps=x.enc∧x.steps.length≤B:=by
 obtain⟨n1,_,rfl,-,h⟩:=dx h;obtain⟨n2,_,rfl,-,h⟩:=dx h;obtain⟨n3,_,rfl,-,h⟩:=dx h;obtain⟨n4,_,rfl,-,h⟩:=dx h;obtain⟨n5,_,rfl,-,h⟩:=dx h;obtain⟨rows,sp,_,rfl,hb,hr,h⟩:=qe h;obtain rfl:=kO h;obtain⟨l,rfl⟩:=Av hr;exact⟨⟨n1,n2,n3,n4,n5,l,sp⟩,rfl,by simpa[ints]using hb⟩
theorem SF {B:Nat} {ps:List PV} (h:iR B CG ps):∃x:b6,ps=x.enc∧og x:=by
 obtain⟨n1,_,rfl,w1,h⟩:=dx h;obtain⟨n2,_,rfl,-,h⟩:=KI h;obtain⟨n3,_,rfl,w3,h⟩:=dx h;obtain⟨n4,_,rfl,hq4⟩:=Eu h
 replace h:=hq4
 obtain⟨n5,_,rfl,w5,h⟩:=dx h;obtain⟨n6,_,rfl,w6,h⟩:=dx h;obtain⟨n7,_,rfl,w7,h⟩:=dx h;obtain⟨n8,_,rfl,w8,h⟩:=dx h;obtain⟨n9,_,rfl,hq9⟩:=Eu h
 replace h:=hq9
 obtain rfl:=kO h;exact⟨⟨n1,n2,n3,n4,n5,n6,n7,n8,n9⟩,rfl,KL w3,KL w8,pz w1,pz w5,pz w6,pz w7⟩
theorem KN {B:Nat} {ps:List PV} (h:iR B Ew ps):∃x:aH,ps=x.enc∧kL x:=by
 obtain⟨n1,_,rfl,w1,h⟩:=dx h;obtain⟨n2,_,rfl,w2,h⟩:=dx h;obtain⟨n3,_,rfl,w3,h⟩:=dx h;obtain⟨n4,_,rfl,w4,h⟩:=dx h;obtain rfl:=kO h;exact⟨⟨n1,⟨n2,n3,n4⟩⟩,rfl,pz w1,pz w2,pz w3,KL w4⟩
theorem V7 {ps:List PV} (h:iR 1048576 Ey ps):∃(c csp vv vsp r rsp f fsp t tsp:List (List PV)) (l1 l2 l3 l4 m1 m2 m3 m4:Int) (cl:List aL) (vl:List bz) (rl fl:List Row) (tl:List eg),
  ps=[.sl c csp,.sl vv vsp,.int .i64 l1,.int .i64 l2,.int .i64 l3,.int .i64 l4,.sl r rsp,.sl f fsp,.sl t tsp,.int .i64 m1,.int .i64 m2,.int .i64 m3,.int .i64 m4]∧wk c vv r f t cl vl rl fl tl:=by
 obtain⟨c,csp,_,rfl,bc,hc,h⟩:=qe h;obtain⟨vv,vsp,_,rfl,bv,hv,h⟩:=qe h;obtain⟨l1,_,rfl,-,h⟩:=dx h;obtain⟨l2,_,rfl,-,h⟩:=dx h;obtain⟨l3,_,rfl,-,h⟩:=dx h;obtain⟨l4,_,rfl,-,h⟩:=dx h;obtain⟨r,rsp,_,rfl,br,hr,h⟩:=qe h;obtain⟨f,fsp,_,rfl,bf,hf,h⟩:=qe h;obtain⟨t,tsp,_,rfl,bt,ht,h⟩:=qe h;obtain⟨m1,_,rfl,-,h⟩:=dx h;obtain⟨m2,_,rfl,-,h⟩:=dx h;obtain⟨m3,_,rfl,-,h⟩:=dx h;obtain⟨m4,_,rfl,-,h⟩:=dx h;obtain rfl:=kO h
 obtain⟨cl,rfl,uy⟩:=rowsOf (fun ps=>abV) hc;obtain⟨vl,rfl,rB⟩:=rowsOf (fun ps=>abW) hv;obtain⟨rl,rfl,-⟩:=rowsOf (fun ps=>rowOf) hr;obtain⟨fl,rfl,-⟩:=rowsOf (fun ps=>rowOf) hf;obtain⟨tl,rfl,X0⟩:=rowsOf (fun ps=>V6) ht;simp only[List.length_map]at bc bv br bf bt
 exact⟨_,csp,_,vsp,_,rsp,_,fsp,_,tsp,l1,l2,l3,l4,m1,m2,m3,m4,cl,vl,rl,fl,tl,rfl,rfl,rfl,rfl,rfl,rfl,by omega,by omega,by omega,by omega,by omega,
  fun x hx=>by have:=uy x hx;omega,fun x hx=>by have:=rB x hx;omega,fun x hx=>by have:=X0 x hx;omega⟩
theorem sheetOf {ps:List PV} (h:iR 1048576 PQ ps):∃(call:Int) (port:List UInt8) (brows bsp rows sp:List (List PV)) (boxes:List b6) (l:List aH),
  ps=[.int .i64 call,.str port,.sl brows bsp,.sl rows sp]∧Lc call∧brows=boxes.map b6.enc∧rows=l.map aH.enc∧(∀b∈boxes,og b)∧(∀x∈l,kL x):=by
 obtain⟨call,_,rfl,w1,h⟩:=dx h;obtain⟨port,_,rfl,-,h⟩:=KI h;obtain⟨brows,bsp,_,rfl,bb,hb,h⟩:=qe h;obtain⟨rows,sp,_,rfl,br,hr,h⟩:=qe h;obtain rfl:=kO h;obtain⟨boxes,rfl,hbx⟩:=rowsOf (fun ps=>SF) hb;obtain⟨l,rfl,hl⟩:=rowsOf (fun ps=>KN) hr;exact⟨call,port,_,bsp,_,sp,boxes,l,rfl,pz w1,rfl,rfl,hbx,hl⟩
end Go.b8
end
section
open Go Go.Am Go.Proofs
namespace Go.b8
abbrev Aw:List Sh:=[.s,lP,lP]
abbrev KO:List Sh:=[.l Ew]
abbrev SG:List Sh:=[.l [lP]]
abbrev Ez:List Sh:=[.l KO,.l SG]
theorem V8 {B:Nat} {ps:List PV} (h:iR B Aw ps):∃x:cT,ps=x.enc∧True:=by
 obtain⟨n1,_,rfl,-,h⟩:=KI h;obtain⟨n2,_,rfl,-,h⟩:=dx h;obtain⟨n3,_,rfl,-,h⟩:=dx h;obtain rfl:=kO h;exact⟨⟨n1,n2,n3⟩,rfl,trivial⟩
theorem statOf {B:Nat} {ps:List PV} (h:iR B KO ps):∃x:Stat,ps=x.enc∧x.l.length≤B∧∀y∈x.l,kL y:=by
 obtain⟨rows,sp,_,rfl,hb,hr,h⟩:=qe h;obtain rfl:=kO h;obtain⟨l,rfl,hl⟩:=rowsOf (fun ps=>KN) hr;exact⟨⟨l,sp⟩,rfl,by simpa using hb,hl⟩
theorem abX {B:Nat} {ps:List PV} (h:iR B SG ps):∃x:jD,ps=x.enc∧x.l.length≤B:=by
 obtain⟨rows,sp,_,rfl,hb,hr,h⟩:=qe h;obtain rfl:=kO h;obtain⟨l,rfl⟩:=Av hr;exact⟨⟨l,sp⟩,rfl,by simpa[ints]using hb⟩
theorem V9 {ps:List PV} (h:iR 1048576 Ez ps):∃(dK ssp wrows wsp:List (List PV)) (sl:List Stat) (wl:List jD),ps=[.sl dK ssp,.sl wrows wsp]∧dK=sl.map Stat.enc∧wrows=wl.map jD.enc∧sl.length<2^32∧wl.length<2^32∧(∀x∈sl,x.l.length<2^32)∧(∀x∈sl,∀y∈x.l,kL y)∧∀x∈wl,x.l.length<2^32:=by
 obtain⟨s,ssp,_,rfl,bs,hs,h⟩:=qe h;obtain⟨w,wsp,_,rfl,bw,hw,h⟩:=qe h;obtain rfl:=kO h;obtain⟨sl,rfl,oa⟩:=rowsOf (fun ps=>statOf) hs;obtain⟨wl,rfl,xG⟩:=rowsOf (fun ps=>abX) hw;simp only[List.length_map]at bs bw;exact⟨_,ssp,_,wsp,sl,wl,rfl,rfl,rfl,by omega,by omega,fun x hx=>by have:=(oa x hx).1;omega,fun x hx=>(oa x hx).2,fun x hx=>by have:=xG x hx;omega⟩
theorem PR {ps:List PV} (h:iR 1048576 [.l Aw] ps):∃(rows sp:List (List PV)) (l:List cT),ps=[.sl rows sp]∧rows=l.map cT.enc∧l.length<2^32:=by
 obtain⟨s,ssp,_,rfl,bs,hs,h⟩:=qe h;obtain rfl:=kO h;obtain⟨l,rfl,-⟩:=rowsOf (fun ps=>V8) hs;simp only[List.length_map]at bs;exact⟨_,ssp,l,rfl,rfl,by omega⟩
theorem PS {ps:List PV} (h:iR 1048576 [.l CG] ps):∃(rows sp:List (List PV)) (l:List b6),ps=[.sl rows sp]∧rows=l.map b6.enc∧l.length<2^32∧∀b∈l,og b:=by
 obtain⟨s,ssp,_,rfl,bs,hs,h⟩:=qe h;obtain rfl:=kO h;obtain⟨l,rfl,hl⟩:=rowsOf (fun ps=>SF) hs;simp only[List.length_map]at bs;exact⟨_,ssp,l,rfl,rfl,by omega,hl⟩
theorem intOf {B:Nat} {ps:List PV} (h:iR B [lP] ps):∃n,ps=[.int .i64 n]:=by
 obtain⟨n,_,rfl,-,h⟩:=dx h;obtain rfl:=kO h;exact⟨n,rfl⟩
end Go.b8
end
section
open Go Go.Am Go.Proofs
attribute [local irreducible] Am.bp.holds bH fw bP ek
namespace Go.b8
variable {mx:Int}
open Classical
theorem own_ok {rows sp brows bsp RM BM:List (List PV)} {l:List aH} {boxes:List b6} {call:Int} {port:List UInt8} (eS:rows=l.map aH.enc) (jb:brows=boxes.map b6.enc) (hl:l.length<2^32) (lO:boxes.length<2^32) (hRM:RM=((List.range 12).map aH.mark).map aH.enc) (Xd:BM=((List.range 12).map b6.mark).map b6.enc):
  pC mx 47 [.agg [.int .i64 call,.str port,.sl brows bsp,.sl rows sp]] (.agg [.int .i64 call,.str port,.sl brows BM,.sl rows RM]):=by
 refine pZ Ut ?_
 iterate 129 intro _
 intro aB aU aV bC bA ag aC;refine gK ?_;refine bF (by cbv) (show bE _ _ _ [.sl brows bsp] (.sl brows BM) by rw[Xd];exact sa jb lO) (fun h=>by first|rfl|cases h) ?_;refine gK ?_;refine bF (by cbv) (show bE _ _ _ [.sl rows sp] (.sl rows RM) by rw[hRM];exact o9 eS hl) (fun h=>by first|rfl|cases h) ?_;refine gK ?_;refine aX ?_;rfl
theorem uQ {rows sp ta brows bsp bsp':List (List PV)} {l:List aH} {boxes:List b6} {call:Int} {port:List UInt8} (eS:rows=l.map aH.enc) (jb:brows=boxes.map b6.enc) (hl:l.length<2^32) (lO:boxes.length<2^32):
  pC mx 23 [.agg [.int .i64 call,.str port,.sl brows bsp,.sl rows sp],.agg [.int .i64 call,.str port,.sl brows bsp',.sl rows ta]] (.bool true):=by
 refine pZ Jc ?_
 iterate 129 intro _
 intro aB aU aV bC bA ag aC;refine gK ?_;refine zhT ?_;refine aY ?_;refine zhT ?_;refine aY ?_;refine ao (by cbv) (zI jb lO) (fun h=>by first|rfl|cases h) ?_;refine gK ?_;refine ao (by cbv) (lF eS hl) (fun h=>by first|rfl|cases h) ?_;refine gK ?_;refine aX ?_;rfl
theorem kept_ok {rows sp brows bsp RM BM:List (List PV)} {l:List aH} {boxes:List b6} {call:Int} {port:List UInt8} (eS:rows=l.map aH.enc) (jb:brows=boxes.map b6.enc) (hl:l.length<2^32) (lO:boxes.length<2^32) (hRM:RM=((List.range 12).map aH.mark).map aH.enc) (Xd:BM=((List.range 12).map b6.mark).map b6.enc):
  pC mx 50 [.agg [.int .i64 call,.str port,.sl brows BM,.sl rows RM],.agg [.int .i64 call,.str port,.sl brows bsp,.sl rows sp]] (.bool true):=by
 refine pZ Us ?_
 iterate 129 intro _
 intro aB aU aV bC bA ag aC;refine gK ?_;refine ao (by cbv) (uQ eS jb hl lO) (fun h=>by first|rfl|cases h) ?_;refine gK ?_;refine ao (by cbv) (sc jb Xd lO) (fun h=>by first|rfl|cases h) ?_;refine gK ?_;refine ao (by cbv) (pd eS hRM hl) (fun h=>by first|rfl|cases h) ?_;refine gK ?_;refine aX ?_;rfl
def Few (c:List aL) (v:List bz) (boxes:List b6) (l:List aH):Prop:=(c.length≤20∧v.length≤20∧boxes.length≤40∧l.length≤30)∧(∀i,(h:i<c.length)→c[i].cq.length≤12∧c[i].dv≤12)∧∀i,(h:i<v.length)→v[i].rows.length≤40
theorem Wa {c csp vv vsp r rsp f fsp t tsp:List (List PV)} {l1 l2 l3 l4 m1 m2 m3 m4:Int} {rows sp brows bsp:List (List PV)} {cl:List aL} {vl:List bz} {l:List aH} {boxes:List b6} {res:Bool} (jI:c=cl.map aL.enc) (pN:vv=vl.map bz.enc) (eS:rows=l.map aH.enc) (jb:brows=boxes.map b6.enc) (hr:res=decide (Few cl vl boxes l)):
  pC mx 11 [.agg [.sl c csp,.sl vv vsp,.int .i64 l1,.int .i64 l2,.int .i64 l3,.int .i64 l4,.sl r rsp,.sl f fsp,.sl t tsp,.int .i64 m1,.int .i64 m2,.int .i64 m3,.int .i64 m4],.sl brows bsp,.sl rows sp] (.bool res):=by
 have Su:c.length=cl.length:=by simp[jI]
 have Kf:vv.length=vl.length:=by simp[pN]
 have Gd:rows.length=l.length:=by simp[eS]
 have KD:brows.length=boxes.length:=by simp[jb]
 refine pZ UF ?_
 iterate 122 intro _
 intro aw _ ah aI aQ aJ aP aB aU aV bC bA ag aC;refine gK ?_
 repeat' (first|refine gH ?_|(refine iE (fun hc=>?_) (fun hc=>?_)<;>(try simp at hc)<;>(try(exfalso;omega))))
 all_goals try(refine aX ?_;exact fa hr (fun h=>by have:=h.1;omega))
 have Ef:cl.length≤20∧vl.length≤20∧boxes.length≤40∧l.length≤30:=by omega
 refine bQ [3,32,33,34] (nn [3,3]) (fun v σ_=>σ_.put (some 34) (.pv (.int .i64 (Int.ofNat v)))) (cl.length) (fun k=>(∀h:k<cl.length,cl[k].cq.length≤12∧cl[k].dv≤12)) ?_;intro v hv hk;refine ej ?_;refine bp.af (fun hd=>?_) (fun hd=>?_)
 ·have aT:v<cl.length:=by rw[←aC,←ag]at hd;simp at hd;omega
  obtain⟨gI,bj⟩:∃x,cl[v]=x:=⟨_,rfl⟩
  have bG:aJ (Int.ofNat v) c 12:=by rw[←aP,jI];exact aO (enc:=aL.enc) aT rfl
  obtain⟨⟨dU,jE,gJ,eI,eB,kx,ky,ia,dw,kz,pn,po,pq⟩,bW⟩:∃y,gI=y:=⟨_,rfl⟩;subst bW
  have aW:aI c (Int.ofNat v)=[.int .i64 dU,.int .i64 jE,.bool gJ,.int .i64 eI,.int .i64 eB,.int .i64 kx,.int .i64 ky,.int .i64 ia,.sl (ints dw) kz,.int .i64 pn,.int .i64 po,.int .i64 pq]:=by rw[←aQ,jI,aN (enc:=aL.enc) aT,bj];rfl
  obtain⟨wV,gL⟩:∃p,p=ints dw:=⟨_,rfl⟩
  have xT:wV.length=dw.length:=by simp[gL,ints]
  rw[←gL]at aW
  have bad:¬(dw.length≤12∧eI≤12)→¬Few cl vl boxes l:=fun h h'=>h (by have:=h'.2.1 v aT;rw[bj]at this;exact this)
  refine aY ?_;refine ae bG ?_;rw[aW];refine gK ?_
  repeat' (first|refine gH ?_|(refine iE (fun hc=>?_) (fun hc=>?_)<;>(try simp at hc)<;>(try(exfalso;omega))))
  all_goals first
   |(refine dS ?_;exact fa hr (bad (by omega)))
   |(refine ak ⟨aT,fun _=>by rw[bj];dsimp only;omega,?_⟩
     rw[wS ah aw (v:=v) (by omega)]
     cbv)
 ·have aT:v=cl.length:=by rw[←aC,←ag]at hd;simp at hd;omega
  have Cs:∀i,(h:i<cl.length)→cl[i].cq.length≤12∧cl[i].dv≤12:=fun i h=>hk i (by omega) h
  refine aY ?_;refine ar rfl ?_;refine gK ?_;refine bQ [3,49,50,51] (nn [3,3]) (fun v σ_=>σ_.put (some 51) (.pv (.int .i64 (Int.ofNat v)))) (vl.length) (fun k=>(∀h:k<vl.length,vl[k].rows.length≤40)) ?_;intro v hv hk;refine ej ?_;refine bp.af (fun um=>?_) (fun um=>?_)
  ·have gh:v<vl.length:=by rw[←aC,←ag]at um;simp at um;omega
   obtain⟨gI,bj⟩:∃x,vl[v]=x:=⟨_,rfl⟩
   have bG:aJ (Int.ofNat v) vv 2:=by rw[←aP,pN];exact aO (enc:=bz.enc) gh rfl
   obtain⟨⟨dU,cW,oe⟩,bW⟩:∃y,gI=y:=⟨_,rfl⟩;subst bW
   have aW:aI vv (Int.ofNat v)=[.int .i64 dU,.sl (ints cW) oe]:=by rw[←aQ,pN,aN (enc:=bz.enc) gh,bj];rfl
   obtain⟨wV,gL⟩:∃p,p=ints cW:=⟨_,rfl⟩
   have xT:wV.length=cW.length:=by simp[gL,ints]
   rw[←gL]at aW
   have bad:¬(cW.length≤40)→¬Few cl vl boxes l:=fun h h'=>h (by have:=h'.2.2 v gh;rw[bj]at this;exact this)
   refine aY ?_;refine ae bG ?_;rw[aW];refine gK ?_;refine bp.af (fun h4=>?_) (fun h4=>?_)
   ·replace h4:=eE h4
    refine aY ?_;refine dS ?_;exact fa hr (bad (by omega))
   ·replace h4:=eE h4
    refine aY ?_;refine ak ⟨gh,fun _=>by rw[bj];dsimp only;omega,?_⟩;rw[wS ah aw (v:=v) (by omega)]
    cbv
  ·have gh:v=vl.length:=by rw[←aC,←ag]at um;simp at um;omega
   refine aY ?_;refine ar rfl ?_;refine gK ?_;refine aX ?_;exact tr hr ⟨Ef,Cs,fun i h=>hk i (by omega) h⟩
end Go.b8
end
