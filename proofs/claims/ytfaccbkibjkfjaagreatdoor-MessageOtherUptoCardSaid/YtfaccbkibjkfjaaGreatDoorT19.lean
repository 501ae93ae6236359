import Derived.Test.YtfaccbkibjkfjaaGreatDoorT12
import Derived.Test.YtfaccbkibjkfjaaGreatDoorT10
import Derived.Test.YtfaccbkibjkfjaaGreatDoorT07
import Derived.Test.YtfaccbkibjkfjaaGreatDoorT08
import Derived.Test.YtfaccbkibjkfjaaGreatDoorT11
import Derived.Test.YtfaccbkibjkfjaaGreatDoorT15
import Derived.Test.YtfaccbkibjkfjaaGreatDoorT17
set_option linter.all false
set_option maxRecDepth 100000
set_option maxHeartbeats 1000000
section
open Go Go.Am
namespace Go.bt
open Classical
section
variable {cl:List aL} {vl:List bz} {boxes:List bw}
def wM (cl:List aL) (vl:List bz) (boxes:List bw) (l:List aH):Prop:=l=[]∨gC cl vl boxes l
theorem Hu {was:List aH} {k tier:Int} {l:List aH} {b:bw} (h:wM cl vl boxes l):wM cl vl boxes (kq cl vl boxes was k tier l b):=by
 unfold kq;split
 ·split
  ·rename_i h';exact .inr h'.2.2.2
  ·exact h
 ·exact h
theorem JN {α β:Type} {P:β→Prop} {f:β→α→β} (hf:∀b a,P b→P (f b a)):∀{l:List α} {b:β},P b→P (l.foldl f b)
 |[],_,h=>h
 |a::l,b,h=>JN hf (l:=l) (hf b a h)
theorem Ca {was:List aH} {k tier:Int} {l:List aH} {v:Nat} (h:wM cl vl boxes l):wM cl vl boxes (sc cl vl boxes was k tier l v):=
 JN (P:=wM cl vl boxes) (fun _ _ h=>Hu h) h
theorem qu {was:List aH} {k:Int}:∀{t:Nat},wM cl vl boxes (pS cl vl boxes was k t)
 |0=>.inl rfl
 |t+1=>Ca (qu (t:=t))
theorem Cb {l r:List aH} {id rk:Int}:∀{s:List Slot},sf cl vl boxes l id rk s=some r→gC cl vl boxes r
 |[],h=>by simp[sf]at h
 |x::s,h=>by
  unfold sf at h;split at h
  ·rename_i h';rw[←qa9 h];exact h'.2
  ·exact Cb h
theorem zQ {l r:List aH} {id size home:Int}:∀{t:Nat},iK cl vl boxes l id size home t=some r→gC cl vl boxes r
 |0,h=>by simp[iK]at h
 |t+1,h=>by
  unfold iK at h;split at h
  ·rename_i r' h';rw[←qa9 h];exact zQ h'
  ·exact Cb h
theorem KC {home:Int→Int} {k:Int} {l r:List aH} {b:bw} (h:wM cl vl boxes l) (hp:pU cl vl boxes home k l b=.inl r):wM cl vl boxes r:=by
 unfold pU at hp;split at hp
 ·rw[←qbs hp];exact h
 ·split at hp
  ·rename_i r' h';rw[←qbs hp];exact .inr (zQ h')
  ·cases hp
theorem uR {home:Int→Int} {k:Int} {l:List aH} (h:wM cl vl boxes l):∀{v:Nat} {r:List aH},iI cl vl boxes home k l v=.inl r→wM cl vl boxes r
 |0,r,hp=>by unfold iI at hp;rw[←qbs hp];exact h
 |v+1,r,hp=>by
  unfold iI at hp;split at hp
  ·rename_i l' b h1 h2;exact KC (uR h h1) hp
  ·rename_i l' h1 h2;rw[←qbs hp];exact uR h h1
  ·cases hp
theorem s5 {home:Int→Int}:∀{k:Nat} {L:List (List aH)},fj cl vl boxes home k=.inl L→L.length=k∧∀l∈L,wM cl vl boxes l
 |0,L,h=>by
  unfold fj at h;rw[←qbs h];exact⟨rfl,fun l h=>by cases h⟩
 |k+1,L,h=>by
  unfold fj at h;split at h
  ·rename_i L' h1;split at h
   ·rename_i l h2;obtain⟨h3,h4⟩:=s5 h1;rw[←qbs h];refine⟨by simp[h3],fun x hx=>?_⟩
    rcases qav.1 hx with hx|hx
    ·exact h4 x hx
    ·rw[qaO]at hx;subst hx;exact uR qu h2
   ·cases h
  ·cases h
end
end Go.bt
end
section
open Go Go.Am
namespace Go.bt
open Classical
section
variable {cl:List aL} {vl:List bz} {boxes:List bw}
theorem Mo {l:List aH} (h:wM cl vl boxes l):∀i j (hj:j<l.length) (ot:i<j),(l[i]'(by omega)).box<l[j].box:=by
 intro i j hj ot
 rcases h with rfl|h
 ·simp at hj
 ·exact((h.2.1 j hj hj).2.2 i ot).1
theorem xx {l:List aH} (h:wM cl vl boxes l) (hb:∀b∈boxes,og b) (uy:cl.length<2^32) (Iw:∀x∈cl,x.dv<2^32):∀x∈l,kL x:=by
 intro x hx
 rcases h with rfl|h
 ·cases hx
 ·obtain⟨i,hi,rfl⟩:=qaI hx;obtain⟨⟨b,hbx,⟨h1,h2,h3,h4⟩,h5⟩,-⟩:=h.2.1 i hi hi
  have hid:b.id=l[i].box:=by have:=qdx hbx;simpa using this
  have vf:=hb b (qbV hbx)
  have hc:l[i].slot.column.toNat<cl.length:=by omega
  have h6:=h4 hc;have h7:=Iw _ (qaf hc);refine⟨by rw[←hid];exact vf.2.2.1,?_,?_,?_⟩
  ·unfold Lc;omega
  ·unfold Lc;omega
  ·omega
theorem CI {α:Type} {p q:α→Bool} (h:∀x,¬(p x=true∧q x=true)):∀l:List α,(l.filter p).length+(l.filter q).length≤l.length
 |[]=>by simp
 |x::l=>by
  have ih:=CI h l;have hx:=h x;simp only[qcp]
  split<;>split<;>simp only[qaq]<;>first|omega|(exfalso;exact hx ⟨by assumption,by assumption⟩)
theorem xy {l:List aH} {x:aH}:(nP l x).length≤l.length+1:=by
 have:=CI (p:=fun y:aH=>decide (y.box<x.box)) (q:=fun y:aH=>decide (x.box<y.box)) (fun y h=>by simp at h;omega) l;simp only[nP,qal,qaq,qaD];omega
theorem KE {was:List aH} {k tier:Int} {l:List aH} {b:bw}:(kq cl vl boxes was k tier l b).length≤l.length+1:=by
 unfold kq;split
 ·split
  ·exact xy
  ·omega
 ·omega
theorem Cc {was:List aH} {k tier:Int} {l:List aH} {v:Nat} (h:v<boxes.length):sc cl vl boxes was k tier l (v+1)=kq cl vl boxes was k tier (sc cl vl boxes was k tier l v) boxes[v]:=by
 unfold sc;rw[qan h,qcI];rfl
theorem yu {was:List aH} {k tier:Int} {l:List aH}:∀{v:Nat},v≤boxes.length→(sc cl vl boxes was k tier l v).length≤l.length+v
 |0,_=>by simp[sc]
 |v+1,h=>by
  rw[Cc (by omega)];have h1:=yu (was:=was) (k:=k) (tier:=tier) (l:=l) (v:=v) (by omega);have h2:=KE (cl:=cl) (vl:=vl) (boxes:=boxes) (was:=was) (k:=k) (tier:=tier) (l:=sc cl vl boxes was k tier l v) (b:=boxes[v]);omega
theorem sk {was:List aH} {k:Int}:∀{t:Nat},(pS cl vl boxes was k t).length≤t*boxes.length
 |0=>by simp[pS]
 |t+1=>by
  unfold pS;have h1:=yu (cl:=cl) (vl:=vl) (boxes:=boxes) (was:=was) (k:=k) (tier:=(t:Int)) (l:=pS cl vl boxes was k t) (v:=boxes.length) (qak _);have h2:=sk (was:=was) (k:=k) (t:=t);rw[qaS];omega
theorem JO {l r:List aH} {id rk:Int}:∀{s:List Slot},sf cl vl boxes l id rk s=some r→r.length≤l.length+1
 |[],h=>by simp[sf]at h
 |x::s,h=>by
  unfold sf at h;split at h
  ·rw[←qa9 h];exact xy
  ·exact JO h
theorem CQ {l r:List aH} {id size home:Int}:∀{t:Nat},iK cl vl boxes l id size home t=some r→r.length≤l.length+1
 |0,h=>by simp[iK]at h
 |t+1,h=>by
  unfold iK at h;split at h
  ·rename_i r' h';rw[←qa9 h];exact CQ h'
  ·exact JO h
theorem Mp {home:Int→Int} {k:Int} {l r:List aH} {b:bw} (hp:pU cl vl boxes home k l b=.inl r):r.length≤l.length+1:=by
 unfold pU at hp;split at hp
 ·rw[←qbs hp];omega
 ·split at hp
  ·rename_i r' h';rw[←qbs hp];exact CQ h'
  ·cases hp
theorem xA {home:Int→Int} {k:Int} {l:List aH}:∀{v:Nat} {r:List aH},iI cl vl boxes home k l v=.inl r→r.length≤l.length+v
 |0,r,hp=>by unfold iI at hp;rw[←qbs hp];omega
 |v+1,r,hp=>by
  unfold iI at hp;split at hp
  ·rename_i l' b h1 h2;have h3:=xA h1;have h4:=Mp hp;omega
  ·rename_i l' h1 h2;have h3:=xA h1;rw[←qbs hp];omega
  ·cases hp
def zS (cl:List aL) (vl:List bz) (boxes:List bw) (l:List aH) (id rk:Int) (x:Slot):Prop:=x.column=rk∧gC cl vl boxes (nP l ⟨id,x⟩)
theorem DN {l:List aH} {id rk:Int}:∀{s:List Slot},(∀x∈s,¬zS cl vl boxes l id rk x)→sf cl vl boxes l id rk s=none
 |[],_=>rfl
 |x::s,h=>by
  unfold sf;have h':¬(x.column=rk∧gC cl vl boxes (nP l ⟨id,x⟩)):=h x (by simp);rw[qai h'];exact DN (fun y hy=>h y (by simp[hy]))
theorem DP {l:List aH} {id rk:Int}:∀{s:List Slot} {v:Nat} (hv:v<s.length),(∀j (hj:j<v),¬zS cl vl boxes l id rk (s[j]'(by omega)))→zS cl vl boxes l id rk s[v]→sf cl vl boxes l id rk s=some (nP l ⟨id,s[v]⟩)
 |[],v,hv,_,_=>by simp at hv
 |x::s,0,hv,_,h=>by
  unfold sf;have h':x.column=rk∧gC cl vl boxes (nP l ⟨id,x⟩):=h;rw[qao h'];rfl
 |x::s,v+1,hv,hn,h=>by
  unfold sf;have h':¬(x.column=rk∧gC cl vl boxes (nP l ⟨id,x⟩)):=hn 0 (by omega);rw[qai h'];exact DP (v:=v) (by simpa using hv) (fun j hj=>hn (j+1) (by omega)) h
end
section
variable {cl:List aL} {vl:List bz} {boxes:List bw}
theorem Ce {l r:List aH} {id size home:Int} {t:Nat} (h:iK cl vl boxes l id size home t=some r):∀{n:Nat},t≤n→iK cl vl boxes l id size home n=some r
 |0,hn=>by rw[show t=0 by omega]at h;exact h
 |n+1,hn=>by
  by_cases e:t=n+1
  ·subst e;exact h
  ·unfold iK;rw[Ce h (n:=n) (by omega)]
theorem JP {home:Int→Int} {k e:Int} {l:List aH} {u:Nat} (h:iI cl vl boxes home k l u=.inr e):∀{n:Nat},u≤n→iI cl vl boxes home k l n=.inr e
 |0,hn=>by rw[show u=0 by omega]at h;exact h
 |n+1,hn=>by
  by_cases e':u=n+1
  ·subst e';exact h
  ·unfold iI;rw[JP h (n:=n) (by omega)]
theorem zT {home:Int→Int} {e:Int} {u:Nat} (h:fj cl vl boxes home u=.inr e):∀{n:Nat},u≤n→fj cl vl boxes home n=.inr e
 |0,hn=>by rw[show u=0 by omega]at h;exact h
 |n+1,hn=>by
  by_cases e':u=n+1
  ·subst e';exact h
  ·unfold fj;rw[zT h (n:=n) (by omega)]
theorem MI {home:Int→Int} {k:Int} {l l':List aH} {v:Nat} (hv:v<boxes.length) (h:iI cl vl boxes home k l v=.inl l'):iI cl vl boxes home k l (v+1)=pU cl vl boxes home k l' boxes[v]:=by
 rw[iI,h,qag hv]
theorem Mq {home:Int→Int} {k:Nat} {L:List (List aH)} {l:List aH} (h:fj cl vl boxes home k=.inl L) (h2:Kj cl vl boxes home (L.getLastD []) (k:Int)=.inl l):fj cl vl boxes home (k+1)=.inl (L++[l]):=by
 rw[fj,h];simp only[h2]
theorem KI {home:Int→Int} {k:Nat} {L:List (List aH)} {e:Int} (h:fj cl vl boxes home k=.inl L) (h2:Kj cl vl boxes home (L.getLastD []) (k:Int)=.inr e):fj cl vl boxes home (k+1)=.inr e:=by
 rw[fj,h];simp only[h2]
end
theorem Ue {cl:List aL} {size:Int} {x:Slot} (uy:cl.length<2^32) (Iw:∀x∈cl,x.dv<2^32) (h:x∈slotsOf cl size):Lc x.column∧Lc x.tier∧0≤x.half∧x.half<256:=by
 obtain⟨l,h1,h2⟩:=qcN.1 h;obtain⟨i,hi,rfl⟩:=List.mem_mapIdx.1 h1;obtain⟨t,ht,h3⟩:=List.mem_flatMap.1 h2;obtain⟨y,hy,rfl⟩:=qaw.1 h3;have h4:=Iw _ (qaf hi);have h5:=qbU.1 ht;refine⟨by unfold Lc;dsimp only;omega,by unfold Lc;dsimp only;omega,?_⟩;dsimp only;unfold fk at hy;split at hy
 ·simp at hy;omega
 ·split at hy
  ·simp at hy;omega
  ·cases hy
theorem UY {l:List aH} {id:Int} {z:List PV}:aF.HR 1 (l.map aH.enc) [.int .i64 id] z=match wP l id with|some x=>x.enc|none=>z:=by
 induction l with
 |nil=>rfl
 |cons y l ih=>
  obtain⟨b,c,t,h⟩:=y;simp only[aF,jy,wP,qaj,qbv,aH.enc,qbl,qbo,JK]at ih ⊢
  by_cases e:id=b
  ·subst e;simp[Slot.enc]
  ·have e':¬b=id:=fun h=>e h.symm
   have e2:(id==b)=false:=by simp[e]
   simp only[e2,e',qbY,Bool.and_true];exact ih
theorem MV {l:List aH} {id:Int}:aF.yU 1 (l.map aH.enc) [.int .i64 id]=(wP l id).isSome:=by
 induction l with
 |nil=>rfl
 |cons y l ih=>
  obtain⟨b,c,t,h⟩:=y;simp only[aF,dQ,wP,qaj,List.any_cons,qbv,aH.enc,qbl,qbo,JK]at ih ⊢
  by_cases e:id=b
  ·subst e;simp
  ·have e':¬b=id:=fun h=>e h.symm
   have e2:(id==b)=false:=by simp[e]
   simp only[e2,e',qbY,Bool.and_true,Bool.false_or];exact ih
theorem U0 {l:List aH} {v:Nat} (hv:v<l.length) (hs:∀j (hj:j<v),(l[j]'(by omega)).box<l[v].box):aF.HS 1 ((l.take v).map aH.enc) [.int .i64 l[v].box] l[v].slot.enc=(l.take (v+1)).map aH.enc:=by
 have hn:dQ 1 ((l.take v).map aH.enc) [.int .i64 l[v].box]=false:=by
  have h1:=MV (l:=l.take v) (id:=l[v].box);show aF.yU 1 ((l.take v).map aH.enc) [.int .i64 l[v].box]=false;rw[h1];unfold wP
  cases hf:(l.take v).find? (fun y=>decide (y.box=l[v].box))with
  |none=>rfl
  |some y=>
   exfalso;have hy:=qbV hf
   have he:y.box=l[v].box:=by have:=qdx hf;simpa using this
   obtain⟨j,hj,rfl⟩:=qaI hy;simp only[qaT]at hj;have:=hs j (by omega);simp only[qcH]at he;omega
 show(match dQ 1 ((l.take v).map aH.enc) [.int .i64 l[v].box]with|true=>_|false=>_)=_;rw[hn,qan hv,qaX];rfl
theorem Uf {l:List aH} {id:Int}:aF.CZ [1] 1 (l.map aH.enc) [.int .i64 id]:=by
 refine⟨rfl,by simp[aR],fun r hr=>?_⟩;obtain⟨x,-,rfl⟩:=qaw.1 hr;simp[aR,aH.enc]
theorem U1 {l:List aH} {id:Int} {x:Slot} (h:wP l id=some x):(⟨id,x⟩:aH)∈l:=by
 unfold wP at h
 cases hf:l.find? (fun y=>decide (y.box=id))with
 |none=>rw[hf]at h;cases h
 |some y=>
  rw[hf]at h
  have he:y.box=id:=by have:=qdx hf;simpa using this
  have hx:y.slot=x:=qa9 h;have:=qbV hf;rw[←he,←hx];exact this
end Go.bt
end
section
open Go Go.Am
namespace Go.bt
theorem Fg.Th {s s':St} {id j k sz:Nat} {cs:List AV} (h1:aj s.mem id=some (.cells cs)) (h2:cs[j]? =some (.full [])) (h3:aj s.mem k=none) (h4:Nat.ble k s.mem.length=true) (h5:(s.aq k (.rows sz [] 0)).aq id (.cells (cs.set j (.c8 k 0)))=s'):Fg s s':=h5▸Fg.Zh h1 h2 h3 (qaH h4)
theorem Fg.Wd {s s':St} (n:Nat) (h:(⟨s.slots,s.held,s.base,s.mem++List.replicate n none⟩:St)=s'):Fg s s':=h▸Fg.grow s n
theorem Fg.aao {s s':St} {d:Nat} {rows:List (List PV)} (h1:s.slot d=.full rows) (h2:s.put (some d) (.pv (.sl rows []))=s'):Fg s s':=h2▸Fg.full h1
def Tu (l:List aH):List PV:=[.sl (l.map aH.enc) []]
noncomputable def LK (cl:List aL) (vl:List bz) (boxes:List bw) (home:Int→Int) (k:Nat):List (List aH):=match fj cl vl boxes home k with|.inl L=>L|.inr _=>[]
end Go.bt
end
section
open Go Go.Am Go.Proofs
attribute [local irreducible] Am.bp.holds bH fw bP ek
namespace Go.bt
variable {mx:Int}
open Classical
theorem T4 {rows sp:List (List PV)} {l:List aH} {id:Int} {r:Bool} (hr:rows=l.map aH.enc) (hl:l.length<2^32) (dD:r=decide (MC l id)):pC mx 252 [.sl rows sp,.int .i64 id] (.bool r):=by
 have hlen:rows.length=l.length:=by simp[hr]
 refine pZ UR ?_
 iterate 122 intro _
 intro aw _ mz aI aQ aJ aP zI aU aV bC bA ag aC;refine gK ?_;refine bQ [0,1,7,8,9] [] (fun v σ_=>σ_.put (some 9) (.pv (.int .i64 (Int.ofNat v)))) (l.length) (fun k=>(∀h:k<l.length,l[k].box≠id)) ?_;intro v hv hk;refine ej ?_;refine bp.af (fun hd=>?_) (fun hd=>?_)
 ·have aT:v<l.length:=by rw[←aC,←ag]at hd;simp at hd;omega
  obtain⟨gI,bj⟩:∃x,l[v]=x:=⟨_,rfl⟩
  have bG:aJ (Int.ofNat v) rows 4:=by rw[←aP,hr];exact aO (enc:=aH.enc) aT rfl
  obtain⟨⟨eH,⟨dO,du,fH⟩⟩,bW⟩:∃y,gI=y:=⟨_,rfl⟩;subst bW
  have aW:aI rows (Int.ofNat v)=[.int .i64 eH,.int .i64 dO,.int .i64 du,.int .u8 fH]:=by rw[←aQ,hr,aN (enc:=aH.enc) aT,bj];rfl
  refine aY ?_;refine ae bG ?_;rw[aW];refine gK ?_;refine bp.af (fun h=>?_) (fun h=>?_)
  ·rw[←bA]at h;simp at h;refine aY ?_;refine dS ?_;exact tr dD ⟨l[v],qaf aT,by rw[bj];exact h⟩
  ·rw[←bA]at h;simp at h;refine aY ?_;refine ta ⟨aT,fun _=>by rw[bj];exact h,?_⟩;rw[wS mz aw (v:=v) (by omega)]
   cbv
 ·have aT:v=l.length:=by rw[←aC,←ag]at hd;simp at hd;omega
  refine aY ?_;refine wW rfl ?_;refine gK ?_;refine aX ?_;refine fa dD ?_;rintro⟨y,hy,Tx⟩;obtain⟨k,eR,rfl⟩:=qaI hy;exact hk k (by omega) eR Tx
def xp (l:List aH) (n:Int) (v:Nat):List aH:=(l.take v).filter (fun y=>decide (y.box<n))
def B7 (l:List aH) (n:Int) (v:Nat):List aH:=(l.take v).filter (fun y=>decide (n<y.box))
theorem MD {l:List aH} {n:Int} {v:Nat} (h:v<l.length):xp l n (v+1)=if l[v].box<n then xp l n v++[l[v]]else xp l n v:=by
 unfold xp;rw[qan h,qb4]
 by_cases hp:l[v].box<n<;>simp[hp]
theorem ME {l:List aH} {n:Int} {v:Nat} (h:v<l.length):B7 l n (v+1)=if n<l[v].box then B7 l n v++[l[v]]else B7 l n v:=by
 unfold B7;rw[qan h,qb4]
 by_cases hp:n<l[v].box<;>simp[hp]
theorem JL {l:List aH} {n:Int} {v:Nat}:(xp l n v).length≤l.length:=qbr (qbB _ _) (by simp;omega)
theorem On {l:List aH} {n:Int} {v:Nat}:(B7 l n v).length≤l.length:=qbr (qbB _ _) (by simp;omega)
theorem MR {rows sp Q:List (List PV)} {l:List aH} {x:aH} (hr:rows=l.map aH.enc) (hl:l.length<2^30) (hQ:Q=(nP l x).map aH.enc):pC mx 251 [.sl rows sp,.agg [.int .i64 x.box,.int .i64 x.slot.column,.int .i64 x.slot.tier,.int .u8 x.slot.half]] (.sl Q []):=by
 have hlen:rows.length=l.length:=by simp[hr]
 obtain⟨xb,xc,xt,xh⟩:=x;dsimp only;refine pZ US ?_
 iterate 116 intro _
 intro dF bJ bX _ _ _ aw _ mz aI aQ aJ aP zI aU aV bC bA ag aC;refine gK ?_;refine bQ [0,3,5,10,11,12] (nn [3,3,1,5]) (fun v σ_=>σ_.put (some 12) (.pv (.int .i64 (Int.ofNat v)))|>.aq 5 (.rows 4 ((xp l xb v).map aH.enc) 0)) (l.length) (fun k=>True) ?_;intro v hv hk
 try dsimp only
 generalize dA:(xp l xb v).map aH.enc=cur;refine ej ?_;refine bp.af (fun hd=>?_) (fun hd=>?_)
 ·have aT:v<l.length:=by rw[←aC,←ag]at hd;simp at hd;omega
  obtain⟨gI,bj⟩:∃x,l[v]=x:=⟨_,rfl⟩
  have bG:aJ (Int.ofNat v) rows 4:=by rw[←aP,hr];exact aO (enc:=aH.enc) aT rfl
  obtain⟨⟨eH,⟨dO,du,fH⟩⟩,bW⟩:∃y,gI=y:=⟨_,rfl⟩;subst bW
  have aW:aI rows (Int.ofNat v)=[.int .i64 eH,.int .i64 dO,.int .i64 du,.int .u8 fH]:=by rw[←aQ,hr,aN (enc:=aH.enc) aT,bj];rfl
  have dJ:=MD (n:=xb) aT;rw[bj]at dJ;refine aY ?_;refine ae bG ?_;rw[aW];refine gK ?_;refine bp.af (fun h=>?_) (fun h=>?_)
  ·rw[←aC]at h;simp at h;rw[qao h]at dJ;refine aY ?_;have hlA:=JL (l:=l) (n:=xb) (v:=v);refine ae (by rw[←dF,←dA];exact⟨by simp;omega,by simp;omega,by simp,Kh (enc:=aH.enc) (fun _=>rfl) _⟩) ?_;refine gK ?_;refine ta ⟨aT,trivial,?_⟩;rw[wS mz aw (v:=v) (by omega)];rw[show bJ cur [[.int .i64 eH,.int .i64 dO,.int .i64 du,.int .u8 fH]]=(xp l xb (v+1)).map aH.enc by rw[←bX,←dA,dJ];simp;rfl]
   cbv
  ·rw[←aC]at h;simp at h;rw[qai (by show ¬eH<xb;omega)]at dJ;refine aY ?_;refine ta ⟨aT,trivial,?_⟩;rw[wS mz aw (v:=v) (by omega)];rw[show cur=(xp l xb (v+1)).map aH.enc by rw[←dA,dJ]]
   cbv
 ·have aT:v=l.length:=by rw[←aC,←ag]at hd;simp at hd;omega
  refine aY ?_;refine wW rfl ?_;refine gK ?_;subst aT;have hlA:=JL (l:=l) (n:=xb) (v:=l.length);refine ae (by rw[←dF,←dA];exact⟨by simp;omega,by simp;omega,by simp,Kh (enc:=aH.enc) (fun _=>rfl) _⟩) ?_;refine gK ?_
  obtain⟨W,hW⟩:∃W:Nat→List aH,W=fun v=>xp l xb l.length++[⟨xb,xc,xt,xh⟩]++B7 l xb v:=⟨_,rfl⟩
  rw[show bJ cur [[.int .i64 xb,.int .i64 xc,.int .i64 xt,.int .u8 xh]]=(W 0).map aH.enc by rw[←bX,←dA,hW];simp[B7];rfl];refine bQ [0,3,5,30,31,32] (nn [3,3,1,5]) (fun v σ_=>σ_.put (some 32) (.pv (.int .i64 (Int.ofNat v)))|>.aq 5 (.rows 4 ((W v).map aH.enc) 0)) (l.length) (fun k=>True) ?_;intro v hv hk
  try dsimp only
  generalize MS:(W v).map aH.enc=aaw;refine ej ?_;refine bp.af (fun hd=>?_) (fun hd=>?_)
  ·have aT:v<l.length:=by rw[←aC,←ag]at hd;simp at hd;omega
   obtain⟨gI,bj⟩:∃x,l[v]=x:=⟨_,rfl⟩
   have bG:aJ (Int.ofNat v) rows 4:=by rw[←aP,hr];exact aO (enc:=aH.enc) aT rfl
   obtain⟨⟨eH,⟨dO,du,fH⟩⟩,bW⟩:∃y,gI=y:=⟨_,rfl⟩;subst bW
   have aW:aI rows (Int.ofNat v)=[.int .i64 eH,.int .i64 dO,.int .i64 du,.int .u8 fH]:=by rw[←aQ,hr,aN (enc:=aH.enc) aT,bj];rfl
   have dJ:=ME (n:=xb) aT;rw[bj]at dJ;refine aY ?_;refine ae bG ?_;rw[aW];refine gK ?_;refine bp.af (fun h=>?_) (fun h=>?_)
   ·rw[←aC]at h;simp at h;rw[qao h]at dJ;have hlB:=On (l:=l) (n:=xb) (v:=v);refine aY ?_;refine ae (by rw[←dF,←MS,hW];exact⟨by simp;omega,by simp;omega,by simp,Kh (enc:=aH.enc) (fun _=>rfl) _⟩) ?_;refine gK ?_;refine ta ⟨aT,trivial,?_⟩;rw[wS mz aw (v:=v) (by omega)];rw[show bJ aaw [[.int .i64 eH,.int .i64 dO,.int .i64 du,.int .u8 fH]]=(W (v+1)).map aH.enc by rw[←bX,←MS,hW];dsimp only;rw[dJ];simp;rfl]
    cbv
   ·rw[←aC]at h;simp at h;rw[qai (by show ¬xb<eH;omega)]at dJ;refine aY ?_;refine ta ⟨aT,trivial,?_⟩;rw[wS mz aw (v:=v) (by omega)];rw[show aaw=(W (v+1)).map aH.enc by rw[←MS,hW];dsimp only;rw[dJ]]
    cbv
  ·have aT:v=l.length:=by rw[←aC,←ag]at hd;simp at hd;omega
   refine aY ?_;refine wW rfl ?_;refine gK ?_;refine aX ?_;rw[hQ,←MS,aT,hW];simp[nP,xp,B7]
theorem MF {x:aL} {p psp:List (List PV)} {bay row:Int} {deck r:Bool} (hp:p=ints x.cq) (hr:r=decide (Ob x bay row deck)):pC mx 250 [.agg [.int .i64 x.bay,.int .i64 x.row,.bool x.deck,.int .i64 x.dv,.int .i64 x.dk,.int .i64 x.tT,.int .i64 x.tU,.int .i64 x.kj,.sl p psp,.int .i64 x.x,.int .i64 x.y,.int .i64 x.z],.ptr [.int .i64 bay],.ptr [.int .i64 row],.ptr [.bool deck]] (.bool r):=by
 obtain⟨xbay,xrow,We,dv,dk,tT,tU,kj,cq,sp2,cx,cy,cz⟩:=x
 have hr:r=decide (xbay=bay∧xrow=row∧We=deck):=by rw[hr];exact qco.2 Iff.rfl
 dsimp only
 cases We<;>cases deck
 all_goals
  refine pZ aam ?_
  iterate 129 intro _
  intro zI aU aV bC bA ag aC;refine gK ?_
  repeat' (first|refine gH ?_|(refine iE (fun hc=>?_) (fun hc=>?_)<;>(try simp at hc)<;>(try(exfalso;omega))))
  all_goals(refine aX ?_)
  all_goals first|exact tr hr (by simp;omega)|exact fa hr (by simp;omega)|exact fa hr (by simp)
def ig (p:Nat→Bool) (v:Nat):List Int:=((List.range v).filter p).map (fun k:Nat=>(k:Int))
theorem Hs {p:Nat→Bool} {v:Nat}:ig p (v+1)=if p v=true then ig p v++[(v:Int)]else ig p v:=by
 unfold ig;rw[qcy,qb4]
 by_cases h:p v=true<;>simp[h]
theorem zM {p:Nat→Bool} {v:Nat}:(ig p v).length≤v:=by
 unfold ig;rw[qap];exact qbr (qbB _ _) (by simp)
theorem Oo {f:FuncId} {caps:List PV} {rows sp Q:List (List PV)} {l:List aL} {p:Nat→Bool} (eS:rows=l.map aL.enc) (hl:l.length<2^32) (hf:∀k (h:k<l.length),pC mx f (.agg l[k].enc::caps) (.bool (p k))) (Fo:caps.length=3) (hQ:Q=ints (ig p l.length)):
  pC mx 249 [.sl rows sp,.gM f caps] (.sl Q []):=by
 have hlen:rows.length=l.length:=by simp[eS]
 obtain⟨c1,c2,c3,rfl⟩:∃a b c,caps=[a,b,c]:=by
  match caps,Fo with
  |[a,b,c],_=>exact⟨a,b,c,rfl⟩
 refine pZ aay ?_
 iterate 116 intro _
 intro dF bJ bX _ _ _ aw _ mz aI aQ aJ aP zI aU aV bC bA ag aC;refine gK ?_;refine bQ [0,1,5,8,9,10] (nn [5,5]) (fun v σ_=>σ_.put (some 10) (.pv (.int .i64 (Int.ofNat v)))|>.aq 5 (.rows 1 (ints (ig p v)) 0)) (l.length) (fun k=>True) ?_;intro v hv hk
 try dsimp only
 generalize dA:ints (ig p v)=cur;refine ej ?_;refine bp.af (fun hd=>?_) (fun hd=>?_)
 ·have aT:v<l.length:=by rw[←aC,←ag]at hd;simp at hd;omega
  obtain⟨gI,bj⟩:∃x,l[v]=x:=⟨_,rfl⟩
  have bG:aJ (Int.ofNat v) rows 12:=by rw[←aP,eS];exact aO (enc:=aL.enc) aT rfl
  obtain⟨⟨dU,jE,gJ,eI,eB,kx,ky,ia,dw,kz,pn,po,pq⟩,bW⟩:∃y,gI=y:=⟨_,rfl⟩;subst bW
  have aW:aI rows (Int.ofNat v)=[.int .i64 dU,.int .i64 jE,.bool gJ,.int .i64 eI,.int .i64 eB,.int .i64 kx,.int .i64 ky,.int .i64 ia,.sl (ints dw) kz,.int .i64 pn,.int .i64 po,.int .i64 pq]:=by rw[←aQ,eS,aN (enc:=aL.enc) aT,bj];rfl
  have hc:=hf v aT;rw[bj]at hc;have dJ:=Hs (p:=p) (v:=v);have hlc:=zM (p:=p) (v:=v);obtain⟨pl,xT⟩:∃pl,pl=ints dw:=⟨_,rfl⟩;rw[show(⟨dU,jE,gJ,eI,eB,kx,ky,ia,dw,kz,pn,po,pq⟩:aL).enc=[.int .i64 dU,.int .i64 jE,.bool gJ,.int .i64 eI,.int .i64 eB,.int .i64 kx,.int .i64 ky,.int .i64 ia,.sl pl kz,.int .i64 pn,.int .i64 po,.int .i64 pq] by rw[xT];rfl]at hc;rw[←xT]at aW;refine aY ?_;refine ae bG ?_;rw[aW];refine gK ?_
  refine cU (by cbv) hc (fun h=>?_) (fun h=>?_)
  ·rw[qao h]at dJ;refine gK ?_;refine ae (by rw[←dF,←dA];exact⟨by simp;omega,by simp;omega,by simp,Kh (enc:=fun p=>[.int .i64 p]) (fun _=>rfl) _⟩) ?_;refine gK ?_;refine ta ⟨aT,trivial,?_⟩;rw[wS mz aw (v:=v) (by omega)];rw[show bJ cur [[.int .i64 (Int.ofNat v)]]=ints (ig p (v+1)) by rw[←bX,←dA,dJ];simp[ints]]
   cbv
  ·rw[qai (by rw[h];simp)]at dJ;refine gK ?_;refine ta ⟨aT,trivial,?_⟩;rw[wS mz aw (v:=v) (by omega)];rw[show cur=ints (ig p (v+1)) by rw[←dA,dJ]]
   cbv
 ·have aT:v=l.length:=by rw[←aC,←ag]at hd;simp at hd;omega
  refine aY ?_;refine wW rfl ?_;refine gK ?_;refine aX ?_;rw[hQ,←dA,aT]
noncomputable def zN (l:List aL) (bay row:Int) (deck:Bool):List Int:=ig (fun k=>if h:k<l.length then decide (Ob l[k] bay row deck)else false) l.length
theorem Ml {c csp vv vsp r rsp f fsp t tsp:List (List PV)} {l1 l2 l3 l4 m1 m2 m3 m4:Int} {cl:List aL} {bay row n:Int} {deck ok:Bool} (jI:c=cl.map aL.enc) (wU:cl.length<2^32) (hn:n=(zN cl bay row deck).headD 0) (eL:ok=decide (zN cl bay row deck≠[])):
  pC mx 160 [.agg [.sl c csp,.sl vv vsp,.int .i64 l1,.int .i64 l2,.int .i64 l3,.int .i64 l4,.sl r rsp,.sl f fsp,.sl t tsp,.int .i64 m1,.int .i64 m2,.int .i64 m3,.int .i64 m4],.int .i64 bay,.int .i64 row,.bool deck] (.eN [.int .i64 n,.bool ok]):=by
 have px:=Oo (mx:=mx) (sp:=csp) (f:=250) (caps:=[.ptr [.int .i64 bay],.ptr [.int .i64 row],.ptr [.bool deck]]) (p:=fun k=>if h:k<cl.length then decide (Ob cl[k] bay row deck)else false) jI wU (fun k h=>by simp only[h,qcu];exact MF (x:=cl[k]) rfl rfl) rfl rfl;rw[show ig (fun k=>if h:k<cl.length then decide (Ob cl[k] bay row deck)else false) cl.length=zN cl bay row deck from rfl]at px;have hlc:(zN cl bay row deck).length≤cl.length:=zM
 generalize zN cl bay row deck=q at hn eL px hlc;obtain⟨I,hI⟩:∃I,I=ints q:=⟨_,rfl⟩;rw[←hI]at px
 have hIl:I.length=q.length:=by rw[hI];simp[ints]
 refine pZ aaz ?_
 iterate 125 intro _
 intro aI aQ aJ aP zI aU aV bC bA ag aC;refine go 6 (by cbv) ?_;refine BA ?_;refine vW (Fg.M0 (id:=5) rfl rfl (by cbv)) ?_;refine vW (Fg.M0 (id:=6) rfl rfl (by cbv)) ?_;refine vW (Fg.M0 (id:=7) rfl rfl (by cbv)) ?_;refine gK ?_;refine ao (by cbv) px (fun h=>by first|rfl|cases h) ?_;refine gK ?_
 cases q with
 |nil=>
  have hI0:I=[]:=by rw[hI];rfl
  subst hI0;refine bp.af (fun h=>?_) (fun h=>?_)
  ·refine aY ?_;refine aX ?_;rw[hn,eL];rfl
  ·rw[←bA,←ag]at h;simp at h
 |cons x q'=>
  have ec:aJ 0 I 1:=by rw[←aP,hI];exact aO (enc:=fun p=>[.int .i64 p]) (v:=0) (l:=x::q') (by simp) rfl
  have pY:aI I 0=[.int .i64 x]:=by rw[←aQ,hI];exact aN (enc:=fun p=>[PV.int .i64 p]) (v:=0) (l:=x::q') (by simp)
  refine bp.af (fun h=>?_) (fun h=>?_)
  ·rw[←bA,←ag]at h;simp at h;rw[h]at hIl;simp at hIl
  refine aY ?_;refine ae ec ?_;rw[pY];refine gK ?_;refine aX ?_;rw[hn,eL];simp
theorem Ua {cs:List PV} {size:Int} {c csp vv vsp r rsp f fsp t tsp:List (List PV)} {l1 l2 l3 l4 m1 m2 m3 m4:Int} (hcs:cs=[.sl c csp,.sl vv vsp,.int .i64 l1,.int .i64 l2,.int .i64 l3,.int .i64 l4,.sl r rsp,.sl f fsp,.sl t tsp,.int .i64 m1,.int .i64 m2,.int .i64 m3,.int .i64 m4]):pC mx 301 [.agg cs,.int .u8 size] (.gM 323 [.ptr cs,.ptr [.int .u8 size]]):=by
 subst hcs;refine pZ UT ?_
 iterate 129 intro _
 intro zI aU aV bC bA ag aC;refine gK ?_;refine aX ?_;rfl
end Go.bt
end
section
open Go Go.Am Go.Proofs Go.RowKit
namespace Go.bt
variable {mx:Int}
theorem JM {α:Type} {f:Nat→List α} {H:Nat} (hf:∀t,(f t).length=H):∀{m t h:Nat},t<m→h<H→((List.range m).flatMap f)[t*H+h]? =(f t)[h]?
 |0,t,h,ht,_=>by omega
 |m+1,t,h,ht,hh=>by
  have hlen:((List.range m).flatMap f).length=m*H:=by
   rw[List.length_flatMap]
   have:∀k,(List.map (fun a=>(f a).length) (List.range k)).sum=k*H:=fun k=>by
    induction k with
    |zero=>simp
    |succ k ih=>rw[qcy,qaX,List.sum_append,ih];simp[hf,qaS]
   exact this m
  rw[qcy,qc8]
  by_cases e:t=m
  ·subst e;rw[qaV (by omega),hlen,show t*H+h-t*H=h by omega];simp
  ·have h1:t<m:=by omega
   have h2:(t+1)*H≤m*H:=qaL _ h1;rw[qaS]at h2;rw[qaQ (by omega)];exact JM hf h1 hh
def iZ (cl:List aL) (size:Int) (v:Nat):List Slot:=((cl.take v).mapIdx (l9 size)).flatten
theorem zO {cl:List aL} {size:Int} {v:Nat} (h:v<cl.length):iZ cl size (v+1)=iZ cl size v++l9 size v cl[v]:=by
 unfold iZ;rw[qan h,qdh];simp[Nat.min_eq_left (qcl h)]
theorem KB {size:Int} {c:Nat} {x:aL}:(l9 size c x).length=x.dv.toNat*(fk size).length:=by
 unfold l9;rw[List.length_flatMap]
 have:∀k,(List.map (fun t:Nat=>(List.map (fun h=>(⟨(c:Int),(t:Int),h⟩:Slot)) (fk size)).length) (List.range k)).sum=k*(fk size).length:=fun k=>by
  induction k with
  |zero=>simp
  |succ k ih=>rw[qcy,qaX,List.sum_append,ih];simp[qaS]
 exact this _
theorem xq {cl:List aL} {size:Int} {c:Nat} (hc:c<cl.length) {t h:Nat} (ht:t<cl[c].dv.toNat) (hh:h<(fk size).length):∀{m:Nat},c<m→m≤cl.length→(iZ cl size m)[(iZ cl size c).length+t*(fk size).length+h]? =some ⟨(c:Int),(t:Int),(fk size)[h]⟩
 |0,h1,_=>by omega
 |m+1,h1,h2=>by
  rw[zO (by omega)]
  by_cases e:c=m
  ·subst e;rw[qaV (by omega),show(iZ cl size c).length+t*(fk size).length+h-(iZ cl size c).length=t*(fk size).length+h by omega];unfold l9;rw[JM (f:=fun t:Nat=>(fk size).map fun h=>(⟨(c:Int),(t:Int),h⟩:Slot)) (fun t=>by simp) ht hh];simp[hh]
  ·have ih:=xq hc ht hh (m:=m) (by omega) (by omega);rw[qaQ]
   ·exact ih
   ·exact(qat.1 ih).1
theorem ad4 {cl:List aL} {size:Int}:iZ cl size cl.length=slotsOf cl size:=by simp[iZ,slotsOf]
theorem MG {G:Nat→Option (List PV)} {S:Nat→Prop} {W w:World} (h:rh G S W) (hk:∀x,S x→w.heap[x]? =W.heap[x]?):rh G S w:=by
 intro g row hg;obtain⟨h1,c,h2,h3,h4⟩:=h g row hg;have ha:=dC (hk g h1);exact⟨h1,c,ha.1.trans h2,dm.later (fun b hb=>⟨hb,dC (hk b hb)⟩) _ h3,h4⟩
theorem MT {S:Nat→Prop} {w:World} {c:Array Value}:∀{l:List Int} {o:Nat},bM S w (Xc l) c o→∀h (hh:h<l.length),c[o+h]? =some (.int .u8 l[h])
 |[],_,_,h,hh=>by simp at hh
 |x::l,o,hr,h,hh=>by
  simp only[Xc,qaj,bM,dm,aD]at hr;obtain⟨⟨⟨v,h1,rfl⟩,-⟩,h2⟩:=hr
  match h with
  |0=>simpa using h1
  |h+1=>
   have:=MT (l:=l) (by simpa[Xc]using h2) h (by simpa using hh);rw[show o+(h+1)=o+1+h by omega];simpa using this
theorem Ub {c:List (List PV)} {rest:List PV} {csp:List (List PV)} {cl:List aL} {size:Int} (jI:c=cl.map aL.enc) (wU:cl.length<2^32) (MB:cl≠[]) (Iw:∀x∈cl,x.dv<2^32):
  ItC Tryz.prog (GG mx) 323 [.ptr (.sl c csp::rest),.ptr [.int .u8 size]] ((slotsOf cl size).map fun x=>[.agg x.enc]):=by
 refine⟨fun args w=>?_,?_⟩
 ·have e:=enters_of Tryz.func323 (by kernel_rfl) rfl;exact e args w
 intro S w vs hS hG Fo lp J Jx hJ ZJ hY hJ0
 have Gd:c.length=cl.length:=by rw[jI];simp
 simp only[aM,aD]at Fo;obtain⟨v,r,rfl,⟨Cs,UX,cC,rfl,hSC,hcC,Uc⟩,v2,r2,rfl,⟨Zs,Oc,cZ,rfl,hSZ,hcZ,Ud⟩,rfl⟩:=Fo;simp only[dm,aD]at Uc Ud;obtain⟨⟨sv,CR,a,cap,rfl,fF,YD⟩,-⟩:=Uc;obtain⟨⟨zv,EO,rfl⟩,-⟩:=Ud
 rcases YD with⟨h,-⟩|⟨b,off,cb,sz,rfl,YA,Xv,bS,-,hR,-⟩
 ·rw[jI]at h;exact absurd (List.map_eq_nil_iff.1 h) MB
 have dH:sz=12:=by
  cases cl with
  |nil=>exact absurd rfl MB
  |cons x l'=>rw[jI]at bS;have:=bS _ (qaz ..);simpa[aL.enc]using this.symm
 subst dH;obtain⟨z,hz⟩:∃z:aL,z=⟨0,0,false,0,0,0,0,0,[],[],0,0,0⟩:=⟨_,rfl⟩
 obtain⟨rk,aax⟩:∃rk:Nat→aL,rk=fun j=>cl.getD j z:=⟨_,rfl⟩
 have Mm:∀j (h:j<cl.length),rk j=cl[j]:=fun j h=>by rw[aax];simp[qab,h]
 have hcell:∀j,j<cl.length→∃pl:Option Addr×Nat×Nat,w.cell? ⟨b,off+j*12+8,none⟩=some (.slice pl.1 pl.2.1 pl.2.2)∧
   w.cell? ⟨b,off+j*12,none⟩=some (.int .i64 (rk j).bay)∧w.cell? ⟨b,off+j*12+1,none⟩=some (.int .i64 (rk j).row)∧w.cell? ⟨b,off+j*12+2,none⟩=some (.bool (rk j).deck)∧
   w.cell? ⟨b,off+j*12+3,none⟩=some (.int .i64 (rk j).dv)∧w.cell? ⟨b,off+j*12+4,none⟩=some (.int .i64 (rk j).dk)∧w.cell? ⟨b,off+j*12+5,none⟩=some (.int .i64 (rk j).tT)∧
   w.cell? ⟨b,off+j*12+6,none⟩=some (.int .i64 (rk j).tU)∧w.cell? ⟨b,off+j*12+7,none⟩=some (.int .i64 (rk j).kj)∧w.cell? ⟨b,off+j*12+9,none⟩=some (.int .i64 (rk j).x)∧
   w.cell? ⟨b,off+j*12+10,none⟩=some (.int .i64 (rk j).y)∧w.cell? ⟨b,off+j*12+11,none⟩=some (.int .i64 (rk j).z):=by
  intro j hj;have h1:=Cw bS hR (j:=j) (by omega)
  have h2:c.getD j []=(rk j).enc:=by
   rw[jI,Mm j hj];simp[qab,hj]
  rw[h2]at h1;simp only[aL.enc,dm,aD]at h1;obtain⟨⟨v0,h0,rfl⟩,⟨v1,h1,rfl⟩,⟨v2,h2,rfl⟩,⟨v3,h3,rfl⟩,⟨v4,h4,rfl⟩,⟨v5,h5,rfl⟩,⟨v6,h6,rfl⟩,⟨v7,h7,rfl⟩,⟨v8,h8,⟨a8,cap8,rfl,-⟩⟩,⟨v9,h9,rfl⟩,⟨v10,UF,rfl⟩,⟨v11,h11,rfl⟩,-⟩:=h1
  refine⟨(a8,(ints (rk j).cq).length,cap8),?_,?_,?_,?_,?_,?_,?_,?_,?_,?_,?_,?_⟩<;>rw[cell_of Xv]<;>first|exact h8|exact h0|exact h1|exact h2|exact h3|exact h4|exact h5|exact h6|exact h7|exact h9|exact UF|exact h11
 obtain⟨pl,xT⟩:∃pl:Nat→Option Addr×Nat×Nat,∀j,j<cl.length→w.cell? ⟨b,off+j*12+8,none⟩=some (.slice (pl j).1 (pl j).2.1 (pl j).2.2):=by
  refine⟨fun j=>if h:j<cl.length then(hcell j h).choose else(none,0,0),fun j h=>?_⟩;simp only[qcu h];exact(hcell j h).choose_spec.1
 obtain⟨H,hH⟩:∃H,H=(fk size).length:=⟨_,rfl⟩
 have hN:((slotsOf cl size).map fun x=>[PV.agg x.enc]).length=(iZ cl size cl.length).length:=by rw[qap,ad4]
 rw[hN];rw[←Gd]at wU hcell xT;refine CallsIn.mono (YE w lp Cs UX Zs Oc b off c.length cap H size J Jx S (fun j o=>match o with|0=>(rk j).bay|1=>(rk j).row|3=>(rk j).dv|4=>(rk j).dk|5=>(rk j).tT|6=>(rk j).tU|7=>(rk j).kj|9=>(rk j).x|10=>(rk j).y|_=>(rk j).z) (fun j=>(rk j).deck) (fun j=>(pl j).1) (fun j=>(pl j).2.1) (fun j=>(pl j).2.2) (fun j=>if j≤cl.length then(iZ cl size j).length else(iZ cl size cl.length).length+(j-cl.length)*(z.dv.toNat*H)) (fun j=>(rk j).dv.toNat) (fun h=>(fk size).getD h 0) ?_ wU ?_ ?_ (fun _=>rfl) ?_ ?_ mixed YA hSC hSZ hS ?_ ?_ ?_ ?_ ?_ hJ0) ?_
 ·intro j hj;obtain⟨-,-,h0,h1,h2,h3,h4,h5,h6,h7,h9,UF,h11⟩:=hcell j hj;exact⟨h0,h1,h2,h3,h4,h5,h6,h7,xT j hj,h9,UF,h11⟩
 ·intro j hj;have:=Iw _ (qaf (show j<cl.length by omega));rw[←Mm j (by omega)]at this;show(rk j).dv.toNat<2^32;omega
 ·rw[hH];unfold fk;split
  ·simp
  ·split<;>simp
 ·simp[iZ]
 ·intro j;show(if j+1≤cl.length then _ else _)=(if j≤cl.length then _ else _)+(rk j).dv.toNat*H
  by_cases h1:j+1≤cl.length
  ·rw[qao h1,qao (by omega),zO (by omega),qal,KB,Mm j (by omega),hH]
  ·rw[qai h1]
   have hcz:rk j=z:=by rw[aax];simp[qab,qa0 (show cl.length≤j by omega)]
   rw[hcz]
   by_cases h2:j≤cl.length
   ·have:j=cl.length:=by omega
    subst this;rw[qao (qak _),qcC,qbt]
   ·rw[qai h2,show j+1-cl.length=j-cl.length+1 by omega,qaS];omega
 ·intro k T W W' h1 h2;exact hJ k T W W' h1 h2
 ·intro j t h T W hj ht hh tC
  have A2:j<cl.length:=by omega
  rw[qao (by omega)]at tC ⊢
  have hk:(iZ cl size j).length+t*H+h<((slotsOf cl size).map fun x=>[PV.agg x.enc]).length:=by
   have:=xq (size:=size) A2 (t:=t) (h:=h) (by rw[←Mm j A2];exact ht) (by omega) (m:=cl.length) A2 (qak _);rw[hN,hH];exact(qat.1 this).1
  have hg:((slotsOf cl size).map fun x=>[PV.agg x.enc])[(iZ cl size j).length+t*H+h]=[.agg [.int .i64 (j:Int),.int .i64 (t:Int),.int .u8 ((fk size).getD h 0)]]:=by
   have:=xq (size:=size) A2 (t:=t) (h:=h) (by rw[←Mm j A2];exact ht) (by omega) (m:=cl.length) A2 (qak _);simp only[ad4,←hH]at this;obtain⟨h1,h2⟩:=qat.1 this;rw[qcf,h2];simp[Slot.enc,qab,show h<(fk size).length by omega]
  have hy:=hY _ hk T W [.agg #[.int .i64 j,.int .i64 t,.int .u8 ((fk size).getD h 0)]] tC (by
   rw[hg];simp only[aM,aD]
   exact⟨_,_,rfl,⟨[_,_,_],rfl,_,_,rfl,rfl,_,_,rfl,rfl,_,_,rfl,rfl,rfl⟩,rfl⟩)
  obtain⟨fn,tmps,Za,bd,h1,h2⟩:=hy;refine⟨fn,tmps,Za,bd,h1,h2.mono ?_⟩;rintro e W' (⟨rfl,h3,h4,h5⟩|⟨rfl,h3⟩)
  ·exact⟨true,rfl,.inl ⟨rfl,h3,h4,h5⟩⟩
  ·exact⟨false,rfl,.inr ⟨rfl,h3⟩⟩
 ·intro w1 hk dH;have hp:=Hp (mx:=mx) (size:=size) (H:=fk size) rfl rfl S w1 [.int .u8 size] (fun x hx=>by have:=hS x hx;omega) (MG hG hk) (by simp only[aM,aD];exact⟨_,_,rfl,rfl,rfl⟩);unfold dN at hp;have e:=enters_of Tryz.func271 (by kernel_rfl) rfl [Value.int .u8 size].toArray w1;rw[e]at hp;refine Calls.mono hp ?_;rintro e' w2 ⟨v,rfl,hB,hv⟩;simp only[aD]at hv;obtain⟨a,Zi,rfl,-,YD⟩:=hv
  have hl:(Xc (fk size)).length=H:=by simp[Xc,hH]
  rw[hl];refine⟨hB,a,Zi,rfl,fun hne'=>?_⟩
  rcases YD with⟨h,-⟩|⟨b2,o2,c2,sz,rfl,hSb2,pH,qt,-,hR2,-⟩
  ·rw[h]at hl;exact absurd hl.symm hne'
  ·refine⟨b2,o2,rfl,hSb2,fun h hh=>?_⟩;rw[cell_of pH,MT hR2 h (by omega)];simp[qab,show h<(fk size).length by omega]
 ·rw[cell_of hcC];simpa using CR
 ·rw[cell_of hcZ];simpa using EO
 ·rintro e W' ⟨h1,h2⟩;rw[qao (by omega),Gd]at h2;exact⟨h1,h2⟩
end Go.bt
end
section
open Go Go.Am Go.Proofs
attribute [local irreducible] Am.bp.holds bH fw bP ek
namespace Go.bt
variable {mx:Int}
open Classical
def MH (L:List Slot) (j:Nat):List (Option Am.Obj):=if L.take j=[]then [none,none,none,none,none,some (.cells [.full []]),none,none,none,none,none,none,none,none,none,none]else [none,none,none,none,none,some (.cells [.c8 14 0]),none,none,none,none,none,none,none,none,some (.rows 3 ((L.take j).map Slot.enc) 0),none]
theorem Oq {P:Program} {G:Nat→Option (List PV)} {f:FuncId} {ps:List PV} {rows:List (List PV)} (h:oQ P G f ps [] (.full rows)):bE P G f ps (.sl rows []):=by
 intro S w vs hS hG eQ;refine dN.mono (fun v w' hq=>?_) (h S w vs hS hG eQ);obtain⟨hb,γ,S',h1,h2,-,-,-,h6⟩:=hq;refine⟨hb,?_⟩
 have hL:bf S' w' (fun b=>S b∨(w.heap.size≤b∧b<w'.heap.size)) w':=fun b hb=>⟨h2 b hb,rfl,rfl⟩
 simp only[lF]at h6;obtain⟨a,rfl,h6⟩:=h6;refine aD.later hL _ ?_;simp only[aD];refine⟨a,_,rfl,by simp,?_⟩
 rcases h6 with h6|⟨b,off,c,sz,h7,h8,h9,UF,h11⟩
 ·exact .inl ⟨h6,trivial⟩
 ·exact .inr ⟨b,off,c,sz,h7,h8,h9,UF,(fun r hr=>nomatch hr:aK sz []),h11,trivial⟩
theorem MU {c csp vv vsp r rsp f fsp t tsp:List (List PV)} {l1 l2 l3 l4 m1 m2 m3 m4:Int} {cl:List aL} {size:Int} {rows:List (List PV)} {L:List Slot} (jI:c=cl.map aL.enc) (wU:cl.length<2^32) (MB:cl≠[]) (Iw:∀x∈cl,x.dv<2^32) (hL:L=slotsOf cl size) (iv:rows=L.map Slot.enc) (hLl:L.length<2^32) {q:AV} (hq:(q=.full []∧L=[])∨(q=.pv (.sl rows [])∧L≠[])):
  oQ Tryz.prog (GG mx) 253 [.agg [.sl c csp,.sl vv vsp,.int .i64 l1,.int .i64 l2,.int .i64 l3,.int .i64 l4,.sl r rsp,.sl f fsp,.sl t tsp,.int .i64 m1,.int .i64 m2,.int .i64 m3,.int .i64 m4],.int .u8 size] [] q:=by
 refine(BS (rs:=[q]) mixed SG (leT rfl) (az (F:=fun A=>fw (CC Tryz.prog (GG mx)) A (Hf Tryz.prog (GG mx)) Wb (Am.start 16 [.agg [.sl c csp,.sl vv vsp,.int .i64 l1,.int .i64 l2,.int .i64 l3,.int .i64 l4,.sl r rsp,.sl f fsp,.sl t tsp,.int .i64 m1,.int .i64 m2,.int .i64 m3,.int .i64 m4],.int .u8 size]) (fun e' s=>match e' with|.normal=>wg Tryz.prog (GG mx) A 0 9 [10] SD SE SF (ri [.tmp 4] [] [q]) s|e'=>ri [.tmp 4] [] [q] e' s)) ?_))
 iterate 105 intro _
 intro yR
 iterate 10 intro _
 intro dF bJ bX
 iterate 10 intro _
 intro zI aU aV bC bA ag aC;refine ej ?_;refine ao (by cbv) (Ua rfl) (fun h=>by first|rfl|cases h) ?_;refine gK ?_
 have hN:((slotsOf cl size).map fun x=>[PV.agg x.enc]).length=L.length:=by rw[hL,qap]
 have hx:∀x∈((slotsOf cl size).map fun x=>[PV.agg x.enc]),x.length=1:=by
  intro x hx;obtain⟨j,-,rfl⟩:=qaw.1 hx;rfl
 refine j0 (G5 _ (Fg.ca [5,9] ((nn [5,5])++List.replicate 10 none) rfl (by cbv)) 323 [.ptr [.sl c csp,.sl vv vsp,.int .i64 l1,.int .i64 l2,.int .i64 l3,.int .i64 l4,.sl r rsp,.sl f fsp,.sl t tsp,.int .i64 m1,.int .i64 m2,.int .i64 m3,.int .i64 m4],.ptr [.int .u8 size]] ((slotsOf cl size).map fun x=>[.agg x.enc]) (MH L) (fun _=>True) rfl (Ub jI wU MB Iw) hx rfl ?_ ?_)
 ·intro v hv eL
  have rB:v<L.length:=by omega
  obtain⟨⟨xc,xt,xh⟩,hxv⟩:∃x,L[v]=x:=⟨_,rfl⟩
  have hxk:((slotsOf cl size).map fun x=>[PV.agg x.enc])[v]=[.agg [.int .i64 xc,.int .i64 xt,.int .u8 xh]]:=by
   have:(slotsOf cl size)[v]'(by rw[←hL];exact rB)=⟨xc,xt,xh⟩:=by rw[←hxv];simp[hL]
   simp[this,Slot.enc]
  rw[hxk]
  have dJ:L.take (v+1)=L.take v++[⟨xc,xt,xh⟩]:=by rw[qan rB,hxv]
  have Zk:L.take (v+1)≠[]:=by rw[dJ];simp
  unfold MH;rw[qai Zk]
  by_cases h0:L.take v=[]
  ·rw[qao h0];refine ej ?_;refine j0 ⟨rfl,?_⟩;refine ej ?_;refine ae (by rw[←dF,←yR];simp) ?_;refine gK ?_;refine j0 ⟨_,Fg.ca [] ((nn [5,5])++List.replicate 8 none++[some 14,none]) rfl (by cbv),rfl,trivial,?_⟩;rw[show(L.take (v+1)).map Slot.enc=bJ [] [[.int .i64 xc,.int .i64 xt,.int .u8 xh]] by rw[←bX,dJ,h0];rfl]
  ·rw[qai h0];obtain⟨z,hz⟩:∃z,z=(L.take v).map Slot.enc:=⟨_,rfl⟩;rw[←hz];refine ej ?_;refine j0 ⟨rfl,?_⟩;refine ej ?_;refine ae (by rw[←dF,hz];exact⟨by simp;omega,by simp;omega,by simp,Kh (enc:=Slot.enc) (fun _=>rfl) _⟩) ?_;refine gK ?_;refine j0 ⟨_,Fg.ca [] ((nn [5,5])++List.replicate 8 none++[some 14,none]) rfl (by cbv),rfl,trivial,?_⟩;rw[show(L.take (v+1)).map Slot.enc=bJ z [[.int .i64 xc,.int .i64 xt,.int .u8 xh]] by rw[←bX,dJ,hz];simp;rfl]
 ·intro eL;rw[hN];unfold MH;rw[qbh,←iv]
  rcases hq with⟨rfl,h0⟩|⟨rfl,h0⟩
  ·rw[qao h0];refine ej ?_;refine j0 (fg (vs:=[.full []]) (t:=[]) [] (by cbv) rfl (by cbv) rfl rfl rfl)
  ·rw[qai h0];refine ej ?_;refine j0 ⟨[.c8 14 0],_,rfl,Fg.trans (Fg.sC (id:=14) rfl rfl) (Fg.ca [] [] rfl (by cbv)),rfl,rfl,[],rfl⟩
theorem YH {c csp vv vsp r rsp f fsp t tsp:List (List PV)} {l1 l2 l3 l4 m1 m2 m3 m4:Int} {cl:List aL} {size:Int} {rows:List (List PV)} {L:List Slot} (jI:c=cl.map aL.enc) (wU:cl.length<2^32) (MB:cl≠[]) (Iw:∀x∈cl,x.dv<2^32) (hL:L=slotsOf cl size) (iv:rows=L.map Slot.enc) (hLl:L.length<2^32):
  pC mx 253 [.agg [.sl c csp,.sl vv vsp,.int .i64 l1,.int .i64 l2,.int .i64 l3,.int .i64 l4,.sl r rsp,.sl f fsp,.sl t tsp,.int .i64 m1,.int .i64 m2,.int .i64 m3,.int .i64 m4],.int .u8 size] (.sl rows []):=by
 by_cases h0:L=[]
 ·have TW:rows=[]:=by rw[iv,h0];rfl
  have:=MU (mx:=mx) (csp:=csp) (vv:=vv) (vsp:=vsp) (r:=r) (rsp:=rsp) (f:=f) (fsp:=fsp) (t:=t) (tsp:=tsp) (l1:=l1) (l2:=l2) (l3:=l3) (l4:=l4) (m1:=m1) (m2:=m2) (m3:=m3) (m4:=m4) jI wU MB Iw hL iv hLl (.inl ⟨rfl,h0⟩);rw[TW];exact Oq this
 ·exact DI (rs:=[.sl rows []]) (MU jI wU MB Iw hL iv hLl (.inr ⟨rfl,h0⟩))
end Go.bt
end
