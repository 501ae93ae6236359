import Derived.Test.YtfaccbkibjkfjaaGreatDoorT07
import Derived.Test.YtfaccbkibjkfjaaGreatDoorT12
import Derived.Test.YtfaccbkibjkfjaaGreatDoorT10
import Derived.Test.YtfaccbkibjkfjaaGreatDoorT19
import Derived.Test.YtfaccbkibjkfjaaGreatDoorT06
import Derived.Test.YtfaccbkibjkfjaaGreatDoorT11
import Derived.Test.YtfaccbkibjkfjaaGreatDoorT22
import Derived.Test.YtfaccbkibjkfjaaGreatDoorT08
set_option linter.all false
set_option maxRecDepth 100000
set_option maxHeartbeats 1000000
section
open Go Go.Am Go.Proofs
namespace Go.bt
theorem dx {B:Nat} {k:IntKind} {ss:List Sh} {ps:List PV} (h:iR B (.i k::ss) ps):∃n r,ps=.int k n::r∧(Lit.int k n).wf=true∧iR B ss r:=by
 simp only[iR,K9]at h;obtain⟨p,r,rfl,⟨n,rfl,hn⟩,h⟩:=h;exact⟨n,r,rfl,hn,h⟩
theorem Eu {B:Nat} {ss:List Sh} {ps:List PV} (h:iR B (.b::ss) ps):∃n r,ps=.bool n::r∧iR B ss r:=by
 simp only[iR,K9]at h;obtain⟨p,r,rfl,⟨n,rfl⟩,h⟩:=h;exact⟨n,r,rfl,h⟩
theorem qe {B:Nat} {row ss:List Sh} {ps:List PV} (h:iR B (.l row::ss) ps):∃rows sp r,ps=.sl rows sp::r∧rows.length≤B∧(∀x∈rows,iR B row x)∧iR B ss r:=by
 simp only[iR,K9]at h;obtain⟨p,r,rfl,⟨rows,sp,rfl,h1,h2,h3⟩,h⟩:=h;exact⟨rows,sp,r,rfl,by omega,h2,h⟩
theorem kO {B:Nat} {ps:List PV} (h:iR B [] ps):ps=[]:=by simpa only[iR]using h
theorem rowsOf {B:Nat} {sh:List Sh} {α:Type} {enc:α→List PV} {Q:α→Prop} (h:∀ps,iR B sh ps→∃x,ps=enc x∧Q x):∀{rows:List (List PV)},(∀r∈rows,iR B sh r)→∃l:List α,rows=l.map enc∧∀x∈l,Q x
 |[],_=>⟨[],rfl,fun _ hx=>by cases hx⟩
 |r::rows,hr=>by
  obtain⟨x,rfl,hx⟩:=h r (hr r (by simp));obtain⟨l,rfl,hl⟩:=rowsOf h (rows:=rows) (fun y hy=>hr y (by simp[hy]))
  exact⟨x::l,rfl,fun y hy=>by
   rcases qam.1 hy with rfl|hy
   ·exact hx
   ·exact hl y hy⟩
theorem KL {n:Int} (h:(Lit.int .u8 n).wf=true):0≤n∧n<256:=by
 simp only[Lit.wf,qaG,qae]at h
 have h1:IntKind.u8.min=0:=by rfl
 have h2:IntKind.u8.max=255:=by rfl
 rw[h1,h2]at h;omega
end Go.bt
end
section
open Go Go.Am
namespace Go.bt
open Classical
def abp:Item:=⟨0,0,0,0,false,false⟩
def BZ (l:List Item) (n:Int) (id:Int):Int:=(l.getD (id/5-1).toNat abp).rk%n
theorem JQ {l:List Item} {n:Int} {i:Nat} (h:i<l.length):BZ l n (5*((i:Int)+1))=l[i].rk%n:=by
 unfold BZ
 have:(5*((i:Int)+1)/5-1).toNat=i:=by omega
 rw[this,qab,qag h];rfl
def lE (n:Int) (i:Nat) (x:Item):List PV:=[.int .i64 (5*((i:Int)+1)),.int .i64 (x.rk%n)]
theorem qv {l:List Item} {n:Int} {v:Nat}:lL l n v=(l.take v).mapIdx (lE n):=rfl
theorem Hz {l:List Item} {n:Int} {v:Nat} (h:v<l.length):lL l n (v+1)=lL l n v++[lE n v l[v]]:=by
 rw[qv,qv,qan h,qdh];simp only[qaT,qce,List.mapIdx_nil];rw[show 0+min v l.length=v by omega]
theorem MW {l:List Item} {n id:Int} {v:Nat}:aF.CZ [1] 1 (lL l n v) [.int .i64 id]:=by
 refine⟨rfl,by simp[aR],fun r hr=>?_⟩;obtain⟨i,hi,rfl⟩:=qaI hr;simp only[qv,qc0];simp[aR,lE]
theorem JR {n:Int} {z:List PV}:∀{l:List Item} {k0 i:Nat} (h:i<l.length),aF.xJ 1 (l.mapIdx fun j=>lE n (j+k0)) [.int .i64 (5*(((i+k0:Nat):Int)+1))] z=.int .i64 (l[i].rk%n)
 |x::l,k0,0,h=>by
  rw[qce];simp[aF,jy,lE,JK,jz,qbv]
 |x::l,k0,i+1,h=>by
  rw[qce];have ih:=JR (n:=n) (z:=z) (l:=l) (k0:=k0+1) (i:=i) (by simpa using h)
  have hf:(fun j=>lE n (j+1+k0))=fun j=>lE n (j+(k0+1)):=by funext j;congr 1;omega
  rw[hf];rw[show((i+1+k0:Nat):Int)=((i+(k0+1):Nat):Int) by omega]
  have MB:(5*(((i+(k0+1):Nat):Int)+1)==5*(((0+k0:Nat):Int)+1))=false:=by simp;omega
  rw[List.getElem_cons_succ,←ih];simp only[aF];unfold jy;rw[qbv]
  have:JK [.int .i64 (5*(((i+(k0+1):Nat):Int)+1))] ((lE n (0+k0) x).take 1)=false:=by
   simp only[lE,qbl,qbo,JK,MB,Bool.false_and]
  rw[this]
theorem Um {l:List Item} {n:Int} {z:List PV} {v i:Nat} (hv:v≤l.length) (h:i<v):aF.xJ 1 (lL l n v) [.int .i64 (5*((i:Int)+1))] z=.int .i64 (BZ l n (5*((i:Int)+1))):=by
 have h1:i<(l.take v).length:=by simp;omega
 have:=JR (n:=n) (z:=z) (l:=l.take v) (k0:=0) h1;rw[JQ (by omega)];simpa[qv]using this
theorem JU {n:Int}:∀{l:List Item} {k0 i:Nat} (h:l.length≤i),aF.yU 1 (l.mapIdx fun j=>lE n (j+k0)) [.int .i64 (5*(((i+k0:Nat):Int)+1))]=false
 |[],k0,i,h=>rfl
 |x::l,k0,0,h=>by simp at h
 |x::l,k0,i+1,h=>by
  rw[qce];have ih:=JU (n:=n) (l:=l) (k0:=k0+1) (i:=i) (by simpa using h)
  have hf:(fun j=>lE n (j+1+k0))=fun j=>lE n (j+(k0+1)):=by funext j;congr 1;omega
  rw[hf];rw[show((i+1+k0:Nat):Int)=((i+(k0+1):Nat):Int) by omega]
  have MB:(5*(((i+(k0+1):Nat):Int)+1)==5*(((0+k0:Nat):Int)+1))=false:=by simp;omega
  show dQ _ _ _=false;have ih':dQ _ _ _=false:=ih;unfold dQ at ih' ⊢;rw[List.any_cons,ih'];simp only[lE,qbl,qbo,JK,MB,Bool.false_and,Bool.false_or]
theorem Un {l:List Item} {n:Int} {v:Nat} (hv:v<l.length):aF.HS 1 (lL l n v) [.int .i64 (5*((v:Int)+1))] [.int .i64 (l[v].rk%n)]=lL l n (v+1):=by
 have h1:=JU (n:=n) (l:=l.take v) (k0:=0) (i:=v) (by simp;omega);have h2:dQ 1 (lL l n v) [.int .i64 (5*((v:Int)+1))]=false:=h1;show(match dQ 1 (lL l n v) [.int .i64 (5*((v:Int)+1))]with|true=>_|false=>_)=_;rw[h2,Hz hv];rfl
theorem KK {l:List Item} {calls:Int} {v:Nat} (h:v<l.length):fU l calls (v+1)=fU l calls v++[kX calls v l[v]]:=by
 unfold fU;rw[qan h,qdh];simp only[qaT,qce,List.mapIdx_nil];rw[show 0+min v l.length=v by omega]
theorem o9 {l:List Item} {calls:Int} {v:Nat} (h:v≤l.length):(fU l calls v).length=v:=by
 unfold fU;rw[List.length_mapIdx,qaT];omega
theorem Ch {l:List Item} {calls:Int} {v:Nat} {b:bw} (h:b∈fU l calls v):∃i,∃h:i<l.length,i<v∧b=kX calls i l[i]:=by
 obtain⟨i,hi,rfl⟩:=qaI h;have QG:=hi;unfold fU at QG;rw[List.length_mapIdx,qaT]at QG;refine⟨i,by omega,by omega,?_⟩;simp only[fU,qc0,qcH]
theorem Eh {calls:Int} {i:Nat} {x:Item} (hx:BM x) (hc:2≤calls∧calls≤6) (hi:i<2^20):og (kX calls i x):=by
 obtain⟨h1,h2,h3,h4,h5,h6,h7,h8⟩:=hx;have l1:0≤x.load%(calls-1):=qbb _ (by omega);have l2:x.load%(calls-1)<calls-1:=qaY _ (by omega);have l3:0≤x.stay%(calls-1-x.load%(calls-1)):=qbb _ (by omega);have l4:x.stay%(calls-1-x.load%(calls-1))<calls-1-x.load%(calls-1):=qaY _ (by omega);unfold og kX Lc;dsimp only;refine⟨?_,⟨by omega,by omega⟩,⟨by omega,by omega⟩,⟨by omega,by omega⟩,⟨by omega,by omega⟩,⟨by omega,by omega⟩⟩
 split<;>omega
end Go.bt
end
section
open Go Go.Am
namespace Go.bt
open Classical
section
variable {cl:List aL} {vl:List bz} {boxes:List bw}
theorem Ei {home:Int→Int} {k e:Int} {l:List aH}:∀{n:Nat},iI cl vl boxes home k l n=.inr e→∃b∈boxes,b.id=e
 |0,h=>by simp[iI]at h
 |n+1,h=>by
  unfold iI at h;split at h
  ·rename_i l' b h3 h4;unfold pU at h;split at h
   ·cases h
   ·split at h
    ·cases h
    ·exact⟨b,qbE h4,qdz h⟩
  ·cases h
  ·rename_i e' h3;rw[←qdz h];exact Ei h3
theorem xu {home:Int→Int} {e:Int}:∀{k:Nat},fj cl vl boxes home k=.inr e→∃b∈boxes,b.id=e
 |0,h=>by simp[fj]at h
 |k+1,h=>by
  unfold fj at h;split at h
  ·split at h
   ·cases h
   ·rename_i e' h2;rw[←qdz h];exact Ei h2
  ·rename_i e' h2;rw[←qdz h];exact xu h2
theorem Mt {home:Int→Int} {calls:Nat} (h:(xF cl vl boxes home calls).2≠0):∃b∈boxes,b.id=(xF cl vl boxes home calls).2:=by
 unfold xF at h ⊢
 cases hs:fj cl vl boxes home calls with
 |inl L=>rw[hs]at h;exact absurd rfl h
 |inr e=>exact xu hs
end
noncomputable def lJ (cl:List aL) (vl:List bz) (home:Int→Int) (calls:Nat) (boxes:List bw):Nat→List bw
 |0=>boxes
 |q+1=>(lJ cl vl home calls boxes q).filter fun b=>decide (b.id≠(xF cl vl (lJ cl vl home calls boxes q) home calls).2)
section
variable {cl:List aL} {vl:List bz} {home:Int→Int} {calls:Nat} {boxes:List bw}
theorem En:∀{q:Nat},(lJ cl vl home calls boxes q).Sublist boxes
 |0=>List.Sublist.refl _
 |q+1=>List.Sublist.trans qcw (En (q:=q))
theorem xv {α:Type} {p:α→Bool}:∀{l:List α} {x:α},x∈l→p x=false→(l.filter p).length<l.length
 |y::l,x,hx,hp=>by
  rcases qam.1 hx with rfl|hx
  ·rw[qcp,hp];have:=qbB p l;simp;omega
  ·have:=xv hx hp;rw[qcp];split
   ·simp only[qaq];omega
   ·simp only[qaq];omega
theorem Eo:∀{q:Nat},(∀k,k<q→(xF cl vl (lJ cl vl home calls boxes k) home calls).2≠0)→(lJ cl vl home calls boxes q).length+q≤boxes.length
 |0,_=>by simp[lJ]
 |q+1,h=>by
  have ih:=Eo (q:=q) (fun k hk=>h k (by omega));obtain⟨b,hb,he⟩:=Mt (h q (by omega));have:=xv (p:=fun b=>decide (b.id≠(xF cl vl (lJ cl vl home calls boxes q) home calls).2)) hb (by simp[he]);rw[lJ];omega
theorem qw:∀{q:Nat},lJ cl vl home calls (boxes.filter fun b=>decide (b.id≠(xF cl vl boxes home calls).2)) q=lJ cl vl home calls boxes (q+1)
 |0=>rfl
 |q+1=>by
  rw[lJ,qw (q:=q)];rfl
end
theorem JZ {cl:List aL} {vl:List bz} {home:Int→Int} {calls:Nat}:∀{q n:Nat} {boxes:List bw},(∀k,k<q→(xF cl vl (lJ cl vl home calls boxes k) home calls).2≠0)→(xF cl vl (lJ cl vl home calls boxes q) home calls).2=0→q<n→rounds cl vl home calls n boxes=(lJ cl vl home calls boxes q,(xF cl vl (lJ cl vl home calls boxes q) home calls).1)
 |0,n+1,boxes,_,h,_=>by
  unfold rounds;rw[qao (show(xF cl vl boxes home calls).2=0 from h)];rfl
 |q+1,n+1,boxes,hk,h,hn=>by
  have h0:=hk 0 (by omega);unfold rounds;rw[qai (show ¬(xF cl vl boxes home calls).2=0 from h0)];have:=JZ (cl:=cl) (vl:=vl) (home:=home) (calls:=calls) (q:=q) (n:=n) (boxes:=boxes.filter fun b=>decide (b.id≠(xF cl vl boxes home calls).2)) (fun k eR=>by rw[qw];exact hk (k+1) (by omega)) (by rw[qw];exact h) (by omega);rw[this,qw]
end Go.bt
end
section
open Go Go.Am
namespace Go.bt
open Classical
def B1:List (List UInt8):=[[67,83,81,85,51,48,53,52,51,56,51],[65,65,65,85,48,48,48,48,48,48,55],[65,65,65,85,48,48,48,48,48,49,50],[65,65,65,85,49,48,48,48,48,48,49],[65,65,65,85,48,48,48,48,49,48,48]]
def Ez:List (List UInt8):=[[78,76,82,84,77],[68,69,72,65,77],[83,69,71,79,84],[71,66,70,88,84],[70,82,76,69,72],[66,69,65,78,82]]
def m8s (l:List Int):List (List PV):=l.map fun n=>[.int .u8 n]
def n7 (more:List Int) (i:Nat) (b:bw):bw:=
 if i<more.length then
  {b with
       cls:=more.getD i 0%10,cK:=aF.eq (aF.bits .and .u8 (aF.shr .u8 (more.getD i 0) 4) 1) 1,
       number:=if aF.eq (aF.bits .and .u8 (aF.shr .u8 (more.getD i 0) 5) 1) 1=true then B1.getD (i%5) []else b.number}
 else b
noncomputable def fG (prev:List bw) (b:bw) (k:Nat):bw:=if ∃x∈prev.take k,x.number=b.number then{b with number:=[]}else b
noncomputable def lP (more:List Int) (B:List bw):Nat→List bw
 |0=>[]
 |v+1=>match B[v]? with
  |some b=>lP more B v++[fG (lP more B v) (n7 more v b) v]
  |none=>lP more B v
theorem zK {more:List Int} {B:List bw} {v:Nat} (h:v<B.length):lP more B (v+1)=lP more B v++[fG (lP more B v) (n7 more v B[v]) v]:=by
 rw[lP,qag h]
theorem abY {more:List Int} {B:List bw}:∀{v:Nat},v≤B.length→(lP more B v).length=v
 |0,_=>rfl
 |v+1,h=>by rw[zK (by omega),qal,abY (by omega)];rfl
theorem pd {prev:List bw} {b:bw} {k:Nat} (h:k<prev.length):fG prev b (k+1)=if prev[k].number=(fG prev b k).number then{fG prev b k with number:=[]}else fG prev b k:=by
 have e:(∃x∈prev.take (k+1),x.number=b.number)↔(∃x∈prev.take k,x.number=b.number)∨prev[k].number=b.number:=by
  rw[qan h];constructor
  ·rintro⟨x,hx,he⟩
   rcases qav.1 hx with hx|hx
   ·exact .inl ⟨x,hx,he⟩
   ·rw[qaO]at hx;rw[hx]at he;exact .inr he
  ·rintro(⟨x,hx,he⟩|he)
   ·exact⟨x,qav.2 (.inl hx),he⟩
   ·exact⟨prev[k],qav.2 (.inr (qaO.2 rfl)),he⟩
 unfold fG
 by_cases h1:∃x∈prev.take k,x.number=b.number
 ·rw[qao (e.2 (.inl h1)),qao h1];split<;>rfl
 ·rw[qai h1]
  by_cases h2:prev[k].number=b.number
  ·rw[qao (e.2 (.inr h2)),qao h2]
  ·rw[qai (fun h=>(e.1 h).elim h1 h2),qai h2]
theorem pg {prev:List bw} {b:bw}:fG prev b 0=b:=by
 unfold fG;rw[qai (by simp)]
def zL (i:Nat):cT:=⟨Ez.getD i [],1000*((i:Int)+1),0⟩
def gB (v:Nat):List cT:=(List.range v).map zL
theorem KM {v:Nat}:gB (v+1)=gB v++[zL v]:=by
 unfold gB;rw[qcy,qaX];rfl
theorem fT {v:Nat}:(gB v).length=v:=by simp[gB]
theorem Vd {α:Type} {a c:List α} {b b':α} {v:Nat} (h:a.length=v):(a++b::c).set v b'=a++b'::c:=by
 subst h;simp
theorem Uo {a c:List bw} {b b':bw} {v off:Nat} {ys:List PV} (h:a.length=v) (hp:jL off ys b.enc=b'.enc):aF.Gt ((a++b::c).map bw.enc) (Int.ofNat v) off ys=(a++b'::c).map bw.enc:=by
 show((a++b::c).map bw.enc).set v (jL off ys (((a++b::c).map bw.enc).getD v []))=_
 have h1:((a++b::c).map bw.enc).getD v []=b.enc:=by
  subst h;simp[qab]
 rw[h1,hp,←List.map_set,Vd h]
theorem HA {P:Program} {G:Nat→Option (List PV)} {f:FuncId} {ps qs:List PV} {rows sp:List (List PV)} {os:List (Nat×List (List PV))} {res:AV} (h0:∀{S:Nat→Prop} {w:World} {v:Value},aD S w (.sl rows sp) v→aD S w (.sl rows []) v) (h:oQ P G f (qs++.sl rows []::ps) os res):oQ P G f (qs++.sl rows sp::ps) os res:=by
 intro S w vs hS hG eQ;refine h S w vs hS hG ?_
 clear h
 induction qs generalizing vs with
 |nil=>
  simp only[qbi,aM]at eQ ⊢;obtain⟨v,r,rfl,h1,h2⟩:=eQ;exact⟨v,r,rfl,h0 h1,h2⟩
 |cons q qs ih=>
  simp only[qaN,aM]at eQ ⊢;obtain⟨v,r,rfl,h1,h2⟩:=eQ;exact⟨v,r,rfl,h1,ih r h2⟩
theorem KN {size:Int} {c:Nat} {x:aL} (h:x.dv≤5):(l9 size c x).length≤10:=by
 have h2:(fk size).length≤2:=by unfold fk;split<;>(try split)<;>simp
 have:∀l:List Nat,(l.flatMap fun t:Nat=>(fk size).map fun h=>(⟨(c:Int),(t:Int),h⟩:Slot)).length≤2*l.length:=fun l=>by
  induction l with
  |nil=>simp
  |cons a l ih=>simp only[qdo,qal,qap,qaq];omega
 have h3:=this (List.range x.dv.toNat);rw[List.length_range]at h3;unfold l9;omega
theorem Ox {cl:List aL} (hc:∀x∈cl,x.dv≤5) (hl:cl.length≤12) (size:Int):(slotsOf cl size).length<2^32:=by
 have:∀(l:List aL) (f:Nat→Nat),(∀x∈l,x.dv≤5)→((l.mapIdx fun i x=>l9 size (f i) x).flatten).length≤10*l.length:=fun l=>by
  induction l with
  |nil=>intro f _;simp
  |cons a l ih=>
   intro f h;rw[qce];simp only[qa3,qal,qaq];have h1:=KN (size:=size) (c:=f 0) (h a (qaz ..));have h2:=ih (fun i=>f (i+1)) (fun x hx=>h x (qaE _ hx));omega
 have h:=this cl id hc;have h':(slotsOf cl size).length≤10*cl.length:=h;omega
theorem EA {cl:List aL} {vl:List bz} {home:Int→Int} {calls:Nat}:∀{n:Nat} {boxes:List bw},(rounds cl vl home calls n boxes).1.length≤boxes.length
 |0,boxes=>by simp[rounds]
 |n+1,boxes=>by
  unfold rounds;split
  ·exact qak _
  ·exact qbr (EA (n:=n)) (qbB _ _)
end Go.bt
end
section
open Go Go.Am Go.Proofs
namespace Go.bt
abbrev Cl:List Sh:=[.i .u8,.i .u8,.i .u8,.b]
abbrev Kv:List Sh:=[.i .u8,.i .u8,.i .u8,.i .u8,.b,.b]
theorem Yq {n:Int} (h:(Lit.int .u32 n).wf=true):0≤n∧n<2^32:=by
 simp only[Lit.wf,qaG,qae]at h
 have h1:IntKind.u32.min=0:=by rfl
 have h2:IntKind.u32.max=4294967295:=by rfl
 rw[h1,h2]at h;omega
theorem placeOf {B:Nat} {ps:List PV} (h:iR B Cl ps):∃x:Place,ps=x.enc∧xw x:=by
 obtain⟨n1,_,rfl,w1,h⟩:=dx h;obtain⟨n2,_,rfl,w2,h⟩:=dx h;obtain⟨n3,_,rfl,w3,h⟩:=dx h;obtain⟨n4,_,rfl,hqn4⟩:=Eu h
 replace h:=hqn4
 obtain rfl:=kO h;exact⟨⟨n1,n2,n3,n4⟩,rfl,(KL w1).1,(KL w1).2,(KL w2).1,(KL w2).2,(KL w3).1,(KL w3).2⟩
theorem Yz {B:Nat} {ps:List PV} (h:iR B Kv ps):∃x:Item,ps=x.enc∧BM x:=by
 obtain⟨n1,_,rfl,w1,h⟩:=dx h;obtain⟨n2,_,rfl,w2,h⟩:=dx h;obtain⟨n3,_,rfl,w3,h⟩:=dx h;obtain⟨n4,_,rfl,w4,h⟩:=dx h;obtain⟨n5,_,rfl,hqn5⟩:=Eu h
 replace h:=hqn5
 obtain⟨n6,_,rfl,hqn6⟩:=Eu h
 replace h:=hqn6
 obtain rfl:=kO h;exact⟨⟨n1,n2,n3,n4,n5,n6⟩,rfl,(KL w1).1,(KL w1).2,(KL w2).1,(KL w2).2,(KL w3).1,(KL w3).2,(KL w4).1,(KL w4).2⟩
theorem placesOf {ps:List PV} (h:iR 1048576 [.l Cl] ps):∃(rows sp:List (List PV)) (l:List Place),ps=[.sl rows sp]∧rows=l.map Place.enc∧l.length<2^32∧∀x∈l,xw x:=by
 obtain⟨s,ssp,_,rfl,bs,hs,h⟩:=qe h;obtain rfl:=kO h;obtain⟨l,rfl,hl⟩:=rowsOf (fun ps=>placeOf) hs;simp only[qap]at bs;exact⟨_,ssp,l,rfl,rfl,by omega,hl⟩
theorem UW {ps:List PV} (h:iR 1048576 [.l Kv] ps):∃(rows sp:List (List PV)) (l:List Item),ps=[.sl rows sp]∧rows=l.map Item.enc∧l.length<2^32∧∀x∈l,BM x:=by
 obtain⟨s,ssp,_,rfl,bs,hs,h⟩:=qe h;obtain rfl:=kO h;obtain⟨l,rfl,hl⟩:=rowsOf (fun ps=>Yz) hs;simp only[qap]at bs;exact⟨_,ssp,l,rfl,rfl,by omega,hl⟩
theorem Zy {B:Nat} {ps:List PV} (h:iR B [.i .u32] ps):∃n,ps=[.int .u32 n]∧0≤n∧n<2^32:=by
 obtain⟨n,_,rfl,w,h⟩:=dx h;obtain rfl:=kO h;exact⟨n,rfl,Yq w⟩
theorem Zz {B:Nat} {ps:List PV} (h:iR B [.i .u8] ps):∃n,ps=[.int .u8 n]∧0≤n∧n<256:=by
 obtain⟨n,_,rfl,w,h⟩:=dx h;obtain rfl:=kO h;exact⟨n,rfl,KL w⟩
theorem byteOf {B:Nat} {ps:List PV} (h:iR B [.i .u8] ps):∃x:Int,ps=[PV.int .u8 x]∧(0≤x∧x<256):=by
 obtain⟨n,_,rfl,w,h⟩:=dx h;obtain rfl:=kO h;exact⟨n,rfl,KL w⟩
theorem ajg {ps:List PV} (h:iR 1048576 [.l [.i .u8]] ps):∃(rows sp:List (List PV)) (l:List Int),ps=[.sl rows sp]∧rows=m8s l∧l.length<2^32∧∀x∈l,0≤x∧x<256:=by
 obtain⟨s,ssp,_,rfl,bs,hs,h⟩:=qe h;obtain rfl:=kO h;obtain⟨l,rfl,hl⟩:=rowsOf (enc:=fun n:Int=>[PV.int .u8 n]) (Q:=fun x=>0≤x∧x<256) (fun ps=>byteOf) hs;simp only[qap]at bs;exact⟨_,ssp,l,rfl,rfl,by omega,hl⟩
end Go.bt
end
section
open Go Go.Am
namespace Go.bt
open Classical
theorem F4 (p:Place):fX (r9 p):=by
 have h1:=qbb p.bay (by decide:(5:Int)≠0);have h2:=qaY p.bay (by decide:(0:Int)<5);have h3:=qbb p.row (by decide:(5:Int)≠0);have h4:=qaY p.row (by decide:(0:Int)<5);have h5:=qbb p.dv (by decide:(4:Int)≠0);have h6:=qaY p.dv (by decide:(0:Int)<4);refine⟨fun i hi=>absurd hi (by simp[r9]),?_⟩;simp only[In,r9];refine⟨⟨by omega,by omega⟩,⟨by omega,by omega⟩,⟨by omega,by omega⟩,⟨by omega,by omega⟩,⟨by omega,by omega⟩,⟨by omega,by omega⟩,⟨by omega,by omega⟩,⟨by omega,by omega⟩,⟨by omega,by omega⟩,?_⟩
 split<;>omega
theorem KO:fX BX:=by
 refine⟨fun i hi=>absurd hi (by simp[BX]),?_⟩;simp only[In,BX];omega
def MJ (c:aL):Prop:=fX c∧c.dk=0∧c.dv≤5∧c.cq=[]∧c.psp=[]
theorem zX (cs:List aL) (p:Place):nQ cs p=cs∨(nQ cs p=cs++[r9 p]∧∀c∈cs,qz c (r9 p)):=by
 unfold nQ;split
 ·exact .inl rfl
 ·rename_i h;refine .inr ⟨rfl,fun c hc ha=>h ⟨c,hc,?_⟩⟩;exact ha
theorem Gh:∀{l:List Place} {cs:List aL},(∀c∈cs,MJ c)∧cs.Pairwise qz→(∀c∈l.foldl nQ cs,MJ c)∧(l.foldl nQ cs).Pairwise qz
 |[],cs,h=>h
 |p::l,cs,h=>by
  refine Gh (l:=l) ?_
  rcases zX cs p with e|⟨e,h2⟩
  ·rw[e];exact h
  ·rw[e];refine⟨fun c hc=>?_,qcs.2 ⟨h.2,qcD _ _,fun a ha b hb=>?_⟩⟩
   ·rcases qav.1 hc with hc|hc
    ·exact h.1 c hc
    ·rw[qaO]at hc;rw[hc];exact⟨F4 p,rfl,by have:=qaY p.dv (by decide:(0:Int)<4);show 2+p.dv%4≤5;omega,rfl,rfl⟩
   ·rw[qaO]at hb;rw[hb];exact h2 a ha
theorem GQ (l:List Place):(∀c∈ie l,MJ c)∧(ie l).Pairwise qz:=by
 unfold ie;split
 ·refine⟨fun c hc=>?_,qcD _ _⟩;rw[qaO]at hc;rw[hc];exact⟨KO,rfl,by decide,rfl,rfl⟩
 ·exact Gh ⟨fun c hc=>by simp at hc,List.Pairwise.nil⟩
theorem J1:∀{l:List Place} {cs:List aL},(l.foldl nQ cs).length≤cs.length+l.length
 |[],cs=>by simp
 |p::l,cs=>by
  have:=J1 (l:=l) (cs:=nQ cs p)
  rcases zX cs p with e|⟨e,-⟩
  ·rw[e]at this;simp only[qbu,qaq];rw[e];omega
  ·rw[e]at this;simp only[qbu,qaq];rw[e];simp at this;omega
theorem Kg (l:List Place):1≤(ie l).length∧(ie l).length≤12:=by
 unfold ie;split
 ·decide
 ·rename_i h;refine⟨qbm.2 h,?_⟩;have:=J1 (l:=l.take (min l.length 12)) (cs:=[]);simp only[qaD,qaT]at this;unfold acH;omega
def YQ (x:bz) (v:Nat):Prop:=0≤x.bay∧x.bay<v∧(x.rows=[0,1]∨x.rows=[2,3,4])
def YR (a b:bz):Prop:=a.bay=b.bay→∀r,r∈b.rows→r∉a.rows
theorem MK {covers:Int} {v:Nat}:(∀x∈se covers v,x.bay=(v:Int)∧(x.rows=[0,1]∨x.rows=[2,3,4]))∧(se covers v).Pairwise YR∧(se covers v).length≤2:=by
 unfold se;split<;>split
 all_goals simp[YR]
theorem B3 {covers:Int}:∀{v:Nat},(∀x∈cJ covers v,YQ x v)∧(cJ covers v).Pairwise YR∧(cJ covers v).length≤2*v
 |0=>⟨fun x hx=>by simp[cJ]at hx,List.Pairwise.nil,by simp[cJ]⟩
 |v+1=>by
  obtain⟨h1,h2,h3⟩:=B3 (covers:=covers) (v:=v);obtain⟨h4,h5,h6⟩:=MK (covers:=covers) (v:=v);rw[cJ];refine⟨fun x hx=>?_,qcs.2 ⟨h2,h5,fun a ha b hb=>?_⟩,by simp;omega⟩
  ·rcases qav.1 hx with hx|hx
   ·obtain⟨a,b,c⟩:=h1 x hx;exact⟨a,by omega,c⟩
   ·obtain⟨a,c⟩:=h4 x hx;exact⟨by omega,by omega,c⟩
  ·intro he;have:=(h1 a ha).2.1;have:=(h4 b hb).1;omega
theorem afc {x:bz} {v:Nat} (h:YQ x v) (hv:v≤40):iM x:=by
 obtain⟨h1,h2,h3⟩:=h;refine⟨⟨h1,by omega⟩,?_,?_⟩
 ·rcases h3 with h|h<;>rw[h]<;>simp
 ·intro i hi
  rcases h3 with h|h
  ·rw[h]at hi;unfold qA;rw[h]
   match i,hi with
   |0,_=>exact⟨by decide,by decide,.inl rfl⟩
   |1,_=>exact⟨by decide,by decide,.inr (by decide)⟩
  ·rw[h]at hi;unfold qA;rw[h]
   match i,hi with
   |0,_=>exact⟨by decide,by decide,.inl rfl⟩
   |1,_=>exact⟨by decide,by decide,.inr (by decide)⟩
   |2,_=>exact⟨by decide,by decide,.inr (by decide)⟩
theorem ad5 (l:List Place) (covers:Int):fo (ie l) (cJ covers 5):=by
 obtain⟨h1,h2⟩:=GQ l;obtain⟨h3,h4⟩:=Kg l;obtain⟨h5,h6,h7⟩:=B3 (covers:=covers) (v:=5);refine⟨⟨h3,by omega,by omega⟩,fun i hi=>⟨(h1 _ (qaf hi)).1,fun k hk=>qaU.1 h2 k i (by omega) hi hk⟩,fun i hi=>⟨afc (h5 _ (qaf hi)) (by omega),fun k hk he=>qaU.1 h6 k i (by omega) hi hk he⟩⟩
theorem afY {cl:List aL} {vl:List bz} {boxes:List bw} (hs:fo cl vl) (hc:∀c∈cl,MJ c):gC cl vl boxes []:=
 ⟨hs,fun i hi=>absurd hi (by simp),fun i hi=>.inl (by rw[(hc _ (qaf hi)).2.1];decide)⟩
theorem afZ {cl:List aL} {vl:List bz} {boxes:List bw} {l:List aH} (hs:fo cl vl) (hc:∀c∈cl,MJ c) (h:wM cl vl boxes l):gC cl vl boxes l:=by
 rcases h with rfl|h
 ·exact afY hs hc
 ·exact h
def KP (boxes nT:List bw) (id:Int):Prop:=(ku boxes id).map (fun b=>(b.size,b.high))=(ku nT id).map (fun b=>(b.size,b.high))
theorem KP.symm {boxes nT:List bw} {id:Int} (h:KP boxes nT id):KP nT boxes id:=Eq.symm h
theorem ac6 {boxes nT:List bw} {l:List aH} (h:∀x∈l,KP boxes nT x.box) {rk half:Int}:∀{n:Nat},iJ boxes l rk half n=iJ nT l rk half n
 |0=>rfl
 |n+1=>by
  rw[iJ,iJ,ac6 h (n:=n)]
  congr 1
  cases hx:l[n]? with
  |none=>rfl
  |some x=>
   have ha:=h x (qbE hx);unfold KP at ha;dsimp only
   congr 1
   cases h1:ku boxes x.box<;>cases h2:ku nT x.box<;>rw[h1,h2]at ha<;>simp at ha ⊢
   unfold DM;rw[ha.2]
theorem aeo {cl:List aL} {vl:List bz} {boxes nT:List bw} {l:List aH} (h:∀x∈l,KP boxes nT x.box) (hs:gC cl vl boxes l):gC cl vl nT l:=by
 obtain⟨h1,h2,h3⟩:=hs;refine⟨h1,fun i hi gQ=>?_,fun i hi=>?_⟩
 ·obtain⟨⟨b,hb,oA⟩,h5,h6⟩:=h2 i hi gQ;refine⟨?_,h5,h6⟩;have ha:=h _ (qaf hi);unfold KP at ha;rw[hb]at ha
  cases h7:ku nT l[i].box with
  |none=>rw[h7]at ha;simp at ha
  |some b2=>
   rw[h7]at ha;simp only[qaM,qaa,qas]at ha;exact⟨b2,rfl,by rw[←ha.1];exact oA⟩
 ·rcases h3 i hi with h4|⟨h4,h5⟩
  ·exact .inl h4
  ·refine .inr ⟨?_,?_⟩
   ·unfold dk at h4 ⊢;rw[←ac6 h];exact h4
   ·unfold dk at h5 ⊢;rw[←ac6 h];exact h5
theorem af0 {l:List aH} {x:aH} {id:Int} (h:MC l id):MC (nP l x) id:=by
 obtain⟨y,hy,rfl⟩:=h;unfold nP
 rcases Int.lt_trichotomy y.box x.box with h|h|h
 ·exact⟨y,by simp[hy,h],rfl⟩
 ·exact⟨x,by simp,h.symm⟩
 ·exact⟨y,by simp[hy,h],rfl⟩
theorem agG {l:List aH} {x:aH}:MC (nP l x) x.box:=⟨x,by simp[nP],rfl⟩
theorem agZ {l:List aH} {x y:aH} (h:y∈nP l x):y∈l∨y=x:=by
 unfold nP at h;simp only[qav,qba,qaO]at h
 rcases h with(h|h)|h
 ·exact .inl h.1
 ·exact .inr h
 ·exact .inl h.1
section
variable {cl:List aL} {vl:List bz} {boxes:List bw}
def aep (boxes:List bw) (k:Int) (l:List aH):Prop:=∀x∈l,∃b∈boxes,b.id=x.box∧lG b k
theorem agn {k:Int} {l:List aH} {x:aH} (h:aep boxes k l) (hx:∃b∈boxes,b.id=x.box∧lG b k):aep boxes k (nP l x):=fun y hy=>by
 rcases agZ hy with hy|rfl
 ·exact h y hy
 ·exact hx
theorem aeq {α β:Type} {P:β→Prop} {f:β→α→β}:∀{l:List α} {b:β},(∀b a,a∈l→P b→P (f b a))→P b→P (l.foldl f b)
 |[],_,_,h=>h
 |a::l,b,hf,h=>aeq (l:=l) (fun b x hx=>hf b x (qaE _ hx)) (hf b a (qaz ..) h)
theorem afy {was:List aH} {k:Int}:∀{t:Nat},aep boxes k (pS cl vl boxes was k t)
 |0=>fun x hx=>by simp[pS]at hx
 |t+1=>by
  unfold pS sc;refine aeq (P:=aep boxes k) (fun l b hb h=>?_) (afy (t:=t));have fP:=qbf hb;unfold kq;split
  ·split
   ·rename_i h';exact agn h ⟨b,fP,rfl,by unfold lG;omega⟩
   ·exact h
  ·exact h
theorem aer {l r:List aH} {id rk:Int}:∀{s:List Slot},sf cl vl boxes l id rk s=some r→∃x,r=nP l ⟨id,x⟩
 |[],h=>by simp[sf]at h
 |x::s,h=>by
  unfold sf at h;split at h
  ·exact⟨x,(qa9 h).symm⟩
  ·exact aer h
theorem ad6 {l r:List aH} {id size home:Int}:∀{t:Nat},iK cl vl boxes l id size home t=some r→∃x,r=nP l ⟨id,x⟩
 |0,h=>by simp[iK]at h
 |t+1,h=>by
  unfold iK at h;split at h
  ·rename_i r' h';rw[←qa9 h];exact ad6 h'
  ·exact aer h
theorem afz {home:Int→Int} {k:Int} {l:List aH} (h:aep boxes k l):∀{v:Nat} {r:List aH},v≤boxes.length→iI cl vl boxes home k l v=.inl r→aep boxes k r∧∀i (hi:i<v) (hl:i<boxes.length),lG boxes[i] k→MC r boxes[i].id
 |0,r,_,hp=>by
  unfold iI at hp;rw[←qbs hp];exact⟨h,fun i hi=>absurd hi (by omega)⟩
 |v+1,r,hv,hp=>by
  have aT:v<boxes.length:=by omega
  cases h1:iI cl vl boxes home k l v with
  |inr e=>rw[iI,h1]at hp;simp at hp
  |inl l'=>
   obtain⟨h2,h3⟩:=afz h (by omega) h1;rw[MI aT h1]at hp;unfold pU at hp;split at hp
   ·rename_i ajh;rw[←qbs hp];refine⟨h2,fun i hi hl ha=>?_⟩
    rcases qbQ i v with TX|TX
    ·exact h3 i TX hl ha
    ·obtain rfl:i=v:=by omega
     rcases ajh with hs|hs|hs
     ·exact absurd ha.1 (by omega)
     ·exact absurd ha.2 (by omega)
     ·exact hs
   ·rename_i ze;split at hp
    ·rename_i r' hr;rw[←qbs hp];obtain⟨x,rfl⟩:=ad6 hr;refine⟨agn h2 ⟨_,qaf aT,rfl,?_⟩,fun i hi hl ha=>?_⟩
     ·unfold lG;constructor
      ·have:¬k<boxes[v].load:=fun h=>ze (.inl h)
       omega
      ·have:¬boxes[v].discharge≤k:=fun h=>ze (.inr (.inl h))
       omega
     ·rcases qbQ i v with TX|TX
      ·exact af0 (h3 i TX hl ha)
      ·obtain rfl:i=v:=by omega
       exact agG
    ·cases hp
theorem aeU {home:Int→Int}:∀{k:Nat} {L:List (List aH)},fj cl vl boxes home k=.inl L→∀j (hj:j<L.length),aep boxes (j:Int) L[j]∧∀b∈boxes,lG b (j:Int)→MC L[j] b.id
 |0,L,h,j,hj=>by
  unfold fj at h;rw[←qbs h]at hj;simp at hj
 |k+1,L,h,j,hj=>by
  unfold fj at h;split at h
  ·rename_i L' h1;split at h
   ·rename_i l h2;have hlen:=(s5 h1).1;have e:=(qbs h).symm;subst e
    rcases qbQ j L'.length with xe|xe
    ·rw[qbC xe];exact aeU h1 j xe
    ·have hjk:j=L'.length:=by simp at hj;omega
     subst hjk;rw[qbz (qak _)];simp only[Nat.sub_self,List.getElem_singleton];rw[hlen];unfold Kj at h2;obtain⟨h3,h4⟩:=afz afy (qak _) h2;refine⟨h3,fun b hb ha=>?_⟩;obtain⟨i,hi,rfl⟩:=qaI hb;exact h4 i hi hi ha
   ·cases h
  ·cases h
end
theorem aes:∀{a b:List Int},a.Pairwise (·<·)→b.Pairwise (·<·)→(∀x,x∈a↔x∈b)→a=b
 |[],[],_,_,_=>rfl
 |[],y::b,_,_,h=>by have:=(h y).2 (qaz ..);simp at this
 |x::a,[],_,_,h=>by have:=(h x).1 (qaz ..);simp at this
 |x::a,y::b,ha,hb,h=>by
  obtain⟨ha1,ha2⟩:=qdg.1 ha;obtain⟨WE,oA⟩:=qdg.1 hb
  have hxy:x=y:=by
   rcases qam.1 ((h x).1 (qaz ..))with e|e
   ·exact e
   ·rcases qam.1 ((h y).2 (qaz ..))with e'|e'
    ·exact e'.symm
    ·have:=WE x e;have:=ha1 y e';omega
  subst hxy;rw[aes ha2 oA (fun z=>?_)];constructor
  ·intro hz
   rcases qam.1 ((h z).1 (qaE _ hz))with e|e
   ·have:=ha1 z hz;omega
   ·exact e
  ·intro hz
   rcases qam.1 ((h z).2 (qaE _ hz))with e|e
   ·have:=WE z hz;omega
   ·exact e
end Go.bt
end
section
open Go Go.Am
namespace Go.bt
open Classical
def O5 (b c:bw):Prop:=c.id=b.id∧c.size=b.size∧c.high=b.high∧c.cD=b.cD∧c.load=b.load∧c.discharge=b.discharge∧(c.cls=b.cls∨(0≤c.cls∧c.cls≤9))∧(c.number=b.number∨c.number=[]∨c.number∈B1)
theorem ML (i:Nat):B1.getD (i%5) []∈B1:=by
 have h:i%5<B1.length:=by have:=Nat.mod_lt i (by decide:0<5);exact this
 rw[qab,qag h];exact qaf h
theorem K0 (more:List Int) (i:Nat) (b:bw):O5 b (n7 more i b):=by
 unfold n7;split
 ·refine⟨rfl,rfl,rfl,rfl,rfl,rfl,.inr ⟨qbb _ (by decide),by have:=qaY (more.getD i 0) (by decide:(0:Int)<10);show more.getD i 0%10≤9;omega⟩,?_⟩;dsimp only;split
  ·exact .inr (.inr (ML i))
  ·exact .inl rfl
 ·exact⟨rfl,rfl,rfl,rfl,rfl,rfl,.inl rfl,.inl rfl⟩
theorem Mw {b c:bw} (h:O5 b c) (prev:List bw) (k:Nat):O5 b (fG prev c k):=by
 unfold fG;split
 ·obtain⟨h1,h2,h3,h4,h5,h6,h7,h8⟩:=h;exact⟨h1,h2,h3,h4,h5,h6,h7,.inr (.inl rfl)⟩
 ·exact h
theorem Ha {more:List Int} {B:List bw}:∀{v:Nat} (hv:v≤B.length) (i:Nat) (hi:i<(lP more B v).length),O5 (B[i]'(by rw[abY hv]at hi;omega)) ((lP more B v)[i])
 |0,_,i,hi=>by simp[lP]at hi
 |v+1,hv,i,hi=>by
  have e:=zK (more:=more) (B:=B) (v:=v) (by omega);have hl:(lP more B v).length=v:=abY (by omega)
  rcases qbQ i v with h|h
  ·have:(lP more B (v+1))[i]=(lP more B v)[i]'(by omega):=by simp only[e];rw[qbC (by omega)]
   rw[this];exact Ha (by omega) i (by omega)
  ·have TX:i=v:=by rw[abY hv]at hi;omega
   subst TX
   have:(lP more B (i+1))[i]=fG (lP more B i) (n7 more i B[i]) i:=by simp only[e];rw[qbz (by omega)];simp[hl]
   rw[this];exact Mw (K0 _ _ _) _ _
theorem O6 {more:List Int} {B:List bw} {c:bw} (h:c∈lP more B B.length):∃b∈B,O5 b c:=by
 obtain⟨i,hi,rfl⟩:=qaI h;exact⟨_,qaf _,Ha (qak _) i hi⟩
theorem Ve {b c:bw} (h:O5 b c) (hb:og b):og c:=by
 obtain⟨h1,h2,h3,h4,h5,h6,h7,h8⟩:=h;obtain⟨b1,b2,b3,b4,b5,b6⟩:=hb;unfold og;rw[h1,h2,h4,h5,h6];exact⟨b1,by rcases h7 with h7|h7<;>omega,b3,b4,b5,b6⟩
section
variable {cl:List aL} {vl:List bz} {boxes:List bw} {home:Int→Int}
theorem Hb:∀{k:Nat} {L:List (List aH)},fj cl vl boxes home k=.inl L→∀l∈L,l.length≤11*boxes.length
 |0,L,h,l,hl=>by
  unfold fj at h;rw[←qbs h]at hl;simp at hl
 |k+1,L,h,l,hl=>by
  unfold fj at h;split at h
  ·rename_i L' h1;split at h
   ·rename_i l' h2;rw[←qbs h]at hl
    rcases qav.1 hl with hl|hl
    ·exact Hb h1 l hl
    ·rw[qaO]at hl;rw[hl];have h3:=xA h2;have h4:=sk (cl:=cl) (vl:=vl) (boxes:=boxes) (was:=L'.getLastD []) (k:=(k:Int)) (t:=10);omega
   ·cases h
  ·cases h
end
theorem Hc {cl:List aL} {vl:List bz} {home:Int→Int} {calls:Nat}:∀{n:Nat} {boxes:List bw},(rounds cl vl home calls n boxes).1.Sublist boxes
 |0,boxes=>by simp[rounds]
 |n+1,boxes=>by
  unfold rounds;split
  ·exact List.Sublist.refl _
  ·exact List.Sublist.trans (Hc (n:=n)) qcw
theorem He {cl:List aL} {vl:List bz} {home:Int→Int} {calls:Nat}:∀{n:Nat} {boxes:List bw},boxes.length<n→(∀b∈boxes,b.id≠0)→
  fj cl vl (rounds cl vl home calls n boxes).1 home calls=.inl (rounds cl vl home calls n boxes).2
 |0,boxes,h,_=>by omega
 |n+1,boxes,h,hid=>by
  unfold rounds;split
  ·rename_i h0;unfold xF at h0 ⊢
   cases hs:fj cl vl boxes home calls with
   |inl L=>rfl
   |inr e=>
    rw[hs]at h0;dsimp only at h0;obtain⟨b,hb,he⟩:=xu hs;exact absurd (he.trans h0) (hid b hb)
  ·rename_i h0;obtain⟨b,hb,he⟩:=Mt h0;have h1:=xv (p:=fun b=>decide (b.id≠(xF cl vl boxes home calls).2)) hb (by simp[he]);exact He (n:=n) (by omega) (fun b hb=>hid b (qba.1 hb).1)
theorem ad7 {l:List Item} {calls:Int} {v:Nat}:(fU l calls v).Pairwise (fun a b=>a.id<b.id):=by
 refine qaU.2 fun i j hi hj ot=>?_
 simp only[fU,qc0,kX];omega
end Go.bt
end
section
open Go Go.Am Go.Proofs
attribute [local irreducible] Am.bp.holds bH fw bP ek
namespace Go.bt
variable {mx:Int}
open Classical
theorem Mu {c csp vv vsp r rsp f fsp t tsp:List (List PV)} {l1 l2 l3 l4 m1 m2 m3 m4:Int} {td brows srows:List (List PV)} {L M:List Item} {cl:List aL} {vl:List bz} {calls n:Nat} {N Ew:Int} {home:Int→Int} (hN:N=Int.ofNat calls) (wI:2≤calls∧calls≤6) (jI:c=cl.map aL.enc) (pN:vv=vl.map bz.enc) (wU:cl.length<2^20) (Hn:vl.length<2^32) (CS:∀x∈cl,x.cq.length<2^32) (AE:∀x∈vl,x.rows.length<2^16) (MB:cl≠[]) (Iw:∀x∈cl,x.dv<2^32) (oa:∀size,(slotsOf cl size).length<2^32)
  (hi:td=L.map Item.enc) (xR:∀x∈L,BM x) (hl:L.length<2^32) (hn:n=min L.length 12) (hM:M=L.take n) (Mv:Ew=(cl.length:Int)) (DT:home=BZ M Ew)
  (hB:brows=(rounds cl vl home calls (n+1) (fU M N n)).1.map bw.enc) (hS:srows=(rounds cl vl home calls (n+1) (fU M N n)).2.map Tu):
  oQ Tryz.prog (GG mx) 83 [.agg [.sl c csp,.sl vv vsp,.int .i64 l1,.int .i64 l2,.int .i64 l3,.int .i64 l4,.sl r rsp,.sl f fsp,.sl t tsp,.int .i64 m1,.int .i64 m2,.int .i64 m3,.int .i64 m4],.sl td [],.int .i64 N,.int .i64 12] [(9,brows)] (one? [.c8 0 0,.agg [.pv (.sl srows []),.full []]]):=by
 have hlen:td.length=L.length:=by simp[hi]
 have Zk:n≤L.length:=by omega
 have hn2:n≤12:=by omega
 have hMl:M.length=n:=by rw[hM];simp;omega
 obtain⟨mr,MA⟩:∃mr,mr=M.map Item.enc:=⟨_,rfl⟩;refine BO (rs:=[.c8 0 0,.agg [.pv (.sl srows []),.full []]]) mixed Yj (leT rfl) (az (F:=fun A=>bH (CC Tryz.prog (GG mx)) A (Hf Tryz.prog (GG mx)) [.code Zu] (ri [.tmp 8,.cell 9 (some 2)] [(9,brows)] [.c8 0 0,.agg [.pv (.sl srows []),.full []]]) .normal (Am.start 120 [.agg [.sl c csp,.sl vv vsp,.int .i64 l1,.int .i64 l2,.int .i64 l3,.int .i64 l4,.sl r rsp,.sl f fsp,.sl t tsp,.int .i64 m1,.int .i64 m2,.int .i64 m3,.int .i64 m4],.sl td [],.int .i64 N,.int .i64 12])) ?_)
 intro _ _ _ _ _ _ _ QR
 iterate 41 intro _
 intro Uh
 iterate 24 intro _
 intro zu Vu
 iterate 13 intro _
 intro Kc _ _ _ _ kK _ _ _ _ _ _ Ab _ tV Ci _ yy J5 eo _ _ _ oZ sg uP l8 dF _ bX cP cY df aw bu mz aI aQ aJ aP zI aU aV bC bA ag aC;refine gK ?_
 have Cu:QR (l8 td) 12=Int.ofNat n:=by rw[←Uh,←ag,hn];simp[aF,hlen];omega
 rw[Cu];refine ae (by rw[←kK];simp[aF];omega) ?_;rw[show eo td 0 (Int.ofNat n)=mr by rw[←uP,MA,hM,hi];simp[aF,qdj]];refine gK ?_;have afX:0<cl.length:=qbm.2 MB
 have Su:c.length=cl.length:=by simp[jI]
 obtain⟨BT,Vb⟩:∃BT:Nat→List bw,BT=fun v=>fU M N v:=⟨_,rfl⟩
 obtain⟨HT,hHT⟩:∃HT:Nat→List (List PV),HT=fun v=>lL M Ew v:=⟨_,rfl⟩
 have hBT0:BT 0=[]:=by rw[Vb];rfl
 have hHT0:HT 0=[]:=by rw[hHT];rfl
 refine jJ (fun v σ_=>(((σ_.tidy [2,4,8,9,10,11,26,27,28] (nn [4,4,4,9,0,10,9,20])).put (some 28) (.pv (.int .i64 (Int.ofNat v)))).aq 10 (.rows 9 ((BT v).map bw.enc) 0)).aq 20 (.map false false 1 (HT v))) n (fun _=>True) (by rw[hBT0,hHT0];exact Fg.ca [2,4,8,9,10,11,26,27,28] (nn [4,4,4,9,0,10,9,20]) rfl (by cbv)) ?_;intro v hv hk
 try dsimp only
 generalize jb:(BT v).map bw.enc=br;generalize hhr:HT v=hr;refine ej ?_;refine bp.af (fun hd=>?_) (fun hd=>?_)
 ·have aT:v<M.length:=by rw[←aC,←ag]at hd;simp[MA]at hd;omega
  obtain⟨gI,bj⟩:∃x,M[v]=x:=⟨_,rfl⟩
  have bG:aJ (Int.ofNat v) mr 6:=by rw[←aP,MA];exact aO (enc:=Item.enc) aT rfl
  obtain⟨⟨dO,eG,eA,zJ,zU,Ut⟩,bW⟩:∃y,gI=y:=⟨_,rfl⟩;subst bW
  have aW:aI mr (Int.ofNat v)=[.int .u8 dO,.int .u8 eG,.int .u8 eA,.int .u8 zJ,.bool zU,.bool Ut]:=by rw[←aQ,MA,aN (enc:=Item.enc) aT,bj];rfl
  refine aY ?_;refine ae bG ?_;rw[aW];have Ms:=xR _ (qbf (by rw[←hM];exact qaf aT));rw[bj]at Ms
  have Zb:BT (v+1)=BT v++[kX N v M[v]]:=by rw[Vb];exact KK aT
  rw[bj]at Zb;have hHs:=Un (n:=Ew) aT;rw[bj]at hHs;obtain⟨b1,b2,b3,b4,b5,b6,b7,b8⟩:0≤dO∧dO<256∧0≤eG∧eG<256∧0≤eA∧eA<256∧0≤zJ∧zJ<256:=Ms;have hNi:N=(calls:Int):=hN
  have zc:∀x y,df x y=x+y:=fun _ _=>by rw[←aw];rfl
  have fu:∀x y,cP x y=x-y:=fun _ _=>by rw[←cY];rfl
  have hmul:∀x y,tV x y=x*y:=fun _ _=>by rw[←Ci];rfl
  have aaZ:∀x y,0≤x→yy x y=x/y:=fun _ _ h=>by rw[←J5];exact qbj h
  have Vp:∀x y,0≤x→oZ x y=x%y:=fun _ _ h=>by rw[←sg];exact qa8 h
  have hW:∀x,-9223372036854775808≤x→x<9223372036854775808→bu .i64 x=x:=fun _ h1 h2=>by rw[←mz];exact dy h1 h2
  have YG:∀x,0≤x→x<256→bu .u8 x=x:=fun _ h1 h2=>by rw[←mz];exact Zx h1 h2
  obtain⟨N1,hN1⟩:∃x,x=N-1:=⟨_,rfl⟩;obtain⟨lo,CL⟩:∃x,x=eA%N1:=⟨_,rfl⟩;obtain⟨dn,Dp⟩:∃x,x=N1-lo:=⟨_,rfl⟩;obtain⟨ds,hds⟩:∃x,x=zJ%dn:=⟨_,rfl⟩;obtain⟨di,hdi⟩:∃x,x=lo+1+ds:=⟨_,rfl⟩;obtain⟨i5,hi5⟩:∃x:Int,x=5*((v:Int)+1):=⟨_,rfl⟩;obtain⟨ki,Y7⟩:∃x,x=1000+100*eG:=⟨_,rfl⟩;obtain⟨hm,hhm⟩:∃x,x=dO%Ew:=⟨_,rfl⟩
  have lo1:0≤lo:=by rw[CL];exact qbb _ (by omega)
  have lo2:lo<N1:=by rw[CL];exact qaY _ (by omega)
  have ds1:0≤ds:=by rw[hds];exact qbb _ (by omega)
  have ds2:ds<dn:=by rw[hds];exact qaY _ (by omega)
  have w1:bu .i64 (cP N 1)=N1:=by rw[fu,hW _ (by omega) (by omega),hN1]
  obtain⟨v1,Ma⟩:∃x:Int,x=(v:Int)+1:=⟨_,rfl⟩
  have w2:bu .i64 (df (Int.ofNat v) 1)=v1:=by rw[zc,Ma];exact hW ((v:Int)+1) (by omega) (by omega)
  have w3:bu .i64 (tV 5 v1)=i5:=by rw[hmul,hW _ (by omega) (by omega),hi5,Ma]
  have w4:bu .i64 (df 1000 (bu .i64 (tV 100 (bu .i64 eG))))=ki:=by rw[hW eG (by omega) (by omega),hmul,hW (100*eG) (by omega) (by omega),zc,hW _ (by omega) (by omega),Y7]
  have w5:oZ (bu .i64 eA) N1=lo:=by rw[hW eA (by omega) (by omega),Vp _ _ (by omega),CL]
  have w6:bu .i64 (cP N1 lo)=dn:=by rw[fu,hW _ (by omega) (by omega),Dp]
  have w7:oZ (bu .i64 zJ) dn=ds:=by rw[hW zJ (by omega) (by omega),Vp _ _ (by omega),hds]
  have w8:bu .i64 (df (bu .i64 (df lo 1)) ds)=di:=by rw[show bu .i64 (df lo 1)=lo+1 by rw[zc];exact hW _ (by omega) (by omega),zc,hW _ (by omega) (by omega),hdi]
  have w9:oZ (bu .i64 dO) (l8 c)=hm:=by rw[hW dO (by omega) (by omega),Vp _ _ (by omega),hhm,Mv,←ag,X5,Su]
  have hIB:kX N v ⟨dO,eG,eA,zJ,zU,Ut⟩=⟨i5,[],if zU then 20 else 40,if zU then false else Ut,ki,lo,di,0,false⟩:=by
   unfold kX;dsimp only;rw[←hN1,←CL,←Dp,←hds,←hdi,←hi5,←Y7]
  rw[hIB]at Zb
  have YO:(BT v).length=v:=by rw[Vb];exact o9 (by omega)
  refine gK ?_;rw[w1,w2,w3,w4];refine ae (by rw[←Ab];simp;omega) ?_;rw[w5];refine gK ?_;rw[w1,w6];refine ae (by rw[←Ab];simp;omega) ?_;rw[w7];refine gK ?_
  cases zU
  all_goals
   refine aY ?_;rw[w8];refine ae (by rw[←Ab,←ag];simp[Su];omega) ?_;rw[w9];refine gK ?_;refine ae (by rw[←Kc,←hhr,hHT];exact MW) ?_;refine gK ?_;refine ae (by rw[←dF,←jb];exact⟨by simp;omega,by simp;omega,by simp,Kh (enc:=bw.enc) (fun _=>rfl) _⟩) ?_;refine gK ?_;refine ta ⟨by omega,trivial,?_⟩;rw[wS mz aw (v:=v) (by omega)];rw[show zu 1 hr [.int .i64 i5] [.int .i64 hm]=HT (v+1) by rw[←Vu,←hhr,hHT,hi5,hhm];exact hHs]
   rw[Zb,qaX,jb,←bX];exact Fg.ca [2,4,8,9,10,11,26,27,28] (nn [4,4,4,9,0,10,9,20]) rfl (by cbv)
 ·have aT:v=n:=by rw[←aC,←ag]at hd;simp[MA]at hd;omega
  rw[aT]at jb hhr
  have YO:(BT n).length=n:=by rw[Vb];exact o9 (by omega)
  obtain⟨B0,WV⟩:∃B0,B0=BT n:=⟨_,rfl⟩
  obtain⟨XX,Vc⟩:∃XX,XX=fun q=>lJ cl vl home calls B0 q:=⟨_,rfl⟩
  have hXX0:XX 0=B0:=by rw[Vc];rfl
  have hbrl:br.length=n:=by rw[←jb,qap,YO]
  refine aY ?_;refine wW rfl ?_;refine gK ?_;rw[show bu .i64 (df (l8 br) 1)=Int.ofNat (n+1) by rw[←mz,←aw,←ag];simp only[n9,kT,X5,hbrl];exact dy (n:=(n:Int)+1) (by omega) (by omega)];refine jJ (fun q σ_=>((σ_.tidy [2,4,8,9,10,11,85,86] (nn [4,4,4,9,0,10,9,20])).put (some 86) (.pv (.int .i64 (Int.ofNat q)))).aq 10 (.rows 9 ((XX q).map bw.enc) 0)) (n+1) (fun k=>(xF cl vl (XX k) home calls).2≠0) (by rw[hXX0,WV,jb];exact Fg.ca [2,4,8,9,10,11,85,86] (nn [4,4,4,9,0,10,9,20]) rfl (by cbv)) ?_
  intro q hq Zf
  try dsimp only
  generalize LJ:(XX q).map bw.enc=xr
  have hXl:(XX q).length+q≤n:=by have:=Eo (cl:=cl) (vl:=vl) (home:=home) (calls:=calls) (boxes:=B0) (q:=q) (by rw[Vc]at Zf;exact Zf);rw[Vc];rw[WV,YO]at this;rw[WV];exact this
  refine ej ?_;refine MP ?_;refine aY ?_;obtain⟨sr,Pl⟩:∃sr,sr=(xF cl vl (XX q) home calls).1.map Tu:=⟨_,rfl⟩;obtain⟨ident,Ey⟩:∃x,x=(xF cl vl (XX q) home calls).2:=⟨_,rfl⟩
  have hXm:∀b∈XX q,∃i,∃h:i<M.length,i<n∧b=kX N i M[i]:=fun b hb=>by
   rw[Vc]at hb;have hb:=En.subset hb;rw[WV,Vb]at hb;exact Ch hb
  have hXid:∀b∈XX q,b.id≠0:=fun b hb=>by
   obtain⟨i,h1,h2,rfl⟩:=hXm b hb;simp only[kX];omega
  have hXty:∀b∈XX q,og b:=fun b hb=>by
   obtain⟨i,h1,h2,rfl⟩:=hXm b hb;have hNi:N=(calls:Int):=hN;exact Eh (xR _ (qbf (by rw[←hM];exact qaf h1))) (by omega) (by omega)
  have YP:∀b∈XX q,aF.CZ [1] 1 hr [.int .i64 b.id]∧aF.xJ 1 hr [.int .i64 b.id] [.int .i64 0]=.int .i64 (home b.id)∧0≤home b.id∧home b.id<2^32:=fun b hb=>by
   obtain⟨i,h1,h2,rfl⟩:=hXm b hb;have e:(kX N i M[i]).id=5*((i:Int)+1):=rfl;rw[e,←hhr,hHT,DT];refine⟨MW,Um (by omega) h2,?_⟩;rw[JQ h1]
   have p9:0<Ew:=by omega
   refine⟨qbb _ (by omega),?_⟩;have:=qaY M[i].rk p9;omega
  refine Yf (Hf.mono _ _ _ _ _ _ _ (fun v' st' hK=>?_) (Uk (mx:=mx) (x85:=Int.ofNat (n+1)) (x86:=Int.ofNat q) hN jI pN wU Hn CS AE MB Iw LJ.symm hXid (by omega) hXty (by omega) YP oa Pl Ey));obtain⟨x,rfl,rfl,hx⟩:=hK;unfold DS
  rcases hx with⟨h0,rfl⟩|⟨h0,rfl⟩
  ·refine gK ?_;refine MP ?_;refine aY ?_;refine ff rfl ?_;have W0:=JZ (cl:=cl) (vl:=vl) (home:=home) (calls:=calls) (q:=q) (n:=n+1) (boxes:=fU M N n) (by rw[Vc,WV,Vb]at Zf;exact Zf) (by rw[Vc,WV,Vb]at Ey;rw[←Ey];exact h0) (by omega);rw[W0]at hB hS;rw[show srows=sr by rw[hS,Pl,Vc,WV,Vb],show brows=xr by rw[hB,←LJ,Vc,WV,Vb]];exact fg (vs:=[.c8 10 0,.agg [.pv (.sl sr []),.full []]]) (t:=[]) [some 10] (by cbv) rfl (by cbv) rfl rfl rfl
  ·refine gK ?_;refine Pk ?_;refine aY ?_
   obtain⟨YY,hYY⟩:∃YY:Nat→List bw,YY=fun u=>((XX q).take u).filter fun b=>decide (b.id≠ident):=⟨_,rfl⟩
   have hYY0:YY 0=[]:=by rw[hYY];rfl
   refine jJ (fun u σ_=>((σ_.tidy [2,4,8,9,10,11,16,17,85,86,100,101,102] (nn [4,4,4,9,0,10,6,17,2,20])).put (some 102) (.pv (.int .i64 (Int.ofNat u)))).aq 17 (.rows 9 ((YY u).map bw.enc) 0)) (XX q).length (fun _=>True) (by rw[hYY0];exact Fg.ca [2,4,8,9,10,11,16,17,85,86,100,101,102] (nn [4,4,4,9,0,10,6,17,2,20]) rfl (by cbv)) ?_;intro u hu Ze
   try dsimp only
   generalize UN:(YY u).map bw.enc=yr
   have hYl:(YY u).length≤n:=by
    have:=qbB (fun b:bw=>decide (b.id≠ident)) ((XX q).take u);rw[hYY];dsimp only;simp only[qaT]at this;omega
   have hxrl:xr.length=(XX q).length:=by rw[←LJ];simp
   refine ej ?_;refine bp.af (fun he=>?_) (fun he=>?_)
   ·obtain⟨XQ,hXQ⟩:∃x,x=XX q:=⟨_,rfl⟩;rw[←hXQ]at LJ hxrl
    have qd:u<XQ.length:=by rw[←aC,←ag]at he;simp at he;omega
    obtain⟨Ac,fv⟩:∃x,XQ[u]=x:=⟨_,rfl⟩
    have gw:aJ (Int.ofNat u) xr 9:=by rw[←aP,LJ.symm];exact aO (enc:=bw.enc) qd rfl
    obtain⟨⟨Ov,JW,DV,DW,Ad,DX,JX,JY,wv⟩,jF⟩:∃y,Ac=y:=⟨_,rfl⟩;subst jF
    have dV:aI xr (Int.ofNat u)=[.int .i64 Ov,.str JW,.int .u8 DV,.bool DW,.int .i64 Ad,.int .i64 DX,.int .i64 JX,.int .u8 JY,.bool wv]:=by rw[←aQ,LJ.symm,aN (enc:=bw.enc) qd,fv];rfl
    have hYs:YY (u+1)=if Ov≠ident then YY u++[⟨Ov,JW,DV,DW,Ad,DX,JX,JY,wv⟩]else YY u:=by
     rw[hYY,←hXQ];dsimp only;rw[qan qd,qb4,fv]
     by_cases h:Ov=ident<;>simp[h]
    refine aY ?_;refine ae gw ?_;refine gK ?_;rw[dV];refine aY ?_;refine bp.af (fun XB=>?_) (fun XB=>?_)
    ·rw[←aV,←bA]at XB;simp at XB;rw[qao XB]at hYs;refine aY ?_;refine ae (by rw[←dF,←UN];exact⟨by simp;omega,by simp;omega,by simp,Kh (enc:=bw.enc) (fun _=>rfl) _⟩) ?_;refine gK ?_;refine ta ⟨by rw[←hXQ];exact qd,trivial,?_⟩;rw[wS mz aw (v:=u) (by omega)];rw[hYs,qaX,UN,←bX];exact Fg.ca [2,4,8,9,10,11,16,17,85,86,100,101,102] (nn [4,4,4,9,0,10,6,17,2,20]) rfl (by cbv)
    ·rw[←aV,←bA]at XB;simp at XB;rw[qai (by simp[XB])]at hYs;refine aY ?_;refine ta ⟨by rw[←hXQ];exact qd,trivial,?_⟩;rw[wS mz aw (v:=u) (by omega)];rw[hYs,UN];exact Fg.ca [2,4,8,9,10,11,16,17,85,86,100,101,102] (nn [4,4,4,9,0,10,6,17,2,20]) rfl (by cbv)
   ·have qd:u=(XX q).length:=by rw[←aC,←ag]at he;simp at he;omega
    have hXs:XX (q+1)=YY u:=by rw[hYY,qd];dsimp only;rw[qbh,Ey,Vc];rfl
    refine aY ?_;refine wW rfl ?_;refine gK ?_;refine ta ⟨by omega,by rw[←Ey];exact h0,?_⟩;rw[wS mz aw (v:=q) (by omega)];rw[hXs,UN];exact Fg.ca [2,4,8,9,10,11,85,86] (nn [4,4,4,9,0,17,9,20]) rfl (by cbv)
end Go.bt
end
