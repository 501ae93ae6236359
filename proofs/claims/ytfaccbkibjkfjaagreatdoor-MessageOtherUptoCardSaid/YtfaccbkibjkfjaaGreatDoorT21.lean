import Derived.Test.YtfaccbkibjkfjaaGreatDoorT11
import Derived.Test.YtfaccbkibjkfjaaGreatDoorT12
import Derived.Test.YtfaccbkibjkfjaaGreatDoorT07
import Derived.Test.YtfaccbkibjkfjaaGreatDoorT10
import Derived.Test.YtfaccbkibjkfjaaGreatDoorT16
set_option linter.all false
set_option maxRecDepth 100000
set_option maxHeartbeats 1000000
section
open Go Go.Am Go.Proofs
attribute [local irreducible] Am.bp.holds bH fw bP ek
namespace Go.bt
variable {mx:Int}
open Classical
theorem afb {n:Nat} (h:n<10):digits n=[UInt8.ofNat (48+n)]:=by rw[digits,qcu h]
theorem adv:∀{n:Nat},n<2^62→(digits n).length≤n+1:=by
 intro n
 induction n using Nat.strongRecOn with
 |_ n ih=>
 intro h
 by_cases h1:n<10
 ·rw[afb h1];simp
 ·rw[digits,dif_neg h1];have:=ih (n/10) (by omega) (by omega);simp;omega
def acw (tag:List UInt8) (l:List (List UInt8)):List PV:=[.str tag,.sl (l.map fun d=>[.sl [acp d] []]) []]
abbrev Raw:=List UInt8×List (List UInt8)
def Ug (x:Raw):List PV:=acw x.1 x.2
noncomputable def abD (c:List aL) (v:List bz) (b:bw) (x:aH):List Raw:=
 [([76,79,67],[(YX c v x.slot).1]),([69,81,68],[digits b.id.toNat,b.number,(aaU b).1]),([77,69,65],[digits b.cD.toNat]),([82,70,70],[digits b.load.toNat,digits b.discharge.toNat])]++
  (if 0<b.cls then [([68,71,83],[digits b.cls.toNat])]else [])
noncomputable def aaT (c:List aL) (v:List bz) (call:Int) (port:List UInt8) (boxes:List bw) (l:List aH):Nat→List Raw
 |0=>[([86,79,89],[digits call.toNat,port])]
 |n+1=>aaT c v call port boxes l n++(match boxes[n]?,l[n]? with|some b,some x=>abD c v b x|_,_=>[])
theorem acs {c:List aL} {v:List bz} {call:Int} {port:List UInt8} {boxes:List bw} {l:List aH}:∀{n:Nat},(aaT c v call port boxes l n).length≤1+5*n
 |0=>by simp[aaT]
 |n+1=>by
  have:=acs (c:=c) (v:=v) (call:=call) (port:=port) (boxes:=boxes) (l:=l) (n:=n);simp only[aaT,qal];split
  ·simp only[abD,qal,qaq,qaD];split<;>simp<;>omega
  ·simp;omega
theorem acJ {c:List aL} {v:List bz} {call:Int} {port:List UInt8} {boxes:List bw} {l:List aH} {n:Nat} (h:n<boxes.length) (h':n<l.length):aaT c v call port boxes l (n+1)=aaT c v call port boxes l n++abD c v boxes[n] l[n]:=by
 simp only[aaT,qag h,qag h']
def ahG (b:Int):Prop:=b=39∨b=43∨b=58∨b=63
noncomputable def adh (c:List UInt8) (first:Bool):Nat→List UInt8
 |0=>[]
 |n+1=>adh c first n++((if ahG (at_ c n)∨(first=true∧n=0∧at_ c n=32)then [63]else [])++[c.getD n 0])
noncomputable def acR (e:List (List UInt8)) (first:Bool):Nat→List UInt8
 |0=>[]
 |k+1=>acR e first k++((if 0<k then [58]else [])++adh (e.getD k []) (first&&decide (k=0)) (e.getD k []).length)
noncomputable def acB (s:List (List (List UInt8))):Nat→List UInt8
 |0=>[]
 |i+1=>acB s i++((if 0<i then [43]else [])++acR (s.getD i []) (decide (i=0)) (s.getD i []).length)
noncomputable def adX (s:List (List (List UInt8))):List UInt8:=acB s s.length++[39]
theorem adY {c:List UInt8} {f:Bool}:∀{n:Nat},(adh c f n).length≤2*n
 |0=>by simp[adh]
 |n+1=>by
  have:=adY (c:=c) (f:=f) (n:=n);simp only[adh,qal];split<;>simp<;>omega
theorem adw {e:List (List UInt8)} {f:Bool} (he:∀c∈e,c.length≤100):∀{n:Nat},(acR e f n).length≤201*n
 |0=>by simp[acR]
 |n+1=>by
  have h1:=adw (e:=e) (f:=f) he (n:=n);have h2:=adY (c:=e.getD n []) (f:=(f&&decide (n=0))) (n:=(e.getD n []).length)
  have h3:(e.getD n []).length≤100:=by
   rw[qab]
   cases h:e[n]? with
   |none=>simp
   |some c=>exact he c (qbE h)
  simp only[acR,qal];split<;>simp only[qaq,qaD]<;>omega
theorem aeS {s:List (List (List UInt8))} (hs:∀e∈s,e.length≤10∧∀c∈e,c.length≤100):∀{n:Nat},(acB s n).length≤2011*n
 |0=>by simp[acB]
 |n+1=>by
  have h1:=aeS hs (n:=n)
  have h3:(s.getD n []).length≤10∧∀c∈s.getD n [],c.length≤100:=by
   rw[qab]
   cases h:s[n]? with
   |none=>simp
   |some c=>exact hs c (qbE h)
  have h2:=adw (e:=s.getD n []) (f:=decide (n=0)) h3.2 (n:=(s.getD n []).length);simp only[acB,qal];split<;>simp only[qaq,qaD]<;>omega
theorem agE {s:List (List (List UInt8))} (h:SM s):s.length≤30∧∀e∈s,e.length≤10∧∀c∈e,c.length≤100:=by
 refine⟨h.2.1,fun e he=>?_⟩;obtain⟨i,hi,rfl⟩:=qaI he;refine⟨(h.2.2 i hi).2.1,fun c hc=>?_⟩;obtain⟨k,hk,rfl⟩:=qaI hc;exact((h.2.2 i hi).2.2 k hk).1
abbrev acK:=List Elem×List (List PV)
def aem (x:acK):List PV:=[.sl (x.1.map acV) x.2]
def acK.val (x:acK):List (List (List UInt8)):=x.1.map (·.1)
noncomputable def Uu (l:List (List (List (List UInt8)))):Nat→List UInt8
 |0=>[]
 |n+1=>Uu l n++adX (l.getD n [])
noncomputable def afv (l:List (List (List (List UInt8)))):List UInt8×Int:=
 if 5000<l.length then([],5)else if ∃i,∃h:i<l.length,¬SM l[i]then([],2)else if 65536<(Uu l l.length).length then([],3)else(Uu l l.length,0)
theorem adx {l:List (List (List (List UInt8)))} {n:Nat}:∀{m:Nat},n≤m→(Uu l n).length≤(Uu l m).length
 |0,h=>by
  obtain rfl:n=0:=by omega
  exact qak _
 |m+1,h=>by
  by_cases e:n=m+1
  ·subst e;exact qak _
  ·have:=adx (l:=l) (n:=n) (m:=m) (by omega);simp only[Uu,qal];omega
structure acz where
 tag:List UInt8
 data:List Elem
 sp:List (List PV)
def acz.enc (x:acz):List PV:=[.str x.tag,.sl (x.data.map acV) x.sp]
def acz.val (x:acz):Seg:=⟨x.tag,x.data.map (·.1)⟩
theorem acY {n:Nat}:digits n=if n<10 then [UInt8.ofNat (48+n)]else digits (n/10)++[UInt8.ofNat (48+n%10)]:=by
 rw[digits];split<;>rfl
def abZ (x:Raw):acz:=⟨x.1,x.2.map fun d=>([d],[]),[]⟩
def adi (x:Raw):acK:=(([x.1],[])::x.2.map fun d=>([d],[]),[])
def ads (kind ref:List UInt8):acK:=([([[72,69,68]],[]),([ref],[]),([kind],[])],[])
def ady (n:Nat) (ref:List UInt8):acK:=([([[69,78,68]],[]),([digits (n+2)],[]),([ref],[])],[])
noncomputable def aeT (kind ref:List UInt8) (ls:List Raw):List UInt8×Int:=
 if ¬adf ⟨kind,ref,(ls.map abZ).map acz.val⟩then([],2)else afv ((ads kind ref::ls.map adi++[ady ls.length ref]).map acK.val)
theorem agF (x:Raw):Ug x=(abZ x).enc:=by simp[Ug,acw,abZ,acz.enc,acV,strs]
noncomputable def adL (c:List aL) (v:List bz) (ref:List UInt8) (call:Int) (port:List UInt8) (boxes:List bw) (l:List aH):List UInt8×Int:=
 if ¬abJ c v call port boxes l then([],390)else if ¬adf ⟨abH,ref,[]⟩then([],391)else aeT abH ref (aaT c v call port boxes l boxes.length)
def ah2 (x:Raw):Prop:=x.1.length<2^32∧x.2.length<2^20∧(∀d∈x.2,d.length<2^32)∧∃l d,x.2=l++[d]∧d≠[]
theorem adZ {n:Nat}:digits n≠[]:=by
 rw[acY];split<;>simp
theorem afw {c:List aL} {v:List bz} {x:Slot} (hs:fo c v) (h:fy c x 20∨fy c x 40):(YX c v x).1.length=7:=by
 unfold YX;rw[qai (by simpa using hs),qai (by rintro⟨h1,h2⟩;rcases h with h|h;exact h1 h;exact h2 h)]
 have hc:x.column.toNat<c.length:=by rcases h with h|h<;>(have:=h.1;omega)
 rw[qag hc];rfl
theorem aen {b:bw} (h:iL b):(aaU b).1.length=4:=by
 obtain⟨-,-,h3,h4,-⟩:=h
 have hs:b.size=20∨b.size=40:=by
  unfold most at h4;split at h4
  ·left;assumption
  ·split at h4
   ·right;assumption
   ·omega
 unfold aaU
 rcases hs with hs|hs
 ·have hh:b.high=false:=by
   cases hb:b.high
   ·rfl
   ·have:=h3 hb;omega
  rw[qao ⟨hs,hh⟩];split<;>rfl
 ·rw[qai (by omega),qao hs]
  (repeat' split)<;>rfl
theorem agX {c:List aL} {v:List bz} {call:Int} {port:List UInt8} {boxes:List bw} {l:List aH} (hS:abJ c v call port boxes l):∀{n:Nat},n≤boxes.length→∀x∈aaT c v call port boxes l n,ah2 x
 |0,_,x,hx=>by
  simp only[aaT,qam,qaB,qa7]at hx;subst hx;have hp:=hS.2.1.1;have hc:=hS.1;refine⟨by simp,by simp,fun d hd=>?_,[digits call.toNat],port,rfl,by intro h;rw[h]at hp;simp at hp⟩;simp only[qam,qaB,qa7]at hd
  rcases hd with rfl|rfl
  ·have:=adv (n:=call.toNat) (by omega);omega
  ·omega
 |n+1,hn,x,hx=>by
  obtain⟨px,agY,hlen,hbox,afx,xd⟩:=id hS;rw[acJ (by omega) (by omega)]at hx
  rcases qav.1 hx with hx|hx
  ·exact agX hS (by omega) x hx
  ·have hb:=(hbox.2 n (by omega) (by omega)).1;obtain⟨⟨b,WE,oA⟩,-⟩:=afx.2.1 n (by omega) (by omega)
   have dH:fy c l[n].slot 20∨fy c l[n].slot 40:=by
    rcases oA.2 with⟨h1,h2⟩|⟨h1,h2⟩
    ·right;rw[←h1];exact oA
    ·left;rw[←h1];exact oA
   have Y8:=afw afx.1 dH;have hcd:=aen hb;obtain⟨⟨hi1,QG⟩,afs,-,⟨WH,WS⟩,⟨Zo,LI,hd⟩,uy⟩:=hb
   have hkm:boxes[n].cD≤40000:=by unfold most at WS;(repeat' split at WS)<;>omega
   have Hg:boxes[n].number.length≤11:=by
    rcases afs with h|h
    ·rw[h];simp
    ·have:=h.1;omega
   have one:∀{t d:List UInt8},t.length<2^32→d.length<2^32→d≠[]→ah2 (t,[d]):=fun h1 h2 h3=>⟨h1,by simp,fun x hx=>by simp at hx;subst hx;exact h2,[],_,rfl,h3⟩
   have dl:∀{z:Int},z≤1000000→(digits z.toNat).length<2^32:=fun h=>by
    rename_i z;have:=adv (n:=z.toNat) (by omega);omega
   unfold abD at hx
   rcases qav.1 hx with hx|hx
   ·simp only[qam,qaB,qa7]at hx
    rcases hx with rfl|rfl|rfl|rfl
    ·exact one (by simp) (by omega) (by intro h;rw[h]at Y8;simp at Y8)
    ·refine⟨by simp,by simp,fun d hd=>?_,[digits boxes[n].id.toNat,boxes[n].number],(aaU boxes[n]).1,rfl,by intro h;rw[h]at hcd;simp at hcd⟩;simp only[qam,qaB,qa7]at hd
     rcases hd with rfl|rfl|rfl
     ·exact dl (by omega)
     ·omega
     ·omega
    ·exact one (by simp) (dl (by omega)) adZ
    ·refine⟨by simp,by simp,fun d hd=>?_,[digits boxes[n].load.toNat],digits boxes[n].discharge.toNat,rfl,adZ⟩;simp only[qam,qaB,qa7]at hd
     rcases hd with rfl|rfl
     ·exact dl (by omega)
     ·exact dl (by omega)
   ·split at hx
    ·simp only[qam,qaB,qa7]at hx;subst hx;exact one (by simp) (dl (by omega)) adZ
    ·simp at hx
end Go.bt
end
