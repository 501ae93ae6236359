import Derived.Test.YtfaccbkibjkfjaaGreatDoorT23
import Derived.Test.YtfaccbkibjkfjaaGreatDoorT20
import Derived.Test.YtfaccbkibjkfjaaGreatDoorT10
import Derived.Test.YtfaccbkibjkfjaaGreatDoorT21
import Derived.Test.YtfaccbkibjkfjaaGreatDoorT12
import Derived.Test.YtfaccbkibjkfjaaGreatDoorT11
set_option linter.all false
set_option maxRecDepth 100000
set_option maxHeartbeats 1000000
section
open Go Go.Am
namespace Go.bt
open Classical
def acL (l:List bw):Prop:=(∀b∈l,iL b∧0≤b.cls∧(b.size=40∨(b.size=20∧b.high=false)))∧l.Pairwise (fun a b=>a.id<b.id)∧l.Pairwise (fun a b=>b.number≠[]→a.number≠b.number)
theorem acL.sub {l m:List bw} (h:acL m) (hs:l.Sublist m):acL l:=⟨fun b hb=>h.1 b (hs.subset hb),h.2.1.sublist hs,h.2.2.sublist hs⟩
theorem acL.right {l:List bw} (h:acL l) (hl:l.length≤2000):wo l:=by
 refine⟨hl,fun i hi gQ=>⟨(h.1 _ (qaf hi)).1,fun k hk MB=>?_,fun h0 hk=>?_⟩⟩
 ·exact qaU.1 h.2.2 k i (by omega) hi hk MB
 ·exact qaU.1 h.2.1 (i-1) i hk hi (by omega)
theorem acL.pb {l:List bw} {calls:Int} (h:acL l) (hl:l.length≤2000) (hc:1≤calls∧calls≤20) (hd:∀b∈l,b.discharge<calls):je l calls:=by
 refine⟨hc,hl,fun i hi gQ=>?_⟩;obtain⟨⟨⟨h1,AA⟩,-,-,-,⟨h4,h5,-⟩,-⟩,-,h7⟩:=h.1 _ (qaf hi);exact⟨⟨h1,AA⟩,fun h0 hk=>qaU.1 h.2.1 (i-1) i hk hi (by omega),h7,h4,h5,hd _ (qaf hi)⟩
theorem afd:∀s∈B1,hU s:=by
 intro s hs
 have hf:∀s:List UInt8,s.length=11→(∀i,i<11→if i<3 then 65≤at_ s i∧at_ s i≤90 else if i=3 then at_ s i=85∨at_ s i=74∨at_ s i=90 else 48≤at_ s i∧at_ s i≤57)→ra s:=fun s hl h i hi=>h i (by omega)
 simp only[B1,qam,qaB,qa7]at hs
 rcases hs with rfl|rfl|rfl|rfl|rfl
 all_goals
  refine⟨rfl,hf _ rfl (fun i hi=>?_),by simp[at_,summed,val]⟩
  have hi:i=0∨i=1∨i=2∨i=3∨i=4∨i=5∨i=6∨i=7∨i=8∨i=9∨i=10:=by omega
  rcases hi with rfl|rfl|rfl|rfl|rfl|rfl|rfl|rfl|rfl|rfl|rfl<;>simp[at_]
theorem afA {calls:Int} {i:Nat} {x:Item}:(kX calls i x).number=[]:=rfl
theorem afe {calls:Int} {i:Nat} {x:Item} (hx:BM x) (hc:2≤calls∧calls≤6) (hi:i<12) {c:bw} (h:O5 (kX calls i x) c):(iL c∧0≤c.cls∧(c.size=40∨(c.size=20∧c.high=false)))∧c.discharge<calls:=by
 obtain⟨h1,h2,h3,h4,h5,h6,h7,h8⟩:=h;obtain⟨-,-,x1,x2,x3,x4,x5,x6⟩:=hx;have l1:0≤x.load%(calls-1):=qbb _ (by omega);have l2:x.load%(calls-1)<calls-1:=qaY _ (by omega);have l3:0≤x.stay%(calls-1-x.load%(calls-1)):=qbb _ (by omega);have l4:x.stay%(calls-1-x.load%(calls-1))<calls-1-x.load%(calls-1):=qaY _ (by omega);have e1:c.id=5*((i:Int)+1):=h1
 have e2:c.size=if x.small then 20 else 40:=h2
 have e3:c.high=if x.small then false else x.high:=h3
 have e4:c.cD=1000+100*x.cD:=h4;have e5:c.load=x.load%(calls-1):=h5;have e6:c.discharge=x.load%(calls-1)+1+x.stay%(calls-1-x.load%(calls-1)):=h6
 have e7:0≤c.cls∧c.cls≤9:=by
  rcases h7 with h7|h7
  ·have:(kX calls i x).cls=0:=rfl;omega
  ·exact h7
 have e8:c.number=[]∨hU c.number:=by
  rcases h8 with h8|h8|h8
  ·exact .inl (h8.trans afA)
  ·exact .inl h8
  ·exact .inr (afd _ h8)
 refine⟨⟨⟨⟨by omega,by omega⟩,e8,?_,?_,⟨by omega,by omega,by omega⟩,e7.2⟩,e7.1,?_⟩,by omega⟩
 ·intro hh;rw[e3]at hh;split at hh
  ·cases hh
  ·rw[e2];rename_i hs;rw[qai hs]
 ·rw[e2,e4];unfold most
  cases x.small<;>simp<;>omega
 ·rw[e2,e3]
  cases x.small<;>simp
theorem afB {id:Int}:∀{a b:List bw},a.length=b.length→(∀i (h1:i<a.length) (h2:i<b.length),O5 a[i] b[i])→KP a b id
 |[],[],_,_=>rfl
 |[],_::_,h,_=>by simp at h
 |_::_,[],h,_=>by simp at h
 |x::a,y::b,h,hl=>by
  have h0:=hl 0 (by simp) (by simp);have ih:=afB (id:=id) (a:=a) (b:=b) (by simpa using h) (fun i h1 h2=>hl (i+1) (by simpa using h1) (by simpa using h2));obtain⟨e1,e2,e3,-⟩:=h0;simp only[qci]at e1 e2 e3;unfold KP ku at ih ⊢;rw[qbv,qbv,e1]
  by_cases he:x.id=id
  ·simp[he,e2,e3]
  ·simp only[he,qbY];exact ih
theorem adM {p:bw→Bool} {id:Int}:∀{l:List bw},l.Pairwise (fun a b=>a.id<b.id)→(∃b∈l,b.id=id∧p b=true)→ku (l.filter p) id=ku l id
 |[],_,h=>by obtain⟨b,hb,-⟩:=h;cases hb
 |x::l,hp,⟨b,hb,he,Sy⟩=>by
  obtain⟨WI,hp2⟩:=qdg.1 hp;unfold ku
  rcases qam.1 hb with rfl|hb
  ·rw[qcp,qao Sy,qbv,qbv,he];simp
  ·have hx:¬x.id=id:=fun h=>by have:=WI b hb;omega
   have ih:=adM hp2 ⟨b,hb,he,Sy⟩;unfold ku at ih;rw[qbv];simp only[hx,qbY];rw[←ih,qcp];split
   ·rw[qbv];simp only[hx,qbY]
   ·rfl
theorem aeQ {l:List bw} {p:bw→Bool} {id:Int} (h:id∈(l.filter p).map (·.id)):∃b∈l,b.id=id∧p b=true:=by
 obtain⟨b,hb,rfl⟩:=qaw.1 h;obtain⟨h1,h2⟩:=qba.1 hb;exact⟨b,h1,rfl,h2⟩
end Go.bt
end
section
open Go Go.Am
namespace Go.bt
open Classical
theorem ad8 {more:List Int} {B:List bw}:∀{v:Nat},v≤B.length→(lP more B v).Pairwise (fun a b=>b.number≠[]→a.number≠b.number)
 |0,_=>List.Pairwise.nil
 |v+1,hv=>by
  rw[zK (by omega)];refine qcs.2 ⟨ad8 (by omega),qcD _ _,fun a ha b hb=>?_⟩;rw[qaO]at hb;rw[hb];unfold fG;rw[show(lP more B v).take v=lP more B v from qbI (by rw[abY (by omega)];omega)];split
  ·intro h;exact absurd rfl h
  ·rename_i ze;intro _ he;exact ze ⟨a,ha,he⟩
theorem aeV {more:List Int} {B:List bw} (h:B.Pairwise (fun a b=>a.id<b.id)):(lP more B B.length).Pairwise (fun a b=>a.id<b.id):=by
 refine qaU.2 fun i j hi hj ot=>?_
 have hl:=abY (more:=more) (B:=B) (qak _);rw[(Ha (more:=more) (qak _) i hi).1,(Ha (more:=more) (qak _) j hj).1];exact qaU.1 h i j (by omega) (by omega) ot
section
variable {cl:List aL} {vl:List bz} {home:Int→Int} {calls n:Nat} {N:Int} {M:List Item} {B:List bw} {SS:List (List aH)} {more:List Int}
theorem ag0 (hN:N=(calls:Int)) (wI:2≤calls∧calls≤6) (hn:n≤12) (hMt:∀x∈M,BM x) (fu:B.Sublist (fU M N n)):acL (lP more B B.length)∧∀b∈lP more B B.length,b.discharge<N:=by
 have bS:∀c∈lP more B B.length,(iL c∧0≤c.cls∧(c.size=40∨(c.size=20∧c.high=false)))∧c.discharge<N:=fun c hc=>by
  obtain⟨b,hb,hlk⟩:=O6 hc;obtain⟨i,h1,h2,rfl⟩:=Ch (fu.subset hb);exact afe (hMt _ (qaf h1)) (by omega) (by omega) hlk
 exact⟨⟨fun b hb=>(bS b hb).1,aeV (ad7.sublist fu),ad8 (qak _)⟩,fun b hb=>(bS b hb).2⟩
theorem af1 (hs:fo cl vl) (hc:∀c∈cl,MJ c) (WW:fj cl vl B home calls=.inl SS) (hid:B.Pairwise (fun a b=>a.id<b.id)) (j:Nat) (hj:j<SS.length):
  gC cl vl (lP more B B.length) SS[j]∧SS[j].map (·.box)=uc (lP more B B.length) (Int.ofNat j) (lP more B B.length).length:=by
 obtain⟨h1,h2⟩:=s5 WW;have hl:=abY (more:=more) (B:=B) (qak _);have hf:=h2 _ (qaf hj);have hr:=afZ hs hc hf;obtain⟨h3,h4⟩:=aeU WW j hj;refine⟨aeo (fun x _=>afB hl.symm (fun i g1 g2=>Ha (qak _) i g2)) hr,aes ?_ ?_ fun x=>?_⟩
 ·refine qca.2 (qaU.2 fun a b ha hb xd=>?_);exact((hr.2.1 b hb hb).2.2 a xd).1
 ·unfold uc;rw[qbh];refine qca.2 ?_;exact(aeV hid).sublist qcw
 ·unfold uc;rw[qbh];constructor
  ·intro hx;obtain⟨y,hy,rfl⟩:=qaw.1 hx;obtain⟨b,hb,he,ha⟩:=h3 y hy;obtain⟨i,hi,rfl⟩:=qaI hb;have hlk:=Ha (more:=more) (B:=B) (qak _) i (by rw[hl];exact hi);refine qaw.2 ⟨(lP more B B.length)[i]'(by rw[hl];exact hi),qba.2 ⟨qaf _,qbT ?_⟩,?_⟩
   ·unfold lG at ha ⊢;rw[hlk.2.2.2.2.1,hlk.2.2.2.2.2.1];exact ha
   ·rw[hlk.1];exact he
  ·intro hx;obtain⟨c,pH,rfl⟩:=qaw.1 hx;obtain⟨YC,Zc⟩:=qba.1 pH;obtain⟨i,hi,rfl⟩:=qaI YC;have hlk:=Ha (more:=more) (B:=B) (qak _) i hi;have Zc:=qaZ Zc;have hb:B[i]'(by omega)∈B:=qaf _;obtain⟨y,hy,he⟩:=h4 _ hb (by unfold lG at Zc ⊢;rw[hlk.2.2.2.2.1,hlk.2.2.2.2.2.1]at Zc;exact Zc);exact qaw.2 ⟨y,hy,by rw[he,hlk.1]⟩
end
theorem aet {cl:List aL} {vl:List bz} {B2:List bw} {l:List aH} {port:List UInt8} {j:Nat} (hj:j<20) (hp:yH port) (hg:acL B2) (hn:B2.length≤2000) (hs:gC cl vl B2 l) (hb:l.map (·.box)=uc B2 (Int.ofNat j) B2.length):
  abJ cl vl (Int.ofNat j) port (abb B2 (Int.ofNat j) B2.length) l∧acL (abb B2 (Int.ofNat j) B2.length)∧l.map (·.box)=(abb B2 (Int.ofNat j) B2.length).map (·.id):=by
 have xd:abb B2 (Int.ofNat j) B2.length=B2.filter (fun b=>decide (lG b (Int.ofNat j))):=by unfold abb;rw[qbh]
 have hbd:uc B2 (Int.ofNat j) B2.length=(abb B2 (Int.ofNat j) B2.length).map (·.id):=by unfold uc abb;rfl
 rw[hbd]at hb
 have fu:(abb B2 (Int.ofNat j) B2.length).Sublist B2:=by rw[xd];exact qcw
 have hga:=hg.sub fu
 have hlen:(abb B2 (Int.ofNat j) B2.length).length=l.length:=by have:=congrArg List.length hb;simpa using this.symm
 refine⟨⟨⟨by simp,by show(j:Int)<20;omega⟩,hp,hlen,hga.right (qbr fu.length_le hn),aeo (fun x hx=>?_) hs,fun i hi=>?_⟩,hga,hb⟩
 ·have hm:x.box∈(abb B2 (Int.ofNat j) B2.length).map (·.id):=by rw[←hb];exact qaw.2 ⟨x,hx,rfl⟩
  rw[xd]at hm ⊢;unfold KP;rw[adM hg.2.1 (aeQ hm)]
 ·have:=qaf hi
  have h2:(abb B2 (Int.ofNat j) B2.length)[i]∈B2.filter (fun b=>decide (lG b (Int.ofNat j))):=by rw[←xd];exact this
  exact qaZ (qba.1 h2).2
theorem ad9:∀p∈Ez,yH p:=by
 intro p hp;simp only[Ez,qam,qaB,qa7]at hp
 rcases hp with rfl|rfl|rfl|rfl|rfl|rfl
 all_goals
  refine⟨rfl,fun i hi=>?_⟩
  have hi:i=0∨i=1∨i=2∨i=3∨i=4:=by simp at hi;omega
  rcases hi with rfl|rfl|rfl|rfl|rfl<;>simp[at_]
theorem aea {i:Nat} (h:i<6):(zL i).port∈Ez:=by
 have:(zL i).port=Ez.getD i []:=rfl;rw[this,qab,qag (by exact h)];exact qaf _
theorem adz {v i:Nat} (h:i<(gB v).length):(gB v)[i]=zL i:=by simp[gB]
theorem af2 {calls:Nat} (hc:2≤calls∧calls≤6) {k e:Int} (h:fh (gB calls) k e):k= -1∧e=0:=by
 have hl:=fT (v:=calls)
 refine h.Hh (by omega) (by omega) fun j hj=>?_
 have hj6:j<6:=by omega
 unfold wH;rw[Cx hj,adz];rintro(hb|⟨h0,hb⟩)
 ·refine hb ⟨ad9 _ (aea hj6),?_,?_⟩
  ·show 0≤1000*((j:Int)+1)∧1000*((j:Int)+1)≤100000000;omega
  ·show(0:Int)≤0∧(0:Int)≤500000;omega
 ·rw[Cx (by omega),adz]at hb
  rcases hb with hb|hb
  ·have fP:1000*((j:Int)+1)≤1000*(((j-1:Nat):Int)+1):=hb;omega
  ·have:j=1∨j=2∨j=3∨j=4∨j=5:=by omega
   rcases this with rfl|rfl|rfl|rfl|rfl<;>simp[zL,Ez]at hb
end Go.bt
end
section
open Go Go.Am
namespace Go.bt
open Classical
def VU (c:List UInt8):Prop:=∀b∈c,(48≤b.toNat∧b.toNat≤57)∨(65≤b.toNat∧b.toNat≤90)
theorem VU.at_ {c:List UInt8} (h:VU c) {i:Nat} (hi:i<c.length):(48≤at_ c i∧at_ c i≤57)∨(65≤at_ c i∧at_ c i≤90):=by
 have:=h c[i] (qaf hi)
 have e:bt.at_ c i=(c[i].toNat:Int):=by simp[bt.at_,qab,hi]
 rw[e];omega
theorem VU.no {c:List UInt8} (h:VU c) {b:UInt8} (hb:b.toNat<48):b∉c:=fun hm=>by have:=h b hm;omega
theorem aeW {sep:UInt8}:∀{x y A B:List UInt8},sep∉x→sep∉y→x++sep::A=y++sep::B→x=y∧A=B
 |[],[],A,B,_,_,h=>⟨rfl,(qbq h).2⟩
 |[],b::y,A,B,_,hy,h=>by
  have:=(qbq h).1;exact absurd (qam.2 (.inl this)) hy
 |a::x,[],A,B,hx,_,h=>by
  have:=(qbq h).1;exact absurd (qam.2 (.inl this.symm)) hx
 |a::x,b::y,A,B,hx,hy,h=>by
  obtain⟨h1,h2⟩:=qbq h;obtain⟨h3,h4⟩:=aeW (fun hm=>hx (qam.2 (.inr hm))) (fun hm=>hy (qam.2 (.inr hm))) h2;exact⟨by rw[h1,h3],h4⟩
def ended (sep:UInt8) (a:List (List UInt8)):List UInt8:=(a.map (·++[sep])).flatten
theorem ad0 {sep:UInt8}:∀{a b:List (List UInt8)},(∀x∈a,sep∉x)→(∀x∈b,sep∉x)→ended sep a=ended sep b→a=b
 |[],[],_,_,_=>rfl
 |[],y::b,_,_,h=>by
  have:=congrArg List.length h;simp[ended]at this
 |x::a,[],_,_,h=>by
  have:=congrArg List.length h;simp[ended]at this
 |x::a,y::b,hx,hy,h=>by
  simp only[ended,qaj,qa3,qaR,List.singleton_append]at h;obtain⟨h1,h2⟩:=aeW (hx x (by simp)) (hy y (by simp)) h;have h3:=ad0 (a:=a) (b:=b) (fun z hz=>hx z (by simp[hz])) (fun z hz=>hy z (by simp[hz])) h2;rw[h1,h3]
theorem adj {c:List UInt8} {f:Bool} (h:VU c):∀{n:Nat},n≤c.length→adh c f n=c.take n
 |0,_=>by simp[adh]
 |n+1,hn=>by
  have ha:=h.at_ (i:=n) (by omega);rw[adh,adj h (by omega),qai (by unfold ahG;omega),qan (by omega)];simp[qab,show n<c.length by omega]
def Mn (cs:List (List UInt8)):List (List (List UInt8)):=cs.map fun c=>[c]
theorem aeb {cs:List (List UInt8)} (h:∀c∈cs,VU c):∀{i:Nat},i<cs.length→acB (Mn cs) (i+1)++[43]=ended 43 (cs.take (i+1))
 |0,hi=>by
  have h1:(Mn cs).getD 0 []=[cs[0]]:=by simp[Mn,qab,hi]
  rw[qan hi];simp only[acB,h1,acR,qcm,qbo,qbi,ended,qaj,qaF,qa3,qa6,qbw];have h2:([cs[0]]:List (List UInt8)).getD 0 []=cs[0]:=rfl;rw[h2,adj (h _ (qaf hi)) (qak _),qbh];simp
 |i+1,hi=>by
  have ih:=aeb h (i:=i) (by omega)
  have h1:(Mn cs).getD (i+1) []=[cs[i+1]]:=by simp[Mn,qab,hi]
  rw[qan hi]
  have h3:ended 43 (cs.take (i+1)++[cs[i+1]])=ended 43 (cs.take (i+1))++(cs[i+1]++[43]):=by unfold ended;rw[qaX,qbZ];simp only[qaj,qaF,qa3,qa6,qbw]
  rw[h3,←ih];have h2:([cs[i+1]]:List (List UInt8)).getD 0 []=cs[i+1]:=rfl;rw[acB,h1];simp only[acR,qcm,h2];rw[adj (h _ (qaf hi)) (qak _),qbh];simp
theorem acP {cs:List (List UInt8)} (h:∀c∈cs,VU c) (MB:cs≠[]):acB (Mn cs) (Mn cs).length++[43]=ended 43 cs:=by
 have hl:0<cs.length:=qbm.2 MB;have:=aeb h (i:=cs.length-1) (by omega);rw[show cs.length-1+1=cs.length by omega,qbh]at this;rw[show(Mn cs).length=cs.length by simp[Mn]];exact this
theorem afC {cs:List (List UInt8)} (h:∀c∈cs,VU c) (MB:cs≠[]):(39:UInt8)∉acB (Mn cs) (Mn cs).length:=by
 intro hm
 have h1:(39:UInt8)∈ended 43 cs:=by rw[←acP h MB];exact qav.2 (.inl hm)
 unfold ended at h1;obtain⟨l,hl,hb⟩:=qcN.1 h1;obtain⟨c,hc,rfl⟩:=qaw.1 hl
 rcases qav.1 hb with hb|hb
 ·exact(h c hc).no (by decide) hb
 ·simp at hb
theorem adk {l:List (List (List UInt8))}:∀{n:Nat},n≤l.length→Uu (l.map Mn) n=ended 39 ((l.take n).map fun cs=>acB (Mn cs) (Mn cs).length)
 |0,_=>by simp[Uu,ended]
 |n+1,hn=>by
  rw[Uu,adk (n:=n) (by omega),qan (by omega)]
  have h1:(l.map Mn).getD n []=Mn l[n]:=by simp[qab,show n<l.length by omega]
  rw[h1];unfold ended adX;rw[qaX,qaX,qbZ];simp only[qaj,qaF,qa3,qa6,qbw]
def ag2 (l:List (List (List UInt8))):Prop:=∀cs∈l,cs≠[]∧∀c∈cs,VU c
theorem ahH {l m:List (List (List UInt8))} (hl:ag2 l) (hm:ag2 m) (h:Uu (l.map Mn) (l.map Mn).length=Uu (m.map Mn) (m.map Mn).length):l=m:=by
 rw[qap,qap,adk (qak _),adk (qak _),qbh,qbh]at h;have h1:=ad0 (fun x hx=>by obtain⟨cs,hc,rfl⟩:=qaw.1 hx;exact afC (hl cs hc).2 (hl cs hc).1) (fun x hx=>by obtain⟨cs,hc,rfl⟩:=qaw.1 hx;exact afC (hm cs hc).2 (hm cs hc).1) h
 have hlen:l.length=m.length:=by have:=congrArg List.length h1;simpa using this
 refine qcq hlen fun i h2 h3=>?_
 have h4:acB (Mn l[i]) (Mn l[i]).length=acB (Mn m[i]) (Mn m[i]).length:=by
  have:=congrArg (fun L=>L[i]?) h1;simpa[h2,h3]using this
 have h5:ended 43 l[i]=ended 43 m[i]:=by
  rw[←acP (hl _ (qaf h2)).2 (hl _ (qaf h2)).1,←acP (hm _ (qaf h3)).2 (hm _ (qaf h3)).1,h4]
 exact ad0 (fun x hx=>((hl _ (qaf h2)).2 x hx).no (by decide)) (fun x hx=>((hm _ (qaf h3)).2 x hx).no (by decide)) h5
def afD (kind ref:List UInt8):List (List UInt8):=[[72,69,68],ref,kind]
def af3 (n:Nat) (ref:List UInt8):List (List UInt8):=[[69,78,68],digits (n+2),ref]
def aeu (x:Raw):List (List UInt8):=x.1::x.2
theorem aev {kind ref:List UInt8} {ls:List Raw}:(ads kind ref::ls.map adi++[ady ls.length ref]).map acK.val=((afD kind ref::ls.map aeu)++[af3 ls.length ref]).map Mn:=by
 simp only[qaX,qaj,qaF,qcA]
 congr 1
 congr 1
 refine qcv fun x _=>?_
 simp[acK.val,adi,Mn,aeu]
theorem acC (n:Nat):VU (digits n):=by
 induction n using Nat.strongRecOn with
 |ind n ih=>
  rw[acY];split
  ·intro b hb;rw[qaO]at hb;subst hb;rw[qb3];omega
  ·intro b hb
   rcases qav.1 hb with hb|hb
   ·exact ih (n/10) (by omega) b hb
   ·rw[qaO]at hb;subst hb;rw[qb3];omega
def adN (x:Raw):Prop:=VU x.1∧∀c∈x.2,VU c
theorem aeX {kind ref:List UInt8} {ls:List Raw} (hk:VU kind) (hr:VU ref) (h:∀x∈ls,adN x):ag2 ((afD kind ref::ls.map aeu)++[af3 ls.length ref]):=by
 intro cs hcs
 rcases qav.1 hcs with hcs|hcs
 ·rcases qam.1 hcs with rfl|hcs
  ·refine⟨by simp[afD],fun c hc=>?_⟩;simp only[afD,qam,qaB,qa7]at hc
   rcases hc with rfl|rfl|rfl
   ·intro b hb;simp at hb;rcases hb with rfl|rfl|rfl<;>decide
   ·exact hr
   ·exact hk
  ·obtain⟨x,hx,rfl⟩:=qaw.1 hcs;refine⟨by simp[aeu],fun c hc=>?_⟩
   rcases qam.1 hc with rfl|hc
   ·exact(h x hx).1
   ·exact(h x hx).2 c hc
 ·rw[qaO]at hcs;subst hcs;refine⟨by simp[af3],fun c hc=>?_⟩;simp only[af3,qam,qaB,qa7]at hc
  rcases hc with rfl|rfl|rfl
  ·intro b hb;simp at hb;rcases hb with rfl|rfl|rfl<;>decide
  ·exact acC _
  ·exact hr
theorem ag3 {x y:Raw} (h:aeu x=aeu y):x=y:=by
 obtain⟨a,b⟩:=x;obtain⟨c,d⟩:=y;obtain⟨h1,h2⟩:=qbq h;simp only at h1 h2;rw[h1,h2]
theorem ahI {kind ref aeR:List UInt8} {ls ms:List Raw} (hk:VU kind) (hr:VU ref) (Yn:VU aeR) (h1:∀x∈ls,adN x) (h2:∀x∈ms,adN x)
  (h:Uu ((ads kind ref::ls.map adi++[ady ls.length ref]).map acK.val) ((ads kind ref::ls.map adi++[ady ls.length ref]).map acK.val).length=Uu ((ads kind aeR::ms.map adi++[ady ms.length aeR]).map acK.val) ((ads kind aeR::ms.map adi++[ady ms.length aeR]).map acK.val).length):
  ref=aeR∧ls=ms:=by
 rw[aev,aev]at h;have h3:=ahH (aeX hk hr h1) (aeX hk Yn h2) h;obtain⟨h4,h5⟩:=qbq h3;obtain⟨h6,-⟩:=List.append_inj' h5 rfl;refine⟨by simpa[afD]using h4,List.map_inj_right (fun _ _=>ag3)|>.1 h6⟩
theorem aew (n:Nat):(digits n).foldl (fun a b=>a*10+(b.toNat-48)) 0=n:=by
 induction n using Nat.strongRecOn with
 |ind n ih=>
  rw[acY];split
  ·simp only[qbu,List.foldl_nil,qb3];omega
  ·rw[qcI,ih (n/10) (by omega)];simp only[qbu,List.foldl_nil,qb3];omega
theorem af4 {n m:Nat} (h:digits n=digits m):n=m:=by rw[←aew n,←aew m,h]
theorem toNat_inj {a b:Int} (ha:0≤a) (hb:0≤b) (h:digits a.toNat=digits b.toNat):a=b:=by
 have:=af4 h;omega
theorem ac7 {a b:Int} (h:dig a=dig b):a%10=b%10:=by
 have:=congrArg UInt8.toNat h;simp only[dig,qb3]at this;have h1:=qbb a (by decide:(10:Int)≠0);have h2:=qaY a (by decide:(0:Int)<10);have h3:=qbb b (by decide:(10:Int)≠0);have h4:=qaY b (by decide:(0:Int)<10);omega
theorem agH (n:Int):48≤(dig n).toNat∧(dig n).toNat≤57:=by
 simp only[dig,qb3];have h1:=qbb n (by decide:(10:Int)≠0);have h2:=qaY n (by decide:(0:Int)<10);omega
def acA (c:List aL) (x:Slot):Prop:=fy c x 20∨fy c x 40
theorem acA.rk {c:List aL} {x:Slot} (h:acA c x):0≤x.column∧x.column<c.length∧0≤x.tier∧(∀h:x.column.toNat<c.length,x.tier<c[x.column.toNat].dv)∧(x.half=0∨x.half=1∨x.half=2):=by
 rcases h with⟨⟨h1,h2,h3,h4⟩,h5⟩|⟨⟨h1,h2,h3,h4⟩,h5⟩
 ·exact⟨h1,h2,h3,h4,by omega⟩
 ·exact⟨h1,h2,h3,h4,by omega⟩
theorem adl {c:List aL} {v:List bz} {x:Slot} (hs:fo c v) (h:acA c x) (hx:x.column.toNat<c.length):(YX c v x).1=
  (let k:=c[x.column.toNat];let n:=4*k.bay+(if x.half=0 then 2 else if x.half=1 then 1 else 3);let t:=(2*(x.tier+1)+if k.deck then 80 else 0)%100
   [dig (n/100),dig (n/10),dig n,dig (k.row/10),dig k.row,dig (t/10),dig t]):=by
 unfold YX;rw[qai (by simpa using hs),qai (by rintro⟨h1,h2⟩;rcases h with h|h;exact h1 h;exact h2 h),qag hx]
theorem ag4 {a b:Int} {d e:Bool} (ha:0≤a∧a<10) (hb:0≤b∧b<10) (h:(2*(a+1)+if d=true then 80 else 0)%100=(2*(b+1)+if e=true then 80 else 0)%100):a=b∧d=e:=by
 cases d<;>cases e<;>simp at h ⊢ <;>omega
theorem aff {c:List aL} {v:List bz} {x y:Slot} (hs:fo c v) (hx:acA c x) (hy:acA c y) (h:(YX c v x).1=(YX c v y).1):x=y:=by
 obtain⟨x1,x2,x3,x4,x5⟩:=hx.rk;obtain⟨y1,y2,y3,y4,y5⟩:=hy.rk
 have hxc:x.column.toNat<c.length:=by omega
 have hyc:y.column.toNat<c.length:=by omega
 rw[adl hs hx hxc,adl hs hy hyc]at h;have WQ:=(hs.2.1 _ hxc).1;have W7:=(hs.2.1 _ hyc).1;obtain⟨-,bx,rx,tx,-⟩:=WQ;obtain⟨-,by',ry,ty,-⟩:=W7;unfold In at bx rx tx by' ry ty;have x6:=x4 hxc;have y6:=y4 hyc;simp only[qbn,qck]at h;obtain⟨h1,h2,h3,h4,h5,h6,h7⟩:=h;have h1:=ac7 h1;have h2:=ac7 h2;have h3:=ac7 h3;have h4:=ac7 h4;have h5:=ac7 h5;have h6:=ac7 h6;have h7:=ac7 h7;obtain⟨nx,YN⟩:∃n,n=4*c[x.column.toNat].bay+(if x.half=0 then 2 else if x.half=1 then 1 else 3):=⟨_,rfl⟩
 obtain⟨ny,hny⟩:∃n,n=4*c[y.column.toNat].bay+(if y.half=0 then 2 else if y.half=1 then 1 else 3):=⟨_,rfl⟩;rw[←YN,←hny]at h1 h2 h3
 have nx0:0≤nx∧nx<1000:=by rw[YN];split<;>(try split)<;>omega
 have ny0:0≤ny∧ny<1000:=by rw[hny];split<;>(try split)<;>omega
 have hn:nx=ny:=by omega
 have hbh:c[x.column.toNat].bay=c[y.column.toNat].bay∧x.half=y.half:=by
  rw[YN,hny]at hn
  rcases x5 with e|e|e<;>rcases y5 with e'|e'|e'<;>rw[e,e']at hn<;>simp at hn<;>omega
 have bK:c[x.column.toNat].row=c[y.column.toNat].row:=by omega
 obtain⟨Le,htx⟩:∃n,n=(2*(x.tier+1)+if c[x.column.toNat].deck=true then 80 else 0)%100:=⟨_,rfl⟩;obtain⟨ty2,xR⟩:∃n,n=(2*(y.tier+1)+if c[y.column.toNat].deck=true then 80 else 0)%100:=⟨_,rfl⟩;rw[←htx,←xR]at h6 h7
 have ht:Le=ty2:=by
  have:0≤Le∧Le<100:=by omega
  have:0≤ty2∧ty2<100:=by omega
  omega
 have htd:x.tier=y.tier∧c[x.column.toNat].deck=c[y.column.toNat].deck:=by
  rw[htx,xR]at ht;exact ag4 ⟨by omega,by omega⟩ ⟨by omega,by omega⟩ ht
 have aax:x.column.toNat=y.column.toNat:=by
  rcases qcG x.column.toNat y.column.toNat with bO|he|bO
  ·exact absurd ⟨hbh.1,bK,htd.2⟩ ((hs.2.1 _ hyc).2 _ bO)
  ·exact he
  ·exact absurd ⟨hbh.1.symm,bK.symm,htd.2.symm⟩ ((hs.2.1 _ hxc).2 _ bO)
 obtain⟨a,b,d⟩:=x;obtain⟨a',b',d'⟩:=y;simp only at*;rw[Slot.mk.injEq];exact⟨by omega,htd.1,hbh.2⟩
theorem afE {a b:bw} (ha:iL a) (hb:iL b) (h:(aaU a).1=(aaU b).1):a.size=b.size∧a.high=b.high∧a.cK=b.cK:=by
 obtain⟨-,-,a3,a4,-⟩:=ha;obtain⟨-,-,b3,b4,-⟩:=hb
 have sa:a.size=20∨a.size=40:=by
  unfold most at a4;split at a4
  ·left;assumption
  ·split at a4
   ·right;assumption
   ·omega
 have sb:b.size=20∨b.size=40:=by
  unfold most at b4;split at b4
  ·left;assumption
  ·split at b4
   ·right;assumption
   ·omega
 obtain⟨ai,an,asz,ah,ak,al,ad,ac,ar⟩:=a;obtain⟨bi,bn,bsz,bh,bk,bl,bd,bc,br⟩:=b;simp only at*
 rcases sa with rfl|rfl<;>rcases sb with rfl|rfl<;>cases ah<;>cases bh<;>cases ar<;>cases br<;>simp[aaU]at h a3 b3 ⊢
def agp (c:List aL) (q:List (bw×aH)):Prop:=∀x∈q,iL x.1∧acA c x.2.slot∧x.2.box=x.1.id∧0≤x.1.cls
noncomputable def abI (c:List aL) (v:List bz) (q:List (bw×aH)):List Raw:=(q.map fun x=>abD c v x.1 x.2).flatten
theorem aec {c:List aL} {v:List bz} {q:List (bw×aH)} {y:Raw} {r:List Raw} (h:abI c v q=y::r):y.1=[76,79,67]:=by
 cases q with
 |nil=>simp[abI]at h
 |cons x q=>
  simp only[abI,qaj,qa3,abD,qaN]at h;rw[←(qbq h).1]
theorem aex {c:List aL} {v:List bz} (hs:fo c v):∀{q p:List (bw×aH)},agp c q→agp c p→abI c v q=abI c v p→q=p
 |[],[],_,_,_=>rfl
 |[],y::p,_,_,h=>by
  have:=congrArg List.length h;simp[abI,abD]at this
 |x::q,[],_,_,h=>by
  have:=congrArg List.length h;simp[abI,abD]at this
 |(bx,x)::q,(by_,y)::p,hq,hp,h=>by
  obtain⟨qb,qs,qi,qc⟩:=hq _ (qaz ..);obtain⟨pb,ps,pi,pc⟩:=hp _ (qaz ..);have rest:=aex hs (q:=q) (p:=p) (fun z hz=>hq z (qaE _ hz)) (fun z hz=>hp z (qaE _ hz));simp only at qb qs qi qc pb ps pi pc
  have he:∀{b:bw} {z:aH} {r:List (bw×aH)},abI c v ((b,z)::r)=([76,79,67],[(YX c v z.slot).1])::([69,81,68],[digits b.id.toNat,b.number,(aaU b).1])::([77,69,65],[digits b.cD.toNat])::([82,70,70],[digits b.load.toNat,digits b.discharge.toNat])::((if 0<b.cls then [([68,71,83],[digits b.cls.toNat])]else [])++abI c v r):=by
   intro b z r;simp only[abI,qaj,qa3,abD,qaN,qbi,qaR]
  rw[he,he]at h;simp only[qbn,qas,true_and,qck]at h;obtain⟨h1,⟨h2,h3,h4⟩,h5,⟨h6,h7⟩,h8⟩:=h;have e1:=aff hs qs ps h1;obtain⟨⟨i1,i2⟩,-,-,⟨i3,-⟩,⟨i4,i5,-⟩,i6⟩:=qb;obtain⟨⟨j1,j2⟩,-,-,⟨j3,-⟩,⟨j4,j5,-⟩,j6⟩:=pb;have e2:=toNat_inj (by omega) (by omega) h2;have e4:=afE (hq _ (qaz ..)).1 (hp _ (qaz ..)).1 h4;have e5:=toNat_inj (by omega) (by omega) h5
  have e6:=toNat_inj (by omega) (by omega) h6;have e7:=toNat_inj (by omega) (by omega) h7
  have e8:bx.cls=by_.cls∧q=p:=by
   by_cases hx:0<bx.cls
   ·rw[qao hx]at h8
    by_cases hy:0<by_.cls
    ·rw[qao hy]at h8;simp only[qaN,qbi,qbn,qas,true_and,qck]at h8;exact⟨toNat_inj qc pc h8.1,rest h8.2⟩
    ·rw[qai hy]at h8;have:=aec (q:=p) (by simpa using h8.symm);simp at this
   ·rw[qai hx]at h8
    by_cases hy:0<by_.cls
    ·rw[qao hy]at h8;have:=aec (q:=q) (by simpa using h8);simp at this
    ·rw[qai hy]at h8;exact⟨by omega,rest h8⟩
  obtain⟨e8,e9⟩:=e8
  have eb:bx=by_:=by
   obtain⟨a1,a2,a3,a4,a5,a6,a7,a8,a9⟩:=bx;obtain⟨b1,b2,b3,b4,b5,b6,b7,b8,b9⟩:=by_;simp only at*;rw[bw.mk.injEq];exact⟨e2,h3,e4.1,e4.2.1,e5,e6,e7,e8,e4.2.2⟩
  have ex:x=y:=by
   obtain⟨a1,a2⟩:=x;obtain⟨b1,b2⟩:=y;simp only at*;rw[aH.mk.injEq];exact⟨by omega,e1⟩
  rw[eb,ex,e9]
theorem acD:∀{k n:Nat},0<k→n<10^k→(digits n).length≤k
 |1,n,_,h=>by rw[acY,qao (by simpa using h)];simp
 |k+2,n,_,h=>by
  rw[acY];split
  ·simp
  ·rw[qal];have:=acD (k:=k+1) (n:=n/10) (by omega) (by rw[Nat.pow_succ]at h;omega);simp;omega
def aey (cs:List (List UInt8)):Prop:=1≤cs.length∧cs.length≤4∧∀c∈cs,VU c∧c.length≤14
theorem aey.lex {cs:List (List UInt8)} (h:aey cs):SM (Mn cs):=by
 obtain⟨h1,h2,h3⟩:=h;refine⟨by simp[Mn];omega,by simp[Mn];omega,fun i hi=>?_⟩
 have gQ:i<cs.length:=by simpa[Mn]using hi
 have e:(Mn cs)[i]=[cs[i]]:=by simp[Mn]
 rw[e];refine⟨by simp,by simp,fun k hk=>?_⟩
 have Zd:k=0:=by simp at hk;omega
 subst Zd;obtain⟨ha,hl⟩:=h3 _ (qaf gQ);refine⟨by show cs[i].length≤100;omega,fun j hj=>?_⟩;have:=ha.at_ (i:=j) hj;show 32≤at_ cs[i] j∧at_ cs[i] j≤126;omega
theorem agI {cs:List (List UInt8)} (h:∀c∈cs,c.length≤14):(ended 43 cs).length≤15*cs.length:=by
 induction cs with
 |nil=>simp[ended]
 |cons c cs ih=>
  have h1:=h c (qaz ..);have h2:=ih (fun x hx=>h x (qaE _ hx));unfold ended at h2 ⊢;simp only[qaj,qa3,qal,qaq,qaD];omega
theorem aey.len {cs:List (List UInt8)} (h:aey cs):(adX (Mn cs)).length≤60:=by
 obtain⟨h1,h2,h3⟩:=h
 have MB:cs≠[]:=by intro e;rw[e]at h1;simp at h1
 have e:=acP (fun c hc=>(h3 c hc).1) MB;have e2:=congrArg List.length e;have h4:=agI (fun c hc=>(h3 c hc).2);unfold adX;simp only[qal,qaq,qaD]at e2 ⊢;omega
theorem agq {l:List (List (List UInt8))} (h:∀cs∈l,aey cs):∀{n:Nat},n≤l.length→(Uu (l.map Mn) n).length≤60*n
 |0,_=>by simp[Uu]
 |n+1,hn=>by
  rw[Uu,qal]
  have h1:(l.map Mn).getD n []=Mn l[n]:=by simp[qab,show n<l.length by omega]
  rw[h1];have:=(h _ (qaf (show n<l.length by omega))).len;have:=agq h (n:=n) (by omega);omega
theorem ag5 {l:List (List (List UInt8))} (h:∀cs∈l,aey cs) (hn:l.length≤1000):afv (l.map Mn)=(Uu (l.map Mn) (l.map Mn).length,0):=by
 have hl:(l.map Mn).length=l.length:=by simp
 have h2:=agq h (qak _);unfold afv;rw[qai (by omega),qai,qai (by rw[hl];omega)];rintro⟨i,hi,hb⟩;refine hb ?_
 have:(l.map Mn)[i]=Mn (l[i]'(by simpa using hi)):=by simp
 rw[this];exact(h _ (qaf _)).lex
def acM (x:Raw):Prop:=Y0 x.1∧VU x.1∧x.2.length≤3∧∀c∈x.2,VU c∧c.length≤14
theorem acM.short {x:Raw} (h:acM x):aey (aeu x):=by
 obtain⟨⟨h0,-⟩,h1,h2,h3⟩:=h;refine⟨by simp[aeu],by simp[aeu];omega,fun c hc=>?_⟩
 rcases qam.1 hc with rfl|hc
 ·exact⟨h1,by omega⟩
 ·exact h3 c hc
theorem aeY:VU abH:=by
 intro b hb;simp only[abH,qam,qaB,qa7]at hb
 rcases hb with rfl|rfl|rfl|rfl|rfl|rfl<;>decide
theorem afF:ab2 abH:=by
 refine⟨rfl,fun i hi=>?_⟩
 have hi:i=0∨i=1∨i=2∨i=3∨i=4∨i=5:=by simp[abH]at hi;omega
 rcases hi with rfl|rfl|rfl|rfl|rfl|rfl<;>simp[at_,abH]
theorem aeZ {ref:List UInt8} (h:VU ref) (h1:1≤ref.length) (h2:ref.length≤14):acU ref:=⟨h1,h2,fun i hi=>by have:=h.at_ hi;omega⟩
theorem ag6 {ref:List UInt8} {ls:List Raw} (hr:VU ref) (Zl:1≤ref.length) (Yn:ref.length≤14) (h:∀x∈ls,acM x) (hn:ls.length≤500):
  aeT abH ref ls=(Uu ((ads abH ref::ls.map adi++[ady ls.length ref]).map acK.val) ((ads abH ref::ls.map adi++[ady ls.length ref]).map acK.val).length,0):=by
 unfold aeT
 have hS:adf ⟨abH,ref,(ls.map abZ).map acz.val⟩:=by
  refine⟨afF,aeZ hr Zl Yn,fun i hi=>?_⟩
  have gQ:i<ls.length:=by simpa using hi
  have e:((ls.map abZ).map acz.val)[i]=acz.val (abZ ls[i]):=by simp
  show Y0 (((ls.map abZ).map acz.val)[i]).tag∧SM ([(((ls.map abZ).map acz.val)[i]).tag]::(((ls.map abZ).map acz.val)[i]).data);rw[e];have hx:=h _ (qaf gQ);refine⟨hx.1,?_⟩
  have e2:([(acz.val (abZ ls[i])).tag]::(acz.val (abZ ls[i])).data)=Mn (aeu ls[i]):=by
   simp[acz.val,abZ,Mn,aeu]
  rw[e2];exact hx.short.lex
 rw[qai (by simpa using hS),aev];refine ag5 (fun cs hcs=>?_) (by simp;omega)
 rcases qav.1 hcs with hcs|hcs
 ·rcases qam.1 hcs with rfl|hcs
  ·refine⟨by simp[afD],by simp[afD],fun c hc=>?_⟩;simp only[afD,qam,qaB,qa7]at hc
   rcases hc with rfl|rfl|rfl
   ·exact⟨by intro b hb;simp at hb;rcases hb with rfl|rfl|rfl<;>decide,by simp⟩
   ·exact⟨hr,Yn⟩
   ·exact⟨aeY,by simp[abH]⟩
  ·obtain⟨x,hx,rfl⟩:=qaw.1 hcs;exact(h x hx).short
 ·rw[qaO]at hcs;subst hcs;refine⟨by simp[af3],by simp[af3],fun c hc=>?_⟩;simp only[af3,qam,qaB,qa7]at hc
  rcases hc with rfl|rfl|rfl
  ·exact⟨by intro b hb;simp at hb;rcases hb with rfl|rfl|rfl<;>decide,by simp⟩
  ·exact⟨acC _,by have:=acD (k:=4) (n:=ls.length+2) (by omega) (by omega);omega⟩
  ·exact⟨hr,Yn⟩
theorem af5 {c:List aL} {v:List bz} {x:Slot} (hs:fo c v) (h:acA c x):VU (YX c v x).1∧(YX c v x).1.length≤14:=by
 have hx:x.column.toNat<c.length:=by have:=h.rk;omega
 rw[adl hs h hx];refine⟨fun b hb=>?_,by simp⟩;simp only[qam,qaB,qa7]at hb
 rcases hb with rfl|rfl|rfl|rfl|rfl|rfl|rfl<;>exact .inl (agH _)
theorem af6 {b:bw} (h:iL b):VU (aaU b).1∧(aaU b).1.length≤14:=by
 have hl:=aen h;refine⟨?_,by omega⟩;unfold aaU
 (repeat' split)
 all_goals
  intro c hc;simp only[qam,qaB,qa7]at hc
 all_goals(try(rcases hc with rfl|rfl|rfl|rfl<;>decide))
 all_goals simp at hc
theorem afg {s:List UInt8} (h:ra s):VU s:=by
 intro b hb;obtain⟨i,hi,rfl⟩:=qaI hb;have:=h i hi
 have e:at_ s i=(s[i].toNat:Int):=by simp[at_,qab,hi]
 rw[e]at this;split at this
 ·omega
 ·split at this<;>omega
theorem afh {c:List aL} {v:List bz} {b:bw} {x:aH} (hs:fo c v) (hb:iL b) (hc:0≤b.cls) (hx:acA c x.slot):∀y∈abD c v b x,acM y:=by
 obtain⟨⟨i1,i2⟩,i3,-,⟨i4,i5⟩,⟨i6,i7,i8⟩,i9⟩:=id hb
 have hm:most b.size≤40000:=by unfold most;split<;>(try split)<;>omega
 have dg:∀n:Int,0≤n→n<1000000→VU (digits n.toNat)∧(digits n.toNat).length≤14:=fun n h0 h1=>⟨acC _,by have:=acD (k:=6) (n:=n.toNat) (by omega) (by omega);omega⟩
 have afs:VU b.number∧b.number.length≤14:=by
  rcases i3 with e|e
  ·rw[e];exact⟨(fun _ h=>nomatch h),by simp⟩
  ·exact⟨afg e.2.1,by rw[e.1];omega⟩
 have tg:∀t:List UInt8,t∈[[76,79,67],[69,81,68],[77,69,65],[82,70,70],[68,71,83]]→Y0 t∧VU t:=by
  intro t ht;simp only[qam,qaB,qa7]at ht
  rcases ht with rfl|rfl|rfl|rfl|rfl
  all_goals
   refine⟨⟨rfl,fun i hi=>?_,by decide,by decide⟩,fun b hb=>?_⟩
   ·have:i=0∨i=1∨i=2:=by simp at hi;omega
    rcases this with rfl|rfl|rfl<;>simp[at_]
   ·simp only[qam,qaB,qa7]at hb
    rcases hb with rfl|rfl|rfl<;>decide
 intro y hy;unfold abD at hy
 rcases qav.1 hy with hy|hy
 ·simp only[qam,qaB,qa7]at hy
  rcases hy with rfl|rfl|rfl|rfl
  ·refine⟨(tg _ (by simp)).1,(tg _ (by simp)).2,by simp,fun d hd=>?_⟩;simp only[qam,qaB,qa7]at hd;rw[hd];exact af5 hs hx
  ·refine⟨(tg _ (by simp)).1,(tg _ (by simp)).2,by simp,fun d hd=>?_⟩;simp only[qam,qaB,qa7]at hd
   rcases hd with rfl|rfl|rfl
   ·exact dg _ (by omega) (by omega)
   ·exact afs
   ·exact af6 hb
  ·refine⟨(tg _ (by simp)).1,(tg _ (by simp)).2,by simp,fun d hd=>?_⟩;simp only[qam,qaB,qa7]at hd;rw[hd];exact dg _ (by omega) (by omega)
  ·refine⟨(tg _ (by simp)).1,(tg _ (by simp)).2,by simp,fun d hd=>?_⟩;simp only[qam,qaB,qa7]at hd
   rcases hd with rfl|rfl
   ·exact dg _ (by omega) (by omega)
   ·exact dg _ (by omega) (by omega)
 ·split at hy
  ·rw[qaO]at hy;rw[hy];refine⟨(tg _ (by simp)).1,(tg _ (by simp)).2,by simp,fun d hd=>?_⟩;simp only[qam,qaB,qa7]at hd;rw[hd];exact dg _ (by omega) (by omega)
  ·cases hy
theorem ae0 {c:List aL} {v:List bz} {call:Int} {port:List UInt8} {boxes:List bw} {l:List aH} (hl:boxes.length=l.length):∀{n:Nat},n≤boxes.length→aaT c v call port boxes l n=([86,79,89],[digits call.toNat,port])::abI c v ((boxes.zip l).take n)
 |0,_=>by simp[aaT,abI]
 |n+1,hn=>by
  rw[acJ (by omega) (by omega),ae0 hl (by omega)]
  have hz:n<(boxes.zip l).length:=by rw[qcT];omega
  rw[qan hz];unfold abI;rw[qaX,qbZ];simp
theorem ad1 {c:List aL} {v:List bz} {boxes:List bw} {l:List aH} (hg:acL boxes) (hs:gC c v boxes l) (hb:l.map (·.box)=boxes.map (·.id)):agp c (boxes.zip l):=by
 intro x hx;obtain⟨i,hi,rfl⟩:=qaI hx
 have h1:i<boxes.length:=by rw[qcT]at hi;omega
 have h2:i<l.length:=by rw[qcT]at hi;omega
 have e:(boxes.zip l)[i]=(boxes[i],l[i]):=by simp
 rw[e];obtain⟨g1,g2,g3⟩:=hg.1 _ (qaf h1);refine⟨g1,?_,?_,g2⟩
 ·obtain⟨⟨b,WE,oA⟩,-⟩:=hs.2.1 i h2 h2;have hm:=qbV WE
  rcases(hg.1 _ hm).2.2 with h|⟨h,-⟩
  ·rw[h]at oA;exact .inr oA
  ·rw[h]at oA;exact .inl oA
 ·have:=congrArg (fun L=>L[i]?) hb;simpa[h1,h2]using this
theorem aez {c:List aL} {v:List bz}:∀{q:List (bw×aH)},(abI c v q).length≤5*q.length
 |[]=>by simp[abI]
 |x::q=>by
  have:=aez (c:=c) (v:=v) (q:=q)
  have h1:(abD c v x.1 x.2).length≤5:=by unfold abD;split<;>simp
  unfold abI at this ⊢;simp only[qaj,qa3,qal,qaq];omega
noncomputable def pieces (c:List aL) (v:List bz) (call:Int) (port:List UInt8) (q:List (bw×aH)):List Raw:=([86,79,89],[digits call.toNat,port])::abI c v q
theorem af7 {p:List UInt8} (h:yH p):VU p:=by
 intro b hb;obtain⟨i,hi,rfl⟩:=qaI hb;have:=h.2 i hi
 have e:at_ p i=(p[i].toNat:Int):=by simp[at_,qab,hi]
 rw[e]at this;omega
theorem ac9 {c:List aL} {v:List bz} {call:Int} {port:List UInt8} {q:List (bw×aH)} (hs:fo c v) (hc:0≤call∧call<20) (hp:yH port) (hq:agp c q):∀x∈pieces c v call port q,acM x:=by
 intro x hx
 rcases qam.1 hx with rfl|hx
 ·refine⟨⟨rfl,fun i hi=>?_,(by decide:([86,79,89]:List UInt8)≠_),(by decide:([86,79,89]:List UInt8)≠_)⟩,fun b hb=>?_,by simp,fun d hd=>?_⟩
  ·have:i=0∨i=1∨i=2:=by simp at hi;omega
   rcases this with rfl|rfl|rfl<;>simp[at_]
  ·simp only[qam,qaB,qa7]at hb
   rcases hb with rfl|rfl|rfl<;>decide
  ·simp only[qam,qaB,qa7]at hd
   rcases hd with rfl|rfl
   ·exact⟨acC _,by have:=acD (k:=2) (n:=call.toNat) (by omega) (by omega);omega⟩
   ·exact⟨af7 hp,by rw[hp.1];omega⟩
 ·unfold abI at hx;obtain⟨L,hL,hx⟩:=qcN.1 hx;obtain⟨y,hy,rfl⟩:=qaw.1 hL;obtain⟨h1,h2,h3,h4⟩:=hq y hy;exact afh hs h1 h4 h2 x hx
noncomputable def agJ (ref:List UInt8) (ls:List Raw):List UInt8:=Uu ((ads abH ref::ls.map adi++[ady ls.length ref]).map acK.val) ((ads abH ref::ls.map adi++[ady ls.length ref]).map acK.val).length
theorem adA {c:List aL} {v:List bz} {call:Int} {port ref:List UInt8} {boxes:List bw} {l:List aH} (hS:abJ c v call port boxes l) (hg:acL boxes) (hb:l.map (·.box)=boxes.map (·.id)) (hn:boxes.length≤90) (hr:VU ref) (Zl:1≤ref.length) (Yn:ref.length≤14):
  adL c v ref call port boxes l=(agJ ref (pieces c v call port (boxes.zip l)),0):=by
 obtain⟨h1,h2,h3,h4,h5,h6⟩:=id hS;have hq:=ad1 hg h5 hb
 have hz:(boxes.zip l).length=boxes.length:=by rw[qcT];omega
 have hl:=aez (c:=c) (v:=v) (q:=boxes.zip l);unfold adL;rw[qai (by simpa using hS),qai]
 ·rw[ae0 h3 (qak _),←hz,qbh];exact ag6 hr Zl Yn (ac9 h5.1 h1 h2 hq) (by simp;omega)
 ·intro ze;refine ze ⟨afF,aeZ hr Zl Yn,fun i hi=>?_⟩;simp at hi
theorem acM.plain {x:Raw} (h:acM x):adN x:=⟨h.2.1,fun c hc=>(h.2.2.2 c hc).1⟩
theorem zip_inj {a b:List bw} {l m:List aH} (h1:a.length=l.length) (h2:b.length=m.length) (h:a.zip l=b.zip m):a=b∧l=m:=by
 have e1:=congrArg (List.map Prod.fst) h;have e2:=congrArg (List.map Prod.snd) h;rw[List.map_fst_zip (by omega),List.map_fst_zip (by omega)]at e1;rw[List.map_snd_zip (by omega),List.map_snd_zip (by omega)]at e2;exact⟨e1,e2⟩
theorem aeA {c:List aL} {v:List bz} {call call2:Int} {port port2 ref aeR:List UInt8} {boxes nT:List bw} {l l2:List aH} (hS:abJ c v call port boxes l) (hg:acL boxes) (hb:l.map (·.box)=boxes.map (·.id))
  (hS2:abJ c v call2 port2 nT l2) (hg2:acL nT) (oA:l2.map (·.box)=nT.map (·.id)) (hr:VU ref) (Yn:VU aeR)
  (h:agJ ref (pieces c v call port (boxes.zip l))=agJ aeR (pieces c v call2 port2 (nT.zip l2))):ref=aeR∧call=call2∧port=port2∧boxes=nT∧l=l2:=by
 obtain⟨h1,h2,h3,h4,h5,h6⟩:=id hS;obtain⟨g1,g2,g3,g4,g5,g6⟩:=id hS2;have hq:=ad1 hg h5 hb;have Y4:=ad1 hg2 g5 oA;obtain⟨e1,e2⟩:=ahI aeY hr Yn (fun x hx=>(ac9 h5.1 h1 h2 hq x hx).plain) (fun x hx=>(ac9 h5.1 g1 g2 Y4 x hx).plain) h;obtain⟨e3,e4⟩:=qbq e2;simp only[qas,qbn,true_and,qck]at e3;obtain⟨e5,e6⟩:=zip_inj h3 g3 (aex h5.1 hq Y4 e4);exact⟨e1,toNat_inj h1.1 g1.1 e3.1,e3.2,e5,e6⟩
end Go.bt
end
section
open Go Go.Am Go.Proofs
attribute [local irreducible] Am.bp.holds bH fw bP ek
namespace Go.bt
variable {mx:Int}
open Classical
theorem ahJ (x y:bw):aF.not (aF.Xf x.enc y.enc)=decide (x≠y):=by
 obtain⟨a1,a2,a3,a4,a5,a6,a7,a8,a9⟩:=x;obtain⟨b1,b2,b3,b4,b5,b6,b7,b8,b9⟩:=y;rw[qbX];simp[aF,bw.enc,JK]
theorem ag7 (x y:aH):aF.not (aF.Xf x.enc y.enc)=decide (x≠y):=by
 obtain⟨a1,a2,a3,a4⟩:=x;obtain⟨b1,b2,b3,b4⟩:=y;rw[qbX];simp[aF,aH.enc,JK]
theorem ahK (x y:bw):aF.HP [1,2,1,0,1,1,1,1,0] x.enc y.enc:=by
 obtain⟨a1,a2,a3,a4,a5,a6,a7,a8,a9⟩:=x;obtain⟨b1,b2,b3,b4,b5,b6,b7,b8,b9⟩:=y;simp[aF,bw.enc,aR]
theorem ag8 (x y:aH):aF.HP [1,1,1,1] x.enc y.enc:=by
 obtain⟨a1,a2,a3,a4⟩:=x;obtain⟨b1,b2,b3,b4⟩:=y;simp[aF,aH.enc,aR]
theorem af8 {rows acQ sp sp2:List (List PV)} {l m:List bw} {r:Bool} (hr:rows=l.map bw.enc) (Yn:acQ=m.map bw.enc) (hl:l.length<2^32) (hm:m.length<2^32) (dD:r=decide (l=m)):pC mx 71 [.sl rows sp,.sl acQ sp2] (.bool r):=by
 have hlen:rows.length=l.length:=by simp[hr]
 have Xn:acQ.length=m.length:=by simp[Yn]
 refine pZ Ja ?_
 iterate 86 intro _
 intro Kl Sv
 iterate 34 intro _
 intro aw _ mz aI aQ aJ aP zI aU aV bC bA ag aC;refine gK ?_;refine bp.af (fun hc=>?_) (fun hc=>?_)
 ·rw[←aV,←bA,←ag]at hc;simp at hc;refine aY ?_;refine aX ?_;exact fa dD (fun h=>hc (by rw[hlen,Xn,h]))
 ·rw[←aV,←bA,←ag]at hc;simp at hc;refine aY ?_;refine bQ [0,1,5] [] (fun v σ_=>σ_.put (some 5) (.pv (.int .i64 (Int.ofNat v)))) (l.length) (fun k=>∀(h:k<l.length) (h2:k<m.length),l[k]=m[k]) ?_;intro v hv hk;refine ej ?_;refine bp.af (fun hd=>?_) (fun hd=>?_)
  ·have aT:v<l.length:=by rw[←aC,←ag]at hd;simp at hd;omega
   have gh:v<m.length:=by omega
   obtain⟨gI,bj⟩:∃x,l[v]=x:=⟨_,rfl⟩
   have bG:aJ (Int.ofNat v) rows 9:=by rw[←aP,hr];exact aO (enc:=bw.enc) aT rfl
   obtain⟨⟨iN,fO,eZ,Ut,eG,eA,gi,jl,dI⟩,bW⟩:∃y,gI=y:=⟨_,rfl⟩;subst bW
   have aW:aI rows (Int.ofNat v)=[.int .i64 iN,.str fO,.int .u8 eZ,.bool Ut,.int .i64 eG,.int .i64 eA,.int .i64 gi,.int .u8 jl,.bool dI]:=by rw[←aQ,hr,aN (enc:=bw.enc) aT,bj];rfl
   obtain⟨Ac,fv⟩:∃x,m[v]=x:=⟨_,rfl⟩
   have gw:aJ (Int.ofNat v) acQ 9:=by rw[←aP,Yn];exact aO (enc:=bw.enc) gh rfl
   obtain⟨⟨Ov,JW,DV,DW,Ad,DX,JX,JY,wv⟩,jF⟩:∃y,Ac=y:=⟨_,rfl⟩;subst jF
   have dV:aI acQ (Int.ofNat v)=[.int .i64 Ov,.str JW,.int .u8 DV,.bool DW,.int .i64 Ad,.int .i64 DX,.int .i64 JX,.int .u8 JY,.bool wv]:=by rw[←aQ,Yn,aN (enc:=bw.enc) gh,fv];rfl
   refine aY ?_;refine ae bG ?_;rw[aW];refine gK ?_;refine ae gw ?_;rw[dV];refine gK ?_;obtain⟨xa,hxa⟩:∃x:bw,x=⟨iN,fO,eZ,Ut,eG,eA,gi,jl,dI⟩:=⟨_,rfl⟩;obtain⟨xb,Yl⟩:∃x:bw,x=⟨Ov,JW,DV,DW,Ad,DX,JX,JY,wv⟩:=⟨_,rfl⟩;have MB:=ahJ xa xb;have hcm:=ahK xa xb;rw[aV,Sv,hxa,Yl]at MB;rw[Kl,hxa,Yl]at hcm;simp only[bw.enc]at MB hcm;rw[MB,←hxa,←Yl];rw[←hxa]at bj;rw[←Yl]at fv
   by_cases xd:xa=xb
   ·rw[show decide (xa≠xb)=false by simp[xd]];refine aY ?_;refine ae hcm ?_;refine gK ?_;refine ta ⟨aT,fun _ _=>by rw[bj,fv,xd],?_⟩;rw[wS mz aw (v:=v) (by omega)]
    cbv
   ·rw[show decide (xa≠xb)=true by simp[xd]];refine aY ?_;refine ae hcm ?_;refine gK ?_;refine dS ?_;exact fa dD (fun h=>xd (by rw[←bj,←fv];simp only[h]))
  ·have aT:v=l.length:=by rw[←aC,←ag]at hd;simp at hd;omega
   refine aY ?_;refine wW rfl ?_;refine gK ?_;refine aX ?_;exact tr dD (qcq (by omega) fun i h1 h2=>hk i (by omega) h1 h2)
theorem afi {rows acQ sp sp2:List (List PV)} {l m:List aH} {r:Bool} (hr:rows=l.map aH.enc) (Yn:acQ=m.map aH.enc) (hl:l.length<2^32) (hm:m.length<2^32) (dD:r=decide (l=m)):pC mx 72 [.sl rows sp,.sl acQ sp2] (.bool r):=by
 have hlen:rows.length=l.length:=by simp[hr]
 have Xn:acQ.length=m.length:=by simp[Yn]
 refine pZ Jb ?_
 iterate 86 intro _
 intro Kl Sv
 iterate 34 intro _
 intro aw _ mz aI aQ aJ aP zI aU aV bC bA ag aC;refine gK ?_;refine bp.af (fun hc=>?_) (fun hc=>?_)
 ·rw[←aV,←bA,←ag]at hc;simp at hc;refine aY ?_;refine aX ?_;exact fa dD (fun h=>hc (by rw[hlen,Xn,h]))
 ·rw[←aV,←bA,←ag]at hc;simp at hc;refine aY ?_;refine bQ [0,1,5] [] (fun v σ_=>σ_.put (some 5) (.pv (.int .i64 (Int.ofNat v)))) (l.length) (fun k=>∀(h:k<l.length) (h2:k<m.length),l[k]=m[k]) ?_;intro v hv hk;refine ej ?_;refine bp.af (fun hd=>?_) (fun hd=>?_)
  ·have aT:v<l.length:=by rw[←aC,←ag]at hd;simp at hd;omega
   have gh:v<m.length:=by omega
   obtain⟨gI,bj⟩:∃x,l[v]=x:=⟨_,rfl⟩
   have bG:aJ (Int.ofNat v) rows 4:=by rw[←aP,hr];exact aO (enc:=aH.enc) aT rfl
   obtain⟨⟨eH,⟨dO,du,fH⟩⟩,bW⟩:∃y,gI=y:=⟨_,rfl⟩;subst bW
   have aW:aI rows (Int.ofNat v)=[.int .i64 eH,.int .i64 dO,.int .i64 du,.int .u8 fH]:=by rw[←aQ,hr,aN (enc:=aH.enc) aT,bj];rfl
   obtain⟨Ac,fv⟩:∃x,m[v]=x:=⟨_,rfl⟩
   have gw:aJ (Int.ofNat v) acQ 4:=by rw[←aP,Yn];exact aO (enc:=aH.enc) gh rfl
   obtain⟨⟨Kk,⟨Ge,Ah,Ai⟩⟩,jF⟩:∃y,Ac=y:=⟨_,rfl⟩;subst jF
   have dV:aI acQ (Int.ofNat v)=[.int .i64 Kk,.int .i64 Ge,.int .i64 Ah,.int .u8 Ai]:=by rw[←aQ,Yn,aN (enc:=aH.enc) gh,fv];rfl
   refine aY ?_;refine ae bG ?_;rw[aW];refine gK ?_;refine ae gw ?_;rw[dV];refine gK ?_;obtain⟨xa,hxa⟩:∃x:aH,x=⟨eH,dO,du,fH⟩:=⟨_,rfl⟩;obtain⟨xb,Yl⟩:∃x:aH,x=⟨Kk,Ge,Ah,Ai⟩:=⟨_,rfl⟩;have MB:=ag7 xa xb;have hcm:=ag8 xa xb;rw[aV,Sv,hxa,Yl]at MB;rw[Kl,hxa,Yl]at hcm;simp only[aH.enc]at MB hcm;rw[MB,←hxa,←Yl];rw[←hxa]at bj;rw[←Yl]at fv
   by_cases xd:xa=xb
   ·rw[show decide (xa≠xb)=false by simp[xd]];refine aY ?_;refine ae hcm ?_;refine gK ?_;refine ta ⟨aT,fun _ _=>by rw[bj,fv,xd],?_⟩;rw[wS mz aw (v:=v) (by omega)]
    cbv
   ·rw[show decide (xa≠xb)=true by simp[xd]];refine aY ?_;refine ae hcm ?_;refine gK ?_;refine dS ?_;exact fa dD (fun h=>xd (by rw[←bj,←fv];simp only[h]))
  ·have aT:v=l.length:=by rw[←aC,←ag]at hd;simp at hd;omega
   refine aY ?_;refine wW rfl ?_;refine gK ?_;refine aX ?_;exact tr dD (qcq (by omega) fun i h1 h2=>hk i (by omega) h1 h2)
theorem ajl {rows acQ sp sp2 brows af9 bsp bsp2:List (List PV)} {l l2:List aH} {boxes nT:List bw} {call call2:Int} {port port2:List UInt8} {r:Bool} (eS:rows=l.map aH.enc) (hrw2:acQ=l2.map aH.enc) (jb:brows=boxes.map bw.enc) (MN:af9=nT.map bw.enc) (hl:l.length<2^32) (LI:l2.length<2^32) (lO:boxes.length<2^32) (hbl2:nT.length<2^32)
  (hr:r=decide (call=call2∧port=port2∧boxes=nT∧l=l2)):
  pC mx 23 [.agg [.int .i64 call,.str port,.sl brows bsp,.sl rows sp],.agg [.int .i64 call2,.str port2,.sl af9 bsp2,.sl acQ sp2]] (.bool r):=by
 refine pZ Jc ?_
 iterate 129 intro _
 intro zI aU aV bC bA ag aC;refine gK ?_;refine bp.af (fun h1=>?_) (fun h1=>?_)
 ·rw[←bA]at h1;simp at h1;refine aY ?_;refine bp.af (fun h2=>?_) (fun h2=>?_)
  ·rw[←aU]at h2;simp[aF]at h2;refine aY ?_;refine cU (by cbv) (af8 jb MN lO hbl2 rfl) (fun h=>?_) (fun h=>?_)<;>simp only[qae,qad]at h
   ·refine gK ?_;refine cU (by cbv) (afi eS hrw2 hl LI rfl) (fun h'=>?_) (fun h'=>?_)<;>simp only[qae,qad]at h'
    ·refine gK ?_;refine aX ?_;exact tr hr ⟨h1,h2,h,h'⟩
    ·refine gK ?_;refine aX ?_;exact fa hr (fun g=>h' g.2.2.2)
   ·refine gK ?_;refine aX ?_;exact fa hr (fun g=>h g.2.2.1)
  ·rw[←aU]at h2;simp[aF]at h2;refine aY ?_;refine aX ?_;exact fa hr (fun g=>h2 g.2.1)
 ·rw[←bA]at h1;simp at h1;refine aY ?_;refine aX ?_;exact fa hr (fun g=>h1 g.1)
end Go.bt
end
