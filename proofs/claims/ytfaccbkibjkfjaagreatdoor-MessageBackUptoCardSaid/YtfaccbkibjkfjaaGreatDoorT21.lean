import Derived.Test.YtfaccbkibjkfjaaGreatDoorT16
set_option linter.all false
set_option maxRecDepth 100000
set_option maxHeartbeats 1000000
namespace Go.bt
open Go Go.Am Go.Proofs
open Classical
variable {c:List aL} {n:Nat} {v:List bz}
attribute [local irreducible] Am.bp.holds bH fw bP ek
variable {mx:Int}
theorem afb(h:n<10):digits n=[UInt8.ofNat (48+n)]:=by rw[digits,qcu h]
theorem adv:∀{n:Nat},n<2^62->(digits n).length<=n+1:=by
 intro n
 induction n using Nat.strongRecOn with
 |_ n b=>
 intro h
 by_cases a:n<10;{rw[afb a];simp};rw[digits,dif_neg a];have:=b (n/10) o_ o_;simp;omega
def acw(a:B_)(l:List B_):List PV:=[.str a,.sl (l.map fun d=>[.sl [acp d] []]) []]
abbrev Raw:=B_×List B_
def Ug(x:Raw):List PV:=acw x.1 x.2
noncomputable def abD(c:List aL)(v:List bz)(b:bw)(x:aH):List Raw:=
 [([76,79,67],[(YX c v x.slot).1]),([69,81,68],[digits b.id.toNat,b.number,(aaU b).1]),([77,69,65],[digits b.cD.toNat]),([82,70,70],[digits b.load.toNat,digits b.discharge.toNat])]++
  (if 0<b.cls then [([68,71,83],[digits b.cls.toNat])]else [])
noncomputable def aaT(c:List aL)(v:List bz)(call:Int)(a:B_)(boxes:List bw)(l:List aH):Nat->List Raw
 |0=>[([86,79,89],[digits call.toNat,a])]
 |n+1=>aaT c v call a boxes l n++(match boxes[n]?,l[n]? with|some b,some x=>abD c v b x|_,_=>[])
theorem acs{c:List aL}{v:List bz}{call:Int}{port:B_}{boxes:List bw}{l:List aH}:∀{n:Nat},(aaT c v call port boxes l n).length<=1+5*n
|0=>by simp[aaT]
|n+1=>by have:=acs (c:=c) (v:=v) (call:=call) (port:=port) (boxes:=boxes) (l:=l) (n:=n);simp only[aaT,qal];split;{simp only[abD,qal,qaq,qaD];split<;>simp<;>omega};simp;omega
theorem acJ{call:Int}{port:B_}{boxes:List bw}{l:List aH}(h:n<boxes.length)(a:n<l.length):aaT c v call port boxes l (n+1)=aaT c v call port boxes l n++abD c v boxes[n] l[n]:=by simp only[aaT,qag h,qag a]
def ahG(b:Int):Prop:=b=39\/b=43\/b=58\/b=63
noncomputable def adh(c:B_)(first:Bool):Nat->B_
 |0=>[]
 |n+1=>adh c first n++((if ahG (at_ c n)\/(first=true/\n=0/\at_ c n=32)then [63]else [])++[c.getD n 0])
noncomputable def acR(e:List B_)(first:Bool):Nat->B_
 |0=>[]
 |k+1=>acR e first k++((if 0<k then [58]else [])++adh (e.getD k []) (first&&decide (k=0)) (e.getD k []).length)
noncomputable def acB(s:List (List B_)):Nat->B_
 |0=>[]
 |i+1=>acB s i++((if 0<i then [43]else [])++acR (s.getD i []) (decide (i=0)) (s.getD i []).length)
noncomputable def adX(s:List (List B_)):B_:=acB s s.length++[39]
theorem adY{c:B_}{f:Bool}:∀{n:Nat},(adh c f n).length<=2*n
|0=>by simp[adh]
|n+1=>by have:=adY (c:=c) (f:=f) (n:=n);simp only[adh,qal];split<;>simp<;>omega
theorem adw{e:List B_}{f:Bool}(a:∀c∈e,c.length<=100):∀{n:Nat},(acR e f n).length<=201*n
|0=>by simp[acR]
|n+1=>by have h1:=adw (e:=e) (f:=f) a (n:=n);have h2:=adY (c:=e.getD n []) (f:=(f&&decide (n=0))) (n:=(e.getD n []).length);have b:(e.getD n []).length<=100:=by{rw[List.getD_eq_getElem?_getD];cases h:e[n]? with|none=>simp|some c=>exact a c (qbE h)};simp only[acR,qal];split<;>simp only[qaq,qaD]<;>omega
theorem aeS{s:List (List B_)}(hs:∀e∈s,e.length<=10/\∀c∈e,c.length<=100):∀{n:Nat},(acB s n).length<=2011*n
|0=>by simp[acB]
|n+1=>by have h1:=aeS hs (n:=n);have a:(s.getD n []).length<=10/\∀c∈s.getD n [],c.length<=100:=by{rw[List.getD_eq_getElem?_getD];cases h:s[n]? with|none=>simp|some c=>exact hs c (qbE h)};have b:=adw (e:=s.getD n []) (f:=decide (n=0)) a.2 (n:=(s.getD n []).length);simp only[acB,qal];split<;>simp only[qaq,qaD]<;>omega
theorem agE{s:List (List B_)}(h:uJ s):s.length<=30/\∀e∈s,e.length<=10/\∀c∈e,c.length<=100:=by refine⟨h.2.1,fun e b=>?_⟩;obtain⟨i,a,rfl⟩:=qaI b;refine⟨(h.2.2 i a).2.1,fun c d=>?_⟩;obtain⟨k,f,rfl⟩:=qaI d;exact((h.2.2 i a).2.2 k f).1
abbrev acK:=List Elem×R_
def aem(x:acK):List PV:=[.sl (x.1.map acV) x.2]
def acK.val(x:acK):List (List B_):=x.1.map (·.1)
noncomputable def Uu(l:List (List (List B_))):Nat->B_
 |0=>[]
 |n+1=>Uu l n++adX (l.getD n [])
noncomputable def afv(l:List (List (List B_))):B_×Int:=
 if 5000<l.length then([],5)else if ∃i,∃h:i<l.length,¬uJ l[i]then([],2)else if 65536<(Uu l l.length).length then([],3)else(Uu l l.length,0)
theorem adx{l:List (List (List B_))}{n:Nat}:∀{m:Nat},n<=m->(Uu l n).length<=(Uu l m).length
|0,h=>by obtain rfl:n=0:=o_;exact qak _
|m+1,h=>by by_cases e:n=m+1;{subst e;exact qak _};have:=adx (l:=l) (n:=n) (m:=m) o_;simp only[Uu,qal];omega
structure acz where
 tag:B_
 data:List Elem
 sp:R_
def acz.enc(x:acz):List PV:=[.str x.tag,.sl (x.data.map acV) x.sp]
def acz.val(x:acz):Seg:=⟨x.tag,x.data.map (·.1)⟩
theorem acY:digits n=if n<10 then [UInt8.ofNat (48+n)]else digits (n/10)++[UInt8.ofNat (48+n%10)]:=by rw[digits];split<;>rfl
def abZ(x:Raw):acz:=⟨x.1,x.2.map fun d=>([d],[]),[]⟩
def adi(x:Raw):acK:=(([x.1],[])::x.2.map fun d=>([d],[]),[])
def ads(a b:B_):acK:=([([[72,69,68]],[]),([b],[]),([a],[])],[])
def ady(n:Nat)(a:B_):acK:=([([[69,78,68]],[]),([digits (n+2)],[]),([a],[])],[])
noncomputable def aeT(a b:B_)(c:List Raw):B_×Int:=
 if ¬adf ⟨a,b,(c.map abZ).map acz.val⟩then([],2)else afv ((ads a b::c.map adi++[ady c.length b]).map acK.val)
theorem agF(x:Raw):Ug x=(abZ x).enc:=by simp[Ug,acw,abZ,acz.enc,acV,strs]
noncomputable def adL(c:List aL)(v:List bz)(b:B_)(call:Int)(a:B_)(boxes:List bw)(l:List aH):B_×Int:=
 if ¬abJ c v call a boxes l then([],390)else if ¬adf ⟨abH,b,[]⟩then([],391)else aeT abH b (aaT c v call a boxes l boxes.length)
def ah2(x:Raw):Prop:=x.1.length<2^32/\x.2.length<2^20/\(∀d∈x.2,d.length<2^32)/\∃l d,x.2=l++[d]/\d≠[]
theorem adZ:digits n≠[]:=by rw[acY];split<;>simp
theorem afw{x:Slot}(hs:fo c v)(h:fy c x 20\/fy c x 40):(YX c v x).1.length=7:=by unfold YX;rw[qai (by simpa using hs),qai (by rintro⟨a,b⟩;rcases h with h|h;exact a h;exact b h)];have d:x.column.toNat<c.length:=by{rcases h with h|h<;>(have:=h.1;omega)};rw[qag d];rfl
theorem aen{b:bw}(h:iL b):(aaU b).1.length=4:=by obtain⟨-,-,c,a,-⟩:=h;have hs:b.size=20\/b.size=40:=by{unfold most at a;split at a;{left;assumption};split at a;{right;assumption};omega};unfold aaU;rcases hs with hs|hs;{have d:b.high=false:=by{cases e:b.high;{rfl};have:=c e;omega};rw[qao ⟨hs,d⟩];split<;>rfl};rw[qai o_,qao hs];(repeat' split)<;>rfl
theorem agX{c:List aL}{v:List bz}{call:Int}{e:B_}{boxes:List bw}{l:List aH}(m:abJ c v call e boxes l):∀{n:Nat},n<=boxes.length->∀x∈aaT c v call e boxes l n,ah2 x
|0,_,x,a=>by simp only[aaT,qam,qaB,qa7]at a;subst a;have r:=m.2.1.1;have G:=m.1;refine⟨s_,s_,fun d f=>?_,[digits call.toNat],e,rfl,by intro h;rw[h]at r;simp at r⟩;simp only[qam,qaB,qa7]at f;rcases f with rfl|rfl;{have:=adv (n:=call.toNat) o_;omega};omega
|n+1,H,x,a=>by obtain⟨I,B,s,g,i,J⟩:=id m;rw[acJ o_ o_]at a;rcases qav.1 a with a|a;{exact agX m o_ x a};have u:=(g.2 n o_ o_).1;obtain⟨⟨b,K,o⟩,-⟩:=i.2.1 n o_ o_;have C:fy c l[n].slot 20\/fy c l[n].slot 40:=by{rcases o.2 with⟨j,p⟩|⟨j,p⟩;{right;rw[<-j];exact o};left;rw[<-j];exact o};have w:=afw i.1 C;have y:=aen u;obtain⟨⟨D,L⟩,q,-,⟨M,A⟩,⟨N,O,f⟩,P⟩:=u;have E:boxes[n].cD<=40000:=by{unfold most at A;(repeat' split at A)<;>omega};have Q:boxes[n].number.length<=11:=by{rcases q with h|h;{rw[h];simp};have:=h.1;omega};have one:∀{t d:B_},t.length<2^32->d.length<2^32->d≠[]->ah2 (t,[d]):=fun j p F=>⟨j,s_,fun x a=>by simp at a;subst a;exact p,[],_,rfl,F⟩;have k:∀{z:Int},z<=1000000->(digits z.toNat).length<2^32:=fun h=>by{rename_i z;have:=adv (n:=z.toNat) o_;omega};unfold abD at a;rcases qav.1 a with a|a;{simp only[qam,qaB,qa7]at a;rcases a with rfl|rfl|rfl|rfl;{exact one s_ o_ (by intro h;rw[h]at w;simp at w)};{refine⟨s_,s_,fun d f=>?_,[digits boxes[n].id.toNat,boxes[n].number],(aaU boxes[n]).1,rfl,by intro h;rw[h]at y;simp at y⟩;simp only[qam,qaB,qa7]at f;rcases f with rfl|rfl|rfl;{exact k o_};{omega};omega};{exact one s_ (k o_) adZ};refine⟨s_,s_,fun d f=>?_,[digits boxes[n].load.toNat],digits boxes[n].discharge.toNat,rfl,adZ⟩;simp only[qam,qaB,qa7]at f;rcases f with rfl|rfl;{exact k o_};exact k o_};split at a;{simp only[qam,qaB,qa7]at a;subst a;exact one s_ (k o_) adZ};simp at a
end Go.bt
