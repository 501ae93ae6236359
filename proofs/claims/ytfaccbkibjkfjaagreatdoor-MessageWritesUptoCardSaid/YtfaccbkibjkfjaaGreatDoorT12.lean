import Derived.Lib.DecodeNEq
import Derived.Test.YtfaccbkibjkfjaaGreatDoorT07
import Derived.Test.YtfaccbkibjkfjaaGreatDoorT41
import Derived.Test.YtfaccbkibjkfjaaGreatDoorT11
set_option linter.all false
set_option maxRecDepth 100000
set_option maxHeartbeats 1000000
section
open Go Go.Am
namespace Go.bW
open Classical
theorem tr {P:Prop} {_i:Decidable P} {r:Bool} (hr:r=decide P) (h:P):some (PV.bool true)=some (PV.bool r):=by simp[hr,h]
theorem fa {P:Prop} {_i:Decidable P} {r:Bool} (hr:r=decide P) (h:¬P):some (PV.bool false)=some (PV.bool r):=by simp[hr,h]
def at_ (s:List UInt8) (i:Nat):Int:=((s.getD i 0).toNat:Int)
theorem nZ (s:List UInt8) (i:Nat):0≤at_ s i∧at_ s i<256:=⟨by unfold at_;omega,by unfold at_;have:=(s.getD i 0).toNat_lt;omega⟩
def zV (p:List UInt8):Prop:=p.length=5∧∀i,i<p.length→65≤at_ p i∧at_ p i≤90
def sC (s:List UInt8):Prop:=∀i,i<s.length→if i<3 then 65≤at_ s i∧at_ s i≤90 else if i=3 then at_ s i=85∨at_ s i=74∨at_ s i=90 else 48≤at_ s i∧at_ s i≤57
def val (b:Int):Int:=if b≤57 then b-48 else 10+(b-65)+(b-65+9)/10
def summed (s:List UInt8):Nat→Int
 |0=>0
 |n+1=>summed s n+val (at_ s n)*2^n
def iq (s:List UInt8):Prop:=s.length=11∧sC s∧at_ s 10-48=summed s 10%11%10
def most (size:Int):Int:=if size=20 then 32000 else if size=40 then 40000 else 0
def ir (b:cE):Prop:=(1≤b.id∧b.id≤999999)∧(b.number=[]∨iq b.number)∧(b.high=true→b.size=40)∧(1≤b.ca∧b.ca≤most b.size)∧(0≤b.load∧b.load<b.discharge∧b.discharge<20)∧b.cls≤9
def n0 (l:List cE) (i:Nat):Prop:=∀h:i<l.length,ir l[i]∧(∀k,(hk:k<i)→(l[i].number≠[]→l[k].number≠l[i].number))∧(i≠0→∀hk:i-1<l.length,l[i-1].id<l[i].id)
def mq (l:List cE):Prop:=l.length≤2000∧∀i,i<l.length→n0 l i
def nx (b:cE) (k:Int):Prop:=b.load≤k∧k<b.discharge
def gH (b:cE):List UInt8×Int:=
 if b.size=20∧b.high=false then(if b.bS then [50,50,82,49]else [50,50,71,49],0)
 else if b.size=40 then(if b.high then(if b.bS then [52,53,82,49]else [52,53,71,49])else(if b.bS then [52,50,82,49]else [52,50,71,49]),0)
 else([],60)
def sD (c:aM) (i:Nat):Prop:=0≤c.b9.getD i 0∧c.b9.getD i 0<c.dk∧(i=0∨c.b9.getD (i-1) 0<c.b9.getD i 0)
def In (n lo hi:Int):Prop:=lo≤n∧n≤hi
def gd (c:aM):Prop:=(∀i,i<c.b9.length→sD c i)∧In c.jH 0 39∧In c.row 0 30∧In c.dk 1 10∧In c.di 0 40000∧In c.vt 0 500000000∧In c.vu 0 500000000∧In c.lf 0 1000000000000∧In c.x (-500000) 500000∧In c.y (-500000) 500000∧In c.z (-500000) 500000
def rN (a b:aM):Prop:=¬(a.jH=b.jH∧a.row=b.row∧a.js=b.js)
def rO (x:bq) (i:Nat):Prop:=0≤x.rows.getD i 0∧x.rows.getD i 0≤30∧(i=0∨x.rows.getD (i-1) 0<x.rows.getD i 0)
def jc (x:bq):Prop:=In x.jH 0 39∧x.rows≠[]∧∀i,i<x.rows.length→rO x i
def fy (c:List aM) (v:List bq):Prop:=(1≤c.length∧c.length≤200∧v.length≤40)∧(∀i,(h:i<c.length)→gd c[i]∧∀k,(hk:k<i)→rN c[k] c[i])∧
 (∀i,(h:i<v.length)→jc v[i]∧∀k,(hk:k<i)→v[k].jH=v[i].jH→∀r,r∈v[i].rows→r∉v[k].rows)
def bV (c:List aM) (x:Slot) (size:Int):Prop:=(0≤x.column∧x.column<c.length∧0≤x.gG∧∀h:x.column.toNat<c.length,x.gG<c[x.column.toNat].dk)∧((size=40∧x.half=0)∨(size=20∧(x.half=1∨x.half=2)))
def qo (a b:Int):Prop:=a=b∨a=0∨b=0
def Bo (a b:Slot):Prop:=a.column=b.column∧a.gG=b.gG∧qo a.half b.half
def Has (l:List Slot) (x:Slot) (half:Int):Prop:=∃i,∃h:i<l.length,l[i].column=x.column∧l[i].gG=x.gG-1∧l[i].half=half
def Vu (x:Slot) (l:List Slot):Prop:=x.gG≤0∨Has l x x.half∨(x.half=0∧Has l x 1∧Has l x 2)
def sR (n:Int):UInt8:=UInt8.ofNat (48+(n%10).toNat)
noncomputable def fG (c:List aM) (v:List bq) (x:Slot):List UInt8×Int:=
 if ¬fy c v then([],2)else if ¬bV c x 20∧¬bV c x 40 then([],6)
 else match c[x.column.toNat]? with
  |none=>([],6)
  |some k=>
   let n:=4*k.jH+(if x.half=0 then 2 else if x.half=1 then 1 else 3)
   let t:=(2*(x.gG+1)+if k.js then 80 else 0)%100
   ([sR (n/100),sR (n/10),sR n,sR (k.row/10),sR k.row,sR (t/10),sR t],0)
def kl (l:List cE) (id:Int):Option cE:=l.find? (fun b=>decide (b.id=id))
def EL (b:cE):Int:=if b.high then 2896 else 2591
noncomputable def dd (boxes:List cE) (l:List aT) (column half:Int):Nat→Int
 |0=>0
 |n+1=>dd boxes l column half n+match l[n]? with
  |none=>0
  |some x=>if x.slot.column=column∧(x.slot.half=half∨x.slot.half=0)then(match kl boxes x.box with|some b=>EL b|none=>0)else 0
noncomputable def di (boxes:List cE) (l:List aT) (column half:Int):Int:=dd boxes l column half l.length
def Fits (c:aM) (boxes:List cE) (l:List aT) (i:Int):Prop:=c.di≤0∨(di boxes l i 1≤c.di∧di boxes l i 2≤c.di)
def sE (c:List aM) (boxes:List cE) (l:List aT) (i:Nat):Prop:=∀h:i<l.length,(∃b,kl boxes l[i].box=some b∧bV c l[i].slot b.size)∧Vu l[i].slot (l.map (·.slot))∧∀k,(hk:k<i)→l[k].box<l[i].box∧¬Bo l[k].slot l[i].slot
def lV (c:List aM) (v:List bq) (boxes:List cE) (l:List aT):Prop:=fy c v∧(∀i,i<l.length→sE c boxes l i)∧∀i,(h:i<c.length)→Fits c[i] boxes l i
def fO (c:List aM) (v:List bq) (call:Int) (port:List UInt8) (boxes:List cE) (l:List aT):Prop:=
 (0≤call∧call<20)∧zV port∧boxes.length=l.length∧mq boxes∧lV c v boxes l∧∀i,(h:i<boxes.length)→nx boxes[i] call
def service (b:UInt8):Bool:=b==39||b==43||b==58||b==63
def lW (c:List UInt8):Prop:=c.length≤100∧∀i,i<c.length→32≤at_ c i∧at_ c i≤126
def oa (e:List (List UInt8)):Prop:=1≤e.length∧e.length≤10∧∀i,(h:i<e.length)→lW e[i]
def cj (s:List (List (List UInt8))):Prop:=1≤s.length∧s.length≤30∧∀i,(h:i<s.length)→oa s[i]
def esc:List UInt8→List UInt8
 |[]=>[]
 |b::r=>(if service b then [63,b]else [b])++esc r
def EM (sep:UInt8):List (List UInt8)→List UInt8
 |[]=>[]
 |[c]=>c
 |c::r=>c++sep::EM sep r
def Ky (e:List (List UInt8)):List UInt8:=EM 58 (e.map esc)
def Ow (s:List (List (List UInt8))):List UInt8:=
 (if((s.headD []).headD []).head? =some 32 then [63]else [])++EM 43 (s.map Ky)++[39]
def Gq (l:List (List (List (List UInt8)))):List UInt8:=(l.map Ow).flatten
noncomputable def Kz (l:List (List (List (List UInt8)))):List UInt8×Int:=
 if 5000<l.length then([],5)else if ∃s∈l,¬cj s then([],2)else if 65536<(Gq l).length then([],3)else(Gq l,0)
structure Seg where
 tag:List UInt8
 data:List (List (List UInt8))
structure Message where
 kind:List UInt8
 ref:List UInt8
 Ig:List Seg
def oP (s:List UInt8):Prop:=∀i,i<s.length→65≤at_ s i∧at_ s i≤90
def eP (s:List UInt8):Prop:=s.length=3∧oP s∧s≠[72,69,68]∧s≠[69,78,68]
def kB (s:List UInt8):Prop:=s.length=6∧oP s
def mr (s:List UInt8):Prop:=1≤s.length∧s.length≤14∧∀i,i<s.length→(65≤at_ s i∧at_ s i≤90)∨(48≤at_ s i∧at_ s i≤57)
def lj (m:Message):Prop:=kB m.kind∧mr m.ref∧∀i,(h:i<m.Ig.length)→eP m.Ig[i].tag∧cj ([m.Ig[i].tag]::m.Ig[i].data)
def aai:List (List UInt8)→List (List UInt8)
 |[]=>[[]]
 |c::r=>c::(r.reverse.dropWhile (fun x=>x.isEmpty)).reverse
def aaj (d:List (List (List UInt8))):List (List (List UInt8)):=((d.map aai).reverse.dropWhile (fun e=>e==[[]])).reverse
def digits (n:Nat):List UInt8:=if h:n<10 then [UInt8.ofNat (48+n)]else digits (n/10)++[UInt8.ofNat (48+n%10)]
termination_by n
noncomputable def KA (m:Message):List UInt8×Int:=
 if ¬lj m then([],2)else Kz ([[[72,69,68]],[m.ref],[m.kind]]::(m.Ig.map fun s=>[s.tag]::aaj s.data)++[[[[69,78,68]],[digits (m.Ig.length+2)],[m.ref]]])
def lE:List UInt8:=[66,65,89,80,76,78]
def Ih (tag:List UInt8) (data:List (List UInt8)):Seg:=⟨tag,data.map fun d=>[d]⟩
noncomputable def Ox (c:List aM) (v:List bq) (b:cE) (x:aT):List Seg:=
 [Ih [76,79,67] [(fG c v x.slot).1],Ih [69,81,68] [digits b.id.toNat,b.number,(gH b).1],Ih [77,69,65] [digits b.ca.toNat],Ih [82,70,70] [digits b.load.toNat,digits b.discharge.toNat]]++
  (if 0<b.cls then [Ih [68,71,83] [digits b.cls.toNat]]else [])
noncomputable def Bp (c:List aM) (v:List bq) (ref:List UInt8) (call:Int) (port:List UInt8) (boxes:List cE) (l:List aT):Message:=
 ⟨lE,ref,Ih [86,79,89] [digits call.toNat,port]::((boxes.zip l).map fun x=>Ox c v x.1 x.2).flatten⟩
noncomputable def Vv (c:List aM) (v:List bq) (ref:List UInt8) (call:Int) (port:List UInt8) (boxes:List cE) (l:List aT):List UInt8×Int:=
 if ¬fO c v call port boxes l then([],390)else if ¬lj ⟨lE,ref,[]⟩then([],391)else KA (Bp c v ref call port boxes l)
end Go.bW
end
section
open Go Go.Am
namespace Go.bW
theorem Ii {n:Nat} {a b:Nat→Int} (ha:∀i,i+1<n→a i<a (i+1)) (hb:∀i,i+1<n→b i<b (i+1)) (h:∀i,i<n→∃j,j<n∧b j=a i):∀i,i<n→a i=b i:=by
 have mono:∀(c:Nat→Int),(∀i,i+1<n→c i<c (i+1))→∀i j,i<j→j<n→c i<c j:=by
  intro c hc i j pI hj
  induction j with
  |zero=>omega
  |succ j ih=>
   have:=hc j hj
   by_cases e:i=j
   ·subst e;exact this
   ·have:=ih (by omega) (by omega);omega
 have hlow:∀i,i<n→∀j,j<n→b j=a i→i≤j:=by
  intro i
  induction i with
  |zero=>intro _ j _ _;omega
  |succ i ih=>
   intro hi j hj he;obtain⟨j',vN,Er⟩:=h i (by omega);have h1:=ih (by omega) j' vN Er;have h2:=ha i hi
   by_cases hjj:j≤j'
   ·exfalso
    have:b j≤b j':=by
     by_cases e:j=j'
     ·subst e;exact Int.le_refl _
     ·have:=mono b hb j j' (by omega) vN;omega
    omega
   ·omega
 have hup:∀k i,i+k+1=n→∀j,j<n→b j=a i→j≤i:=by
  intro k
  induction k with
  |zero=>intro i hi j hj _;omega
  |succ k ih=>
   intro i hi j hj he;obtain⟨j',vN,Er⟩:=h (i+1) (by omega);have h1:=ih (i+1) (by omega) j' vN Er;have h2:=ha i (by omega)
   by_cases hjj:j'≤j
   ·exfalso
    have:b j'≤b j:=by
     by_cases e:j'=j
     ·subst e;exact Int.le_refl _
     ·have:=mono b hb j' j (by omega) hj;omega
    omega
   ·omega
 intro i hi;obtain⟨j,hj,he⟩:=h i hi;have h1:=hlow i hi j hj he;have h2:=hup (n-1-i) i (by omega) j hj he
 obtain rfl:i=j:=by omega
 exact he.symm
theorem KB {s:List UInt8} {v:Nat}:∃n b1 b2 b3,Utf8.decode (⟨s.toArray⟩:ByteArray) v=Lib.decodeN n (s.getD v 0).toNat b1 b2 b3:=by
 have e:(⟨s.toArray⟩:ByteArray).get! v=s.getD v 0:=by
  show s.toArray[v]! =_;simp[List.getD_eq_getElem?_getD];rfl
 exact⟨_,_,_,_,by rw[Lib.decode_at,e]⟩
theorem sF {s:List UInt8} {v:Nat} (hb:at_ s v<128):aG.rune s v=at_ s v∧aG.Eb s v=1:=by
 obtain⟨n,b1,b2,b3,h⟩:=KB (s:=s) (v:=v)
 have gV:(s.getD v 0).toNat<128:=by unfold at_ at hb;omega
 have e:Lib.decodeN n (s.getD v 0).toNat b1 b2 b3=((s.getD v 0).toNat,1):=by unfold Lib.decodeN;rw[if_pos gV]
 rw[e]at h;simp only[aG,at_,Int.toNat_natCast,h];exact⟨by first|rfl|trivial,by first|rfl|trivial⟩
theorem KC {s:List UInt8} {v:Nat} (hb:128≤at_ s v):128≤aG.rune s v:=by
 obtain⟨n,b1,b2,b3,h⟩:=KB (s:=s) (v:=v)
 have gV:¬(s.getD v 0).toNat<128:=by unfold at_ at hb;omega
 have e:128≤(Lib.decodeN n (s.getD v 0).toNat b1 b2 b3).1:=by
  unfold Lib.decodeN;rw[if_neg gV]
  repeat' split
  all_goals omega
 simp only[aG,Int.toNat_natCast,h];omega
end Go.bW
end
section
open Go Go.Am
namespace Go.bW
theorem KD {n:Int} (h0:0≤n) (h1:n<256):IntKind.wrap .u8 n=n:=by
 have e1:(2:Int)^IntKind.u8.bits=256:=by decide
 unfold IntKind.wrap;simp only[e1];rw[Int.emod_eq_of_lt h0 h1,if_neg (by simp[IntKind.signed])]
def eK (c:List UInt8):List PV:=[.str c]
def strs (cs:List (List UInt8)):List (List PV):=cs.map eK
abbrev aaW:=List (List UInt8)×List (List PV)
def hU (e:aaW):List PV:=[.sl (strs e.1) e.2]
def mu (d:List UInt8):List PV:=[.sl [eK d] []]
end Go.bW
end
section
open Go Go.Am Go.Proofs
attribute [local irreducible] Am.bl.holds bA fw bC dv
namespace Go.bW
variable {mx:Int}
open Classical
def dN (l:List cE) (id:Int):cE×Bool:=match kl l id with
 |some b=>(b,true)
 |none=>(⟨0,[],0,false,0,0,0,0,false⟩,false)
theorem Db {l:List cE} {id:Int} {v:Nat} (hv:v<l.length) (hk:∀k,k<v→∀h:k<l.length,l[k].id≠id) (he:l[v].id=id):kl l id=some l[v]:=by
 unfold kl;rw[List.find?_eq_some_iff_getElem];exact⟨by simpa using he,v,hv,rfl,fun j hj=>by simpa using hk j hj (by omega)⟩
theorem xM {l:List cE} {id:Int} (hk:∀k,k<l.length→∀h:k<l.length,l[k].id≠id):kl l id=none:=by
 unfold kl;rw[List.find?_eq_none];intro x hx;obtain⟨k,h1,h2⟩:=List.getElem_of_mem hx;subst h2;simpa using hk k h1 h1
theorem oQ {rows sp:List (List PV)} {l:List cE} {id:Int} {cs:List PV} {ok:Bool} (cq:rows=l.map cE.enc) (hl:l.length<2^32) (kh:cs=(dN l id).1.enc) (e6:ok=(dN l id).2):pC mx 216 [.sl rows sp,.int .i64 id] (.ep [.agg cs,.bool ok]):=by
 have hlen:rows.length=l.length:=by simp[cq]
 refine pZ N1 ?_
 iterate 122 intro _
 intro aO _ ak aI aU aL aP aB aV aW bp bu ah aD;refine gK ?_;refine bG [0,1,4,6] (nn [4,4]) (fun v σ_=>σ_.put (some 6) (.pv (.int .i64 (Int.ofNat v)))) (l.length) (fun k=>(∀h:k<l.length,l[k].id≠id)) ?_;intro v hv hk;refine dC ?_;refine bl.af (fun hd=>?_) (fun hd=>?_)
 ·have aY:v<l.length:=by rw[←aD,←ah]at hd;simp at hd;omega
  obtain⟨kD,bh⟩:∃x,l[v]=x:=⟨_,rfl⟩
  have bx:aL (Int.ofNat v) rows 9:=by rw[←aP,cq];exact aR (enc:=cE.enc) aY rfl
  obtain⟨⟨mP,eH,gi,gj,dY,gk,jJ,jK,dJ⟩,cK⟩:∃y,kD=y:=⟨_,rfl⟩;subst cK
  have a6:aI rows (Int.ofNat v)=[.int .i64 mP,.str eH,.int .u8 gi,.bool gj,.int .i64 dY,.int .i64 gk,.int .i64 jJ,.int .u8 jK,.bool dJ]:=by rw[←aU,cq,aQ (enc:=cE.enc) aY,bh];rfl
  refine dp ?_;refine ae bx ?_;rw[a6];refine gK ?_;refine bl.af (fun he=>?_) (fun he=>?_)
  ·replace he:=eT he
   have hf:=Db aY hk (by rw[bh];exact he);refine dp ?_;refine ae bx ?_;rw[a6];refine gK ?_;refine dm ?_;simp only[dN,hf,bh]at kh e6;subst kh e6;rfl
  ·replace he:=eT he
   refine dp ?_;refine ai ⟨aY,fun _=>by rw[bh];exact he,?_⟩;rw[wS ak aO (v:=v) (by omega)]
   cbv
 ·have aY:v=l.length:=by rw[←aD,←ah]at hd;simp at hd;omega
  have hf:=xM (id:=id) (fun k h=>hk k (by omega));refine dp ?_;refine au rfl ?_;refine gK ?_;refine aN ?_;simp only[dN,hf]at kh e6;subst kh e6;rfl
theorem Dc {rows sp S:List (List PV)} {l:List aT} (cq:rows=l.map aT.enc) (hS:S=(l.map (·.slot)).map Slot.enc) (hl:l.length<2^32):pC mx 219 [.sl rows sp] (.sl S []):=by
 have hlen:rows.length=l.length:=by simp[cq]
 have R7:S.length=l.length:=by simp[hS]
 have bP:aS 3 S:=by rw[hS];exact bj (enc:=Slot.enc) (fun _=>rfl) _
 have htk:∀v,aS 3 (S.take v):=fun v r hr=>bP r (List.mem_of_mem_take hr)
 refine pZ N4 ?_
 iterate 116 intro _
 intro bO bs bE _ _ _ aO _ ak aI aU aL aP aB aV aW bp bu ah aD;refine gK ?_;refine zT [0,3,4] (nn [3,3]) (fun v σ_=>(σ_.Kb 3 3 3).put (some 4) (.pv (.int .i64 (Int.ofNat v)))|>.aC 3 (.rows 3 (S.take v) 0)) (l.length) (fun k=>True) (Fg.wc [0,3,4] (nn [3,3]) 3 3 3 rfl (by first|rfl|(cbv;done)) (by first|rfl|(cbv;done)) (by first|exact Nat.le_of_ble_eq_true rfl|(cbv;done)) (by first|(cbv;done)|(simp;cbv;done)|(simp;rfl))) ?_
 intro v hv hk
 try dsimp only
 generalize cw:S.take v=cur;refine dC ?_;refine bl.af (fun hd=>?_) (fun hd=>?_)
 ·have aY:v<l.length:=by rw[←aD,←ah]at hd;simp at hd;omega
  obtain⟨kD,bh⟩:∃x,l[v]=x:=⟨_,rfl⟩
  have bx:aL (Int.ofNat v) rows 4:=by rw[←aP,cq];exact aR (enc:=aT.enc) aY rfl
  obtain⟨⟨fH,⟨eB,dX,cG⟩⟩,cK⟩:∃y,kD=y:=⟨_,rfl⟩;subst cK
  have a6:aI rows (Int.ofNat v)=[.int .i64 fH,.int .i64 eB,.int .i64 dX,.int .u8 cG]:=by rw[←aU,cq,aQ (enc:=aT.enc) aY,bh];rfl
  have hvS:v<S.length:=by omega
  refine dp ?_;refine ae bx ?_;rw[a6];refine gK ?_;refine ae ?_ ?_
  ·rw[←bO,←cw];have:=htk v;simp[this,R7];omega
  refine gK ?_;refine ai ⟨aY,trivial,?_⟩;rw[wS ak aO (v:=v) (by omega)]
  rw[show bs cur [[.int .i64 eB,.int .i64 dX,.int .u8 cG]]=S.take (v+1) by
   rw[←bE,←cw,List.take_succ_eq_append_getElem hvS,bK]
   congr 2
   subst hS;simp only[List.getElem_map];rw[bh]
   rfl]
  cbv
 ·have aY:v=l.length:=by rw[←aD,←ah]at hd;simp at hd;omega
  refine dp ?_;refine au rfl ?_;refine gK ?_;refine aN ?_;rw[←cw,List.take_of_length_le (by omega)]
theorem Br {a b:Int} {r:Bool} (hr:r=decide (qo a b)):pC mx 286 [.int .u8 a,.int .u8 b] (.bool r):=by
 refine pZ N7 ?_
 iterate 129 intro _
 intro aB aV aW bp bu ah aD;refine gK ?_
 repeat' (first|refine rQ ?_|(refine vy (fun hc=>?_) (fun hc=>?_)<;>(try simp at hc)<;>(try(exfalso;omega))))
 all_goals(refine aN ?_)
 all_goals first|(refine tr hr ?_;unfold qo;omega)|(refine fa hr ?_;unfold qo;omega)
theorem EP {a b:Slot} {r:Bool} (hr:r=decide (Bo a b)):pC mx 220 [.agg [.int .i64 a.column,.int .i64 a.gG,.int .u8 a.half],.agg [.int .i64 b.column,.int .i64 b.gG,.int .u8 b.half]] (.bool r):=by
 obtain⟨c1,t1,h1⟩:=a;obtain⟨c2,t2,h2⟩:=b;dsimp only;refine pZ N8 ?_
 iterate 129 intro _
 intro aB aV aW bp bu ah aD;refine gK ?_
 repeat' (first|refine rQ ?_|(refine vy (fun hc=>?_) (fun hc=>?_)<;>(try simp at hc)<;>(try(exfalso;omega))))
 all_goals try(refine bX (by cbv) (Br rfl) (fun h=>?_) (fun h=>?_)<;>simp only[decide_eq_true_eq,decide_eq_false_iff_not]at h<;>refine gK ?_)
 all_goals(refine aN ?_)
 all_goals first|(refine tr hr ⟨?_,?_,?_⟩<;>assumption)|(refine fa hr ?_;rintro⟨h3,h4,h5⟩;dsimp only at h3 h4 h5;first|omega|contradiction)
theorem qX {rows sp:List (List PV)} {l:List Slot} {x:Slot} {half:Int} {r:Bool} (cq:rows=l.map Slot.enc) (hl:l.length<2^32) (ht:0<x.gG∧x.gG<2^63) (hr:r=decide (Has l x half)):pC mx 285 [.sl rows sp,.agg [.int .i64 x.column,.int .i64 x.gG,.int .u8 x.half],.int .u8 half] (.bool r):=by
 have hlen:rows.length=l.length:=by simp[cq]
 obtain⟨xc,xt,xh⟩:=x;dsimp only at ht ⊢;refine pZ N5 ?_
 iterate 119 intro _
 intro b5 cQ _ aO aw ak aI aU aL aP aB aV aW bp bu ah aD;obtain⟨t,CG⟩:∃t,t=xt-1:=⟨_,rfl⟩
 have dD:aw .i64 (b5 xt 1)=t:=by rw[←ak,←cQ];simp only[ct,kP];rw[dh]<;>omega
 refine gK ?_;refine bG [0,2,4,7] (nn [4,4]) (fun v σ_=>σ_.put (some 7) (.pv (.int .i64 (Int.ofNat v)))) (l.length) (fun k=>(∀h:k<l.length,¬(l[k].column=xc∧l[k].gG=xt-1∧l[k].half=half))) ?_;intro v hv hk;refine dC ?_;refine bl.af (fun hd=>?_) (fun hd=>?_)
 ·have aY:v<l.length:=by rw[←aD,←ah]at hd;simp at hd;omega
  obtain⟨kD,bh⟩:∃x,l[v]=x:=⟨_,rfl⟩
  have bx:aL (Int.ofNat v) rows 3:=by rw[←aP,cq];exact aR (enc:=Slot.enc) aY rfl
  obtain⟨⟨eB,dX,cG⟩,cK⟩:∃y,kD=y:=⟨_,rfl⟩;subst cK
  have a6:aI rows (Int.ofNat v)=[.int .i64 eB,.int .i64 dX,.int .u8 cG]:=by rw[←aU,cq,aQ (enc:=Slot.enc) aY,bh];rfl
  refine dp ?_;refine ae bx ?_;rw[a6];refine gK ?_
  repeat' (first|refine rQ ?_|(refine vy (fun hc=>?_) (fun hc=>?_)<;>(try simp at hc)<;>(try(exfalso;omega))))
  ·refine ae bx ?_;rw[a6];refine gK ?_;rw[dD]
   repeat' (first|refine rQ ?_|(refine vy (fun hc=>?_) (fun hc=>?_)<;>(try simp at hc)<;>(try(exfalso;omega))))
   ·refine ae bx ?_;rw[a6];refine gK ?_
    repeat' (first|refine rQ ?_|(refine vy (fun hc=>?_) (fun hc=>?_)<;>(try simp at hc)<;>(try(exfalso;omega))))
    ·refine dm ?_;exact tr hr ⟨v,aY,by rw[bh];exact⟨by dsimp only;omega,by dsimp only;omega,by dsimp only;omega⟩⟩
    ·refine ai ⟨aY,fun _=>by rw[bh];dsimp only;omega,?_⟩;rw[wS ak aO (v:=v) (by omega)]
     cbv
   ·refine ai ⟨aY,fun _=>by rw[bh];dsimp only;omega,?_⟩;rw[wS ak aO (v:=v) (by omega)]
    cbv
  ·refine ai ⟨aY,fun _=>by rw[bh];dsimp only;omega,?_⟩;rw[wS ak aO (v:=v) (by omega)]
   cbv
 ·have aY:v=l.length:=by rw[←aD,←ah]at hd;simp at hd;omega
  refine dp ?_;refine au rfl ?_;refine gK ?_;refine aN ?_;refine fa hr ?_;rintro⟨k,h1,h2⟩;exact hk k (by omega) h1 h2
end Go.bW
end
section
open Go Go.Am Go.Proofs
attribute [local irreducible] Am.bl.holds bA fw bC dv
namespace Go.bW
variable {mx:Int}
open Classical
theorem kE {c csp vv vsp r rsp f fsp t tsp:List (List PV)} {l1 l2 l3 l4 m1 m2 m3 m4:Int} {cl:List aM} {x:Slot} {size:Int} {res:Bool} (ff:c=cl.map aM.enc) (hl:cl.length<2^32) (hr:res=decide (bV cl x size)):pC mx 217 [.agg [.sl c csp,.sl vv vsp,.int .i64 l1,.int .i64 l2,.int .i64 l3,.int .i64 l4,.sl r rsp,.sl f fsp,.sl t tsp,.int .i64 m1,.int .i64 m2,.int .i64 m3,.int .i64 m4],.agg [.int .i64 x.column,.int .i64 x.gG,.int .u8 x.half],.int .i64 size] (.bool res):=by
 have hlen:c.length=cl.length:=by simp[ff]
 obtain⟨xc,xt,xh⟩:=x;dsimp only
 have bad:(0≤xc∧xc<cl.length∧0≤xt→False)→¬bV cl ⟨xc,xt,xh⟩ size:=fun h h'=>h ⟨h'.1.1,h'.1.2.1,h'.1.2.2.1⟩
 refine pZ N3 ?_
 iterate 125 intro _
 intro aI aU aL aP aB aV aW bp bu ah aD;refine gK ?_
 repeat' (first|refine rQ ?_|(refine vy (fun hc=>?_) (fun hc=>?_)<;>(try simp at hc)<;>(try(exfalso;omega))))
 all_goals try(refine aN ?_;exact fa hr (bad (by omega)))
 ·obtain⟨n,hn⟩:∃n:Nat,xc=Int.ofNat n:=⟨xc.toNat,by simp;omega⟩
  have rG:n<cl.length:=by subst hn;simp at*;omega
  subst hn;obtain⟨kD,bh⟩:∃x,cl[n]=x:=⟨_,rfl⟩
  have bx:aL (Int.ofNat n) c 12:=by rw[←aP,ff];exact aR (enc:=aM.enc) rG rfl
  obtain⟨⟨cZ,gM,eh,dM,dz,jd,je,fP,cP,jf,ny,nA,nB⟩,cK⟩:∃y,kD=y:=⟨_,rfl⟩;subst cK
  have a6:aI c (Int.ofNat n)=[.int .i64 cZ,.int .i64 gM,.bool eh,.int .i64 dM,.int .i64 dz,.int .i64 jd,.int .i64 je,.int .i64 fP,.sl (ints cP) jf,.int .i64 ny,.int .i64 nA,.int .i64 nB]:=by rw[←aU,ff,aQ (enc:=aM.enc) rG,bh];rfl
  obtain⟨wh,gh⟩:∃p,p=ints cP:=⟨_,rfl⟩;rw[←gh]at a6
  have key:bV cl ⟨Int.ofNat n,xt,xh⟩ size↔xt<dM∧((size=40∧xh=0)∨(size=20∧(xh=1∨xh=2))):=by
   constructor
   ·rintro⟨⟨-,-,-,h⟩,h2⟩;have:=h rG;simp only[Int.toNat_natCast,Int.ofNat_eq_natCast]at this;rw[bh]at this;exact⟨this,h2⟩
   ·rintro⟨h1,h2⟩;exact⟨⟨by simp,by simpa using rG,by assumption,fun h=>by simp only[Int.toNat_natCast,Int.ofNat_eq_natCast];rw[bh];exact h1⟩,h2⟩
  rw[key]at hr;refine ae bx ?_;rw[a6];refine gK ?_
  repeat' (first|refine rQ ?_|(refine vy (fun hc=>?_) (fun hc=>?_)<;>(try simp at hc)<;>(try(exfalso;omega))))
  all_goals(refine aN ?_)
  all_goals first|(refine tr hr ?_;omega)|(refine fa hr ?_;omega)
theorem ER {rows sp:List (List PV)} {l:List Slot} {x:Slot} {res:Bool} (cq:rows=l.map Slot.enc) (hl:l.length<2^32) (ht:x.gG<2^63) (hr:res=decide (Vu x l)):pC mx 218 [.agg [.int .i64 x.column,.int .i64 x.gG,.int .u8 x.half],.sl rows sp] (.bool res):=by
 obtain⟨xc,xt,xh⟩:=x;dsimp only at ht ⊢;refine pZ N6 ?_
 iterate 129 intro _
 intro aB aV aW bp bu ah aD;refine gK ?_;refine bl.af (fun h1=>?_) (fun h1=>?_)
 ·replace h1:=eT h1
  refine dp ?_;refine aN ?_;exact tr hr (Or.inl h1)
 ·replace h1:=eT h1
  refine dp ?_;refine bl.af (fun h2=>?_) (fun h2=>?_)
  ·replace h2:=eT h2
   refine dp ?_;refine bX (by cbv) (qX (x:=⟨xc,xt,xh⟩) cq hl ⟨h1,ht⟩ rfl) (fun h=>?_) (fun h=>?_)<;>simp only[decide_eq_true_eq,decide_eq_false_iff_not]at h
   ·refine gK ?_;refine aN ?_;exact tr hr (Or.inr (Or.inl (by dsimp only;rw[h2];exact h)))
   ·refine gK ?_;refine bX (by cbv) (qX (x:=⟨xc,xt,xh⟩) cq hl ⟨h1,ht⟩ rfl) (fun h'=>?_) (fun h'=>?_)<;>simp only[decide_eq_true_eq,decide_eq_false_iff_not]at h'
    ·refine gK ?_;refine bX (by cbv) (qX (x:=⟨xc,xt,xh⟩) cq hl ⟨h1,ht⟩ rfl) (fun OA=>?_) (fun OA=>?_)<;>simp only[decide_eq_true_eq,decide_eq_false_iff_not]at OA
     ·refine gK ?_;refine aN ?_;exact tr hr (Or.inr (Or.inr ⟨h2,h',OA⟩))
     ·refine gK ?_;refine aN ?_;refine fa hr ?_;rintro(h3|h3|h3)
      ·dsimp only at h3;omega
      ·dsimp only at h3;rw[h2]at h3;exact h h3
      ·exact OA h3.2.2
    ·refine gK ?_;refine aN ?_;refine fa hr ?_;rintro(h3|h3|h3)
     ·dsimp only at h3;omega
     ·dsimp only at h3;rw[h2]at h3;exact h h3
     ·exact h' h3.2.1
  ·replace h2:=eT h2
   refine dp ?_;refine bX (by cbv) (qX (x:=⟨xc,xt,xh⟩) cq hl ⟨h1,ht⟩ rfl) (fun h=>?_) (fun h=>?_)<;>simp only[decide_eq_true_eq,decide_eq_false_iff_not]at h
   ·refine gK ?_;refine aN ?_;exact tr hr (Or.inr (Or.inl h))
   ·refine gK ?_;refine aN ?_;refine fa hr ?_;rintro(h3|h3|h3)
    ·dsimp only at h3;omega
    ·exact h h3
    ·exact h2 h3.1
theorem qp {boxes:List cE} {l:List aT} {c h:Int}:∀{n:Nat},0≤dd boxes l c h n∧dd boxes l c h n≤2896*n
 |0=>by simp[dd]
 |n+1=>by
  have:=qp (boxes:=boxes) (l:=l) (c:=c) (h:=h) (n:=n);simp only[dd]
  (repeat' split)<;>first|(simp only[EL];split<;>omega)|omega
theorem tA {rows sp bF bsp:List (List PV)} {l:List aT} {boxes:List cE} {ub half n:Int} (cq:rows=l.map aT.enc) (gN:bF=boxes.map cE.enc) (hl:l.length<2^32) (ph:boxes.length<2^32) (hn:n=di boxes l ub half):
  pC mx 287 [.sl bF bsp,.sl rows sp,.int .i64 ub,.int .u8 half] (.int .i64 n):=by
 have hlen:rows.length=l.length:=by simp[cq]
 refine pZ N9 ?_
 iterate 121 intro _
 intro bg aO aw ak aI aU aL aP aB aV aW bp bu ah aD;refine gK ?_;refine bG [0,1,2,3,9,10] [] (fun v σ_=>σ_.put (some 9) (.pv (.int .i64 (dd boxes l ub half v)))|>.put (some 10) (.pv (.int .i64 (Int.ofNat v)))) (l.length) (fun k=>True) ?_;intro v hv hk
 try dsimp only
 generalize hm:dd boxes l ub half v=m;refine dC ?_;have zG:=qp (boxes:=boxes) (l:=l) (c:=ub) (h:=half) (n:=v);rw[hm]at zG;refine bl.af (fun hd=>?_) (fun hd=>?_)
 ·have aY:v<l.length:=by rw[←aD,←ah]at hd;simp at hd;omega
  obtain⟨kD,bh⟩:∃x,l[v]=x:=⟨_,rfl⟩
  have bx:aL (Int.ofNat v) rows 4:=by rw[←aP,cq];exact aR (enc:=aT.enc) aY rfl
  obtain⟨⟨fH,⟨eB,dX,cG⟩⟩,cK⟩:∃y,kD=y:=⟨_,rfl⟩;subst cK
  have a6:aI rows (Int.ofNat v)=[.int .i64 fH,.int .i64 eB,.int .i64 dX,.int .u8 cG]:=by rw[←aU,cq,aQ (enc:=aT.enc) aY,bh];rfl
  have uE:(eB=ub∧(cG=half∨cG=0))→dd boxes l ub half (v+1)=m+(match kl boxes fH with|some b=>EL b|none=>0):=fun h=>by
   simp only[dd,List.getElem?_eq_getElem aY,bh,hm];rw[if_pos h]
   all_goals(cases kl boxes fH<;>rfl)
  have v7:¬(eB=ub∧(cG=half∨cG=0))→dd boxes l ub half (v+1)=m:=fun h=>by
   simp only[dd,List.getElem?_eq_getElem aY,bh,hm];rw[if_neg h]<;>omega
  refine dp ?_;refine ae bx ?_;rw[a6];refine gK ?_
  cases hf:kl boxes fH with
  |none=>
   refine an (by cbv) (oQ (id:=fH) (ok:=false) (cs:=[.int .i64 0,.str [],.int .u8 0,.bool false,.int .i64 0,.int .i64 0,.int .i64 0,.int .u8 0,.bool false]) gN ph (by simp only[dN,hf];rfl) (by simp only[dN,hf])) (fun h=>by first|rfl|cases h) ?_;refine gK ?_;refine ai ⟨aY,trivial,?_⟩;rw[wS ak aO (v:=v) (by omega)]
   rw[show dd boxes l ub half (v+1)=m by
    by_cases h:eB=ub∧(cG=half∨cG=0)
    ·rw[uE h,hf];simp
    ·exact v7 h]
   cbv
  |some b=>
   obtain⟨OD,Bs,bsize,rR,oR,tB,Bt,Bu,lQ⟩:=b;refine an (by cbv) (oQ (id:=fH) (ok:=true) (cs:=[.int .i64 OD,.str Bs,.int .u8 bsize,.bool rR,.int .i64 oR,.int .i64 tB,.int .i64 Bt,.int .u8 Bu,.bool lQ]) gN ph (by simp only[dN,hf];rfl) (by simp only[dN,hf])) (fun h=>by first|rfl|cases h) ?_;rw[hf]at uE
   cases rR
   ·have Dd:(eB=ub∧(cG=half∨cG=0))→dd boxes l ub half (v+1)=m+2591:=fun h=>by rw[uE h];rfl
    obtain⟨z,hz⟩:∃z,dd boxes l ub half (v+1)=z:=⟨_,rfl⟩;rw[hz]at Dd v7;rw[hz];refine gK ?_
    repeat' (first
     |refine rQ ?_
     |(refine ae bx ?_;rw[a6];refine gK ?_)
     |(refine bl.af (fun hc=>?_) (fun hc=>?_)<;>(rw[←aW,←bu]at hc)<;>(try simp at hc)))
    all_goals
     refine ai ⟨aY,trivial,?_⟩;rw[wS ak aO (v:=v) (by omega)]
     first
      |(rw[v7 (by omega)];cbv)
      |(rw[show aw .i64 (bg m 2591)=z by rw[←ak,←aO,Dd (by omega)];simp only[ct,jk];rw[dh]<;>omega];cbv)
   ·have Dd:(eB=ub∧(cG=half∨cG=0))→dd boxes l ub half (v+1)=m+2896:=fun h=>by rw[uE h];rfl
    obtain⟨z,hz⟩:∃z,dd boxes l ub half (v+1)=z:=⟨_,rfl⟩;rw[hz]at Dd v7;rw[hz];refine gK ?_
    repeat' (first
     |refine rQ ?_
     |(refine ae bx ?_;rw[a6];refine gK ?_)
     |(refine bl.af (fun hc=>?_) (fun hc=>?_)<;>(rw[←aW,←bu]at hc)<;>(try simp at hc)))
    all_goals
     refine ai ⟨aY,trivial,?_⟩;rw[wS ak aO (v:=v) (by omega)]
     first
      |(rw[v7 (by omega)];cbv)
      |(rw[show aw .i64 (bg m 2896)=z by rw[←ak,←aO,Dd (by omega)];simp only[ct,jk];rw[dh]<;>omega];cbv)
 ·have aY:v=l.length:=by rw[←aD,←ah]at hd;simp at hd;omega
  refine dp ?_;refine au rfl ?_;refine gK ?_;refine aN ?_;rw[hn,←hm,aY];rfl
end Go.bW
end
section
open Go Go.Am Go.Proofs
attribute [local irreducible] Am.bl.holds bA fw bC dv
namespace Go.bW
variable {mx:Int}
open Classical
theorem oS {n:Nat} (h:n<10):digits n=[UInt8.ofNat (48+n)]:=by rw[digits,dif_pos h]
theorem EY {n:Nat} (h:¬n<10):digits n=digits (n/10)++digits (n%10):=by
 rw[digits,dif_neg h,oS (n:=n%10) (by omega)]
theorem kG:∀{n:Nat},n<2^62→(digits n).length≤n+1:=by
 intro n
 induction n using Nat.strongRecOn with
 |_ n ih=>
 intro h
 by_cases h1:n<10
 ·rw[oS h1];simp
 ·rw[digits,dif_neg h1];have:=ih (n/10) (by omega) (by omega);simp;omega
theorem cJ:∀(n:Nat) {t:List UInt8} (hn:n<2^40) (ht:t=digits n),pC mx 213 [.int .i64 (Int.ofNat n)] (.str t):=by
 intro n
 induction n using Nat.strongRecOn with
 |_ n ih=>
 intro t hn ht
 have ih':=fun m hm=>@ih m hm _ (by omega) rfl
 refine pZ Oi ?_
 iterate 93 intro _
 intro dy _ dE dF eg jt ej _ iR _ _ _ _ fS j0 _ _ _ _ eO iu _ _ _ _ _ _ _ bg aO aw ak _ _ _ _ aB aV aW bp bu ah aD;refine gK ?_;refine bl.af (fun h1=>?_) (fun h1=>?_)
 ·replace h1:=eT h1
  have bL:n<10:=by omega
  obtain⟨b,hb⟩:∃b,b=(48:Int)+Int.ofNat n:=⟨_,rfl⟩
  have w1:aw .u8 (aw .i64 (bg 48 (Int.ofNat n)))=b:=by rw[←ak,←aO,hb];simp only[ct,jk];rw[dh,KD]<;>simp<;>omega
  refine dp ?_;rw[w1];refine ae (by rw[←jt];intro r hr;exact⟨b,by simpa using hr⟩) ?_;rw[show eg [[.int .u8 b]]=t by rw[←ej,ht,oS bL];simp only[aG,hb,List.map_cons,List.map_nil];congr 2];refine gK ?_;refine aN ?_;rfl
 ·replace h1:=eT h1
  have B7:¬n<10:=by omega
  obtain⟨m,hm⟩:∃m,m=n/10:=⟨_,rfl⟩;obtain⟨k,hk⟩:∃k,k=n%10:=⟨_,rfl⟩;obtain⟨x,hx⟩:∃x,x=digits m:=⟨_,rfl⟩;obtain⟨y,hy⟩:∃y,y=digits k:=⟨_,rfl⟩
  have hq:fS (Int.ofNat n) 10=Int.ofNat m:=by rw[←j0,Nn,hm];simp[Int.tdiv_eq_ediv_of_nonneg]
  have hr:eO (Int.ofNat n) 10=Int.ofNat k:=by rw[←iu,A3,hk];simp[Int.tmod_eq_emod_of_nonneg]
  refine dp ?_;refine ae (by rw[←iR];simp) ?_;rw[hq,show aw .i64 (Int.ofNat m)=Int.ofNat m by rw[←ak];simp only[ct];rw[dh]<;>simp<;>omega];refine gK ?_;refine an (by cbv) (ih m (by omega) (by omega) hx) (fun h=>by first|rfl|cases h) ?_;refine gK ?_;refine ae (by rw[←iR];simp) ?_;rw[hr];refine gK ?_;refine an (by cbv) (ih k (by omega) (by omega) hy) (fun h=>by first|rfl|cases h) ?_;refine gK ?_;refine ae ?_ ?_
  ·rw[←dE,db,hx,hy];have h1:=kG (n:=m) (by omega);have h2:=kG (n:=k) (by omega);omega
  rw[show dy x y=t by rw[←dF,fg,ht,EY B7,hx,hy,hm,hk]];refine gK ?_;refine aN ?_;rfl
theorem dU {rows sp D:List (List PV)} {tag:List UInt8} {l:List (List UInt8)} (cq:rows=strs l) (hD:D=l.map fun d=>[.sl [eK d] []]) (hl:l.length<2^32):pC mx 212 [.str tag,.sl rows sp] (.agg [.str tag,.sl D []]):=by
 have hlen:rows.length=l.length:=by simp[cq,strs]
 refine pZ Oj ?_
 iterate 105 intro _
 intro gO
 iterate 10 intro _
 intro bO bs bE _ _ bg aO aw ak aI aU aL aP aB aV aW bp bu ah aD;refine gK ?_;refine gL ?_;refine dC ?_;refine bl.af (fun h1=>?_) (fun h1=>?_)
 ·have h0:0<l.length:=by rw[←aD,←ah]at h1;simp at h1;omega
  obtain⟨VE,bh⟩:∃x,l[0]=x:=⟨_,rfl⟩
  have bx:aL (Int.ofNat 0) rows 1:=by rw[←aP,cq];exact aR (enc:=eK) h0 rfl
  have a6:aI rows (Int.ofNat 0)=[.str VE]:=by rw[←aU,cq,strs,aQ (enc:=eK) h0,bh];rfl
  refine dp ?_;refine ae bx ?_;rw[show aI rows 0=[.str VE] from a6];refine gK ?_;refine ae ?_ ?_
  ·rw[←bO,←gO];simp[cr,aS,fr,aG]
   try(repeat' constructor)
  rw[show bs [] [[.sl [[.str VE]] []]]=D.take 1 by
   rw[←bE,bK,hD]
   cases l with
   |nil=>simp at h0
   |cons y ys=>simp at bh;simp[eK,bh]]
  refine gK ?_;refine ai ?_;rw[show aw .i64 (bg 0 1)=Int.ofNat (0+1) by subst_vars;exact fZ (v:=0) (by omega)];refine bG [0,1,4,5,6] (nn [4,4,0,5,17,23]) (fun v σ_=>σ_.put (some 6) (.pv (.int .i64 (Int.ofNat (v+1))))|>.aC 23 (.rows 1 (D.take (v+1)) 0)) (l.length) (fun k=>True) ?_;intro v hv hk
  try dsimp only
  generalize hw:v+1=w;generalize cw:D.take w=cur;refine dC ?_;refine bl.af (fun hd=>?_) (fun hd=>?_)
  ·have aY:w<l.length:=by rw[←aD,←ah]at hd;simp at hd;omega
   obtain⟨qY,dq⟩:∃x,l[w]=x:=⟨_,rfl⟩
   have dT:aL (Int.ofNat w) rows 1:=by rw[←aP,cq];exact aR (enc:=eK) aY rfl
   have cL:aI rows (Int.ofNat w)=[.str qY]:=by rw[←aU,cq,strs,aQ (enc:=eK) aY,dq];rfl
   have Mj:w<D.length:=by rw[hD];simpa using aY
   refine dp ?_;refine ae dT ?_;rw[cL];refine gK ?_;refine ae ?_ ?_
   ·rw[←bO,←cw]
    have bP:aS 1 (D.take w):=fun r hr=>by
     have:=List.mem_of_mem_take hr;rw[hD]at this;obtain⟨x,-,rfl⟩:=List.mem_map.1 this;rfl
    simp[cr,fr,aG,bP];omega
   refine gK ?_;refine ai ⟨by omega,trivial,?_⟩;rw[wS ak aO (v:=w) (by omega)]
   rw[show bs cur [[.sl [[.str qY]] []]]=D.take (w+1) by
    rw[←bE,←cw,List.take_succ_eq_append_getElem Mj,bK]
    congr 2
    subst hD;simp only[List.getElem_map];rw[dq]
    rfl]
   cbv
  ·have aY:l.length≤w:=by rw[←aD,←ah]at hd;simp at hd;omega
   refine dp ?_;refine au rfl ?_;refine gK ?_;rw[show cur=D by rw[←cw];exact List.take_of_length_le (by rw[hD];simpa using aY)];refine aN ?_;rfl
 ·have h0:l=[]:=by
   rw[←aD,←ah]at h1;simp[cq,strs]at h1;exact h1
  subst h0;refine dp ?_;refine au rfl ?_;refine gK ?_;refine aN ?_;subst hD;rfl
end Go.bW
end
