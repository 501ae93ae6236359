import Derived.Lib.DecodeNEq
import Derived.Test.YtfaccbkibjkfjaaGreatDoorT07
import Derived.Test.YtfaccbkibjkfjaaGreatDoorT41
import Derived.Test.YtfaccbkibjkfjaaGreatDoorT11
set_option linter.all false
set_option maxRecDepth 100000
set_option maxHeartbeats 1000000
section
open Go Go.Am
namespace Go.b8
open Classical
theorem tr {P:Prop} {_i:Decidable P} {r:Bool} (hr:r=decide P) (h:P):some (PV.bool true)=some (PV.bool r):=by simp[hr,h]
theorem fa {P:Prop} {_i:Decidable P} {r:Bool} (hr:r=decide P) (h:¬P):some (PV.bool false)=some (PV.bool r):=by simp[hr,h]
def at_ (s:List UInt8) (i:Nat):Int:=((s.getD i 0).toNat:Int)
theorem wm (s:List UInt8) (i:Nat):0≤at_ s i∧at_ s i<256:=⟨by unfold at_;omega,by unfold at_;have:=(s.getD i 0).toNat_lt;omega⟩
def yH (p:List UInt8):Prop:=p.length=5∧∀i,i<p.length→65≤at_ p i∧at_ p i≤90
def ra (s:List UInt8):Prop:=∀i,i<s.length→if i<3 then 65≤at_ s i∧at_ s i≤90 else if i=3 then at_ s i=85∨at_ s i=74∨at_ s i=90 else 48≤at_ s i∧at_ s i≤57
def val (b:Int):Int:=if b≤57 then b-48 else 10+(b-65)+(b-65+9)/10
def summed (s:List UInt8):Nat→Int
 |0=>0
 |n+1=>summed s n+val (at_ s n)*2^n
def hU (s:List UInt8):Prop:=s.length=11∧ra s∧at_ s 10-48=summed s 10%11%10
def most (size:Int):Int:=if size=20 then 32000 else if size=40 then 40000 else 0
def iL (b:b6):Prop:=(1≤b.id∧b.id≤999999)∧(b.number=[]∨hU b.number)∧(b.high=true→b.size=40)∧(1≤b.cD∧b.cD≤most b.size)∧(0≤b.load∧b.load<b.discharge∧b.discharge<20)∧b.cls≤9
def nf (l:List b6) (i:Nat):Prop:=∀h:i<l.length,iL l[i]∧(∀k,(hk:k<i)→(l[i].number≠[]→l[k].number≠l[i].number))∧(i≠0→∀hk:i-1<l.length,l[i-1].id<l[i].id)
def wo (l:List b6):Prop:=l.length≤2000∧∀i,i<l.length→nf l i
def lG (b:b6) (k:Int):Prop:=b.load≤k∧k<b.discharge
def zU (b:b6):List UInt8×Int:=
 if b.size=20∧b.high=false then(if b.cK then [50,50,82,49]else [50,50,71,49],0)
 else if b.size=40 then(if b.high then(if b.cK then [52,53,82,49]else [52,53,71,49])else(if b.cK then [52,50,82,49]else [52,50,71,49]),0)
 else([],60)
def rb (c:aL) (i:Nat):Prop:=0≤c.cq.getD i 0∧c.cq.getD i 0<c.dv∧(i=0∨c.cq.getD (i-1) 0<c.cq.getD i 0)
def In (n lo hi:Int):Prop:=lo≤n∧n≤hi
def fX (c:aL):Prop:=(∀i,i<c.cq.length→rb c i)∧In c.jj 0 39∧In c.row 0 30∧In c.dv 1 10∧In c.dk 0 40000∧In c.tT 0 500000000∧In c.tU 0 500000000∧In c.kj 0 1000000000000∧In c.x (-500000) 500000∧In c.y (-500000) 500000∧In c.z (-500000) 500000
def qz (a b:aL):Prop:=¬(a.jj=b.jj∧a.row=b.row∧a.iZ=b.iZ)
def qA (x:bz) (i:Nat):Prop:=0≤x.rows.getD i 0∧x.rows.getD i 0≤30∧(i=0∨x.rows.getD (i-1) 0<x.rows.getD i 0)
def iM (x:bz):Prop:=In x.jj 0 39∧x.rows≠[]∧∀i,i<x.rows.length→qA x i
def cC (c:List aL) (v:List bz):Prop:=(1≤c.length∧c.length≤200∧v.length≤40)∧(∀i,(h:i<c.length)→fX c[i]∧∀k,(hk:k<i)→qz c[k] c[i])∧
 (∀i,(h:i<v.length)→iM v[i]∧∀k,(hk:k<i)→v[k].jj=v[i].jj→∀r,r∈v[i].rows→r∉v[k].rows)
def fy (c:List aL) (x:Slot) (size:Int):Prop:=(0≤x.column∧x.column<c.length∧0≤x.hP∧∀h:x.column.toNat<c.length,x.hP<c[x.column.toNat].dv)∧((size=40∧x.half=0)∨(size=20∧(x.half=1∨x.half=2)))
def pj (a b:Int):Prop:=a=b∨a=0∨b=0
def zV (a b:Slot):Prop:=a.column=b.column∧a.hP=b.hP∧pj a.half b.half
def Has (l:List Slot) (x:Slot) (half:Int):Prop:=∃i,∃h:i<l.length,l[i].column=x.column∧l[i].hP=x.hP-1∧l[i].half=half
def Va (x:Slot) (l:List Slot):Prop:=x.hP≤0∨Has l x x.half∨(x.half=0∧Has l x 1∧Has l x 2)
def Vb (n:Int):UInt8:=UInt8.ofNat (48+(n%10).toNat)
noncomputable def JN (c:List aL) (v:List bz) (x:Slot):List UInt8×Int:=
 if ¬cC c v then([],2)else if ¬fy c x 20∧¬fy c x 40 then([],6)
 else match c[x.column.toNat]? with
  |none=>([],6)
  |some k=>
   let n:=4*k.jj+(if x.half=0 then 2 else if x.half=1 then 1 else 3)
   let t:=(2*(x.hP+1)+if k.iZ then 80 else 0)%100
   ([Vb (n/100),Vb (n/10),Vb n,Vb (k.row/10),Vb k.row,Vb (t/10),Vb t],0)
def ku (l:List b6) (id:Int):Option b6:=l.find? (fun b=>decide (b.id=id))
def DM (b:b6):Int:=if b.high then 2896 else 2591
noncomputable def cZ (boxes:List b6) (l:List aH) (column half:Int):Nat→Int
 |0=>0
 |n+1=>cZ boxes l column half n+match l[n]? with
  |none=>0
  |some x=>if x.slot.column=column∧(x.slot.half=half∨x.slot.half=0)then(match ku boxes x.box with|some b=>DM b|none=>0)else 0
noncomputable def dk (boxes:List b6) (l:List aH) (column half:Int):Int:=cZ boxes l column half l.length
def Fits (c:aL) (boxes:List b6) (l:List aH) (i:Int):Prop:=c.dk≤0∨(dk boxes l i 1≤c.dk∧dk boxes l i 2≤c.dk)
def pk (c:List aL) (boxes:List b6) (l:List aH) (i:Nat):Prop:=∀h:i<l.length,(∃b,ku boxes l[i].box=some b∧fy c l[i].slot b.size)∧Va l[i].slot (l.map (·.slot))∧∀k,(hk:k<i)→l[k].box<l[i].box∧¬zV l[k].slot l[i].slot
def gC (c:List aL) (v:List bz) (boxes:List b6) (l:List aH):Prop:=cC c v∧(∀i,i<l.length→pk c boxes l i)∧∀i,(h:i<c.length)→Fits c[i] boxes l i
def DN (c:List aL) (v:List bz) (call:Int) (port:List UInt8) (boxes:List b6) (l:List aH):Prop:=
 (0≤call∧call<20)∧yH port∧boxes.length=l.length∧wo boxes∧gC c v boxes l∧∀i,(h:i<boxes.length)→lG boxes[i] call
def service (b:UInt8):Bool:=b==39||b==43||b==58||b==63
def Hb (c:List UInt8):Prop:=c.length≤100∧∀i,i<c.length→32≤at_ c i∧at_ c i≤126
def Hc (e:List (List UInt8)):Prop:=1≤e.length∧e.length≤10∧∀i,(h:i<e.length)→Hb e[i]
def Ca (s:List (List (List UInt8))):Prop:=1≤s.length∧s.length≤30∧∀i,(h:i<s.length)→Hc s[i]
def esc:List UInt8→List UInt8
 |[]=>[]
 |b::r=>(if service b then [63,b]else [b])++esc r
def DP (sep:UInt8):List (List UInt8)→List UInt8
 |[]=>[]
 |[c]=>c
 |c::r=>c++sep::DP sep r
def JO (e:List (List UInt8)):List UInt8:=DP 58 (e.map esc)
def Oq (s:List (List (List UInt8))):List UInt8:=
 (if((s.headD []).headD []).head? =some 32 then [63]else [])++DP 43 (s.map JO)++[39]
def F4 (l:List (List (List (List UInt8)))):List UInt8:=(l.map Oq).flatten
noncomputable def JP (l:List (List (List (List UInt8)))):List UInt8×Int:=
 if 5000<l.length then([],5)else if ∃s∈l,¬Ca s then([],2)else if 65536<(F4 l).length then([],3)else(F4 l,0)
structure Seg where
 tag:List UInt8
 data:List (List (List UInt8))
structure Message where
 kind:List UInt8
 ref:List UInt8
 Hd:List Seg
def sg (s:List UInt8):Prop:=∀i,i<s.length→65≤at_ s i∧at_ s i≤90
def Cb (s:List UInt8):Prop:=s.length=3∧sg s∧s≠[72,69,68]∧s≠[69,78,68]
def pS (s:List UInt8):Prop:=s.length=6∧sg s
def wq (s:List UInt8):Prop:=1≤s.length∧s.length≤14∧∀i,i<s.length→(65≤at_ s i∧at_ s i≤90)∨(48≤at_ s i∧at_ s i≤57)
def Cc (m:Message):Prop:=pS m.kind∧wq m.ref∧∀i,(h:i<m.Hd.length)→Cb m.Hd[i].tag∧Ca ([m.Hd[i].tag]::m.Hd[i].data)
def aaN:List (List UInt8)→List (List UInt8)
 |[]=>[[]]
 |c::r=>c::(r.reverse.dropWhile (fun x=>x.isEmpty)).reverse
def aaO (d:List (List (List UInt8))):List (List (List UInt8)):=((d.map aaN).reverse.dropWhile (fun e=>e==[[]])).reverse
def digits (n:Nat):List UInt8:=if h:n<10 then [UInt8.ofNat (48+n)]else digits (n/10)++[UInt8.ofNat (48+n%10)]
termination_by n
noncomputable def JQ (m:Message):List UInt8×Int:=
 if ¬Cc m then([],2)else JP ([[[72,69,68]],[m.ref],[m.kind]]::(m.Hd.map fun s=>[s.tag]::aaO s.data)++[[[[69,78,68]],[digits (m.Hd.length+2)],[m.ref]]])
def JR:List UInt8:=[66,65,89,80,76,78]
def He (tag:List UInt8) (data:List (List UInt8)):Seg:=⟨tag,data.map fun d=>[d]⟩
noncomputable def Ot (c:List aL) (v:List bz) (b:b6) (x:aH):List Seg:=
 [He [76,79,67] [(JN c v x.slot).1],He [69,81,68] [digits b.id.toNat,b.number,(zU b).1],He [77,69,65] [digits b.cD.toNat],He [82,70,70] [digits b.load.toNat,digits b.discharge.toNat]]++
  (if 0<b.cls then [He [68,71,83] [digits b.cls.toNat]]else [])
noncomputable def zX (c:List aL) (v:List bz) (ref:List UInt8) (call:Int) (port:List UInt8) (boxes:List b6) (l:List aH):Message:=
 ⟨JR,ref,He [86,79,89] [digits call.toNat,port]::((boxes.zip l).map fun x=>Ot c v x.1 x.2).flatten⟩
noncomputable def Vc (c:List aL) (v:List bz) (ref:List UInt8) (call:Int) (port:List UInt8) (boxes:List b6) (l:List aH):List UInt8×Int:=
 if ¬DN c v call port boxes l then([],390)else if ¬Cc ⟨JR,ref,[]⟩then([],391)else JQ (zX c v ref call port boxes l)
end Go.b8
end
section
open Go Go.Am
namespace Go.b8
theorem Hf {n:Nat} {a b:Nat→Int} (ha:∀i,i+1<n→a i<a (i+1)) (hb:∀i,i+1<n→b i<b (i+1)) (h:∀i,i<n→∃j,j<n∧b j=a i):∀i,i<n→a i=b i:=by
 have mono:∀(c:Nat→Int),(∀i,i+1<n→c i<c (i+1))→∀i j,i<j→j<n→c i<c j:=by
  intro c hc i j ot hj
  induction j with
  |zero=>omega
  |succ j ih=>
   have:=hc j hj
   by_cases e:i=j
   ·subst e;exact this
   ·have:=ih (by omega) (by omega);omega
 have hlow:∀i,i<n→∀j,j<n→b j=a i→i≤j:=by
  intro i
  induction i with
  |zero=>intro _ j _ _;omega
  |succ i ih=>
   intro hi j hj he;obtain⟨j',A2,A6⟩:=h i (by omega);have h1:=ih (by omega) j' A2 A6;have h2:=ha i hi
   by_cases hjj:j≤j'
   ·exfalso
    have:b j≤b j':=by
     by_cases e:j=j'
     ·subst e;exact Int.le_refl _
     ·have:=mono b hb j j' (by omega) A2;omega
    omega
   ·omega
 have hup:∀k i,i+k+1=n→∀j,j<n→b j=a i→j≤i:=by
  intro k
  induction k with
  |zero=>intro i hi j hj _;omega
  |succ k ih=>
   intro i hi j hj he;obtain⟨j',A2,A6⟩:=h (i+1) (by omega);have h1:=ih (i+1) (by omega) j' A2 A6;have h2:=ha i (by omega)
   by_cases hjj:j'≤j
   ·exfalso
    have:b j'≤b j:=by
     by_cases e:j'=j
     ·subst e;exact Int.le_refl _
     ·have:=mono b hb j' j (by omega) hj;omega
    omega
   ·omega
 intro i hi;obtain⟨j,hj,he⟩:=h i hi;have h1:=hlow i hi j hj he;have h2:=hup (n-1-i) i (by omega) j hj he
 obtain rfl:i=j:=by omega
 exact he.symm
theorem JS {s:List UInt8} {v:Nat}:∃n b1 b2 b3,Utf8.decode (⟨s.toArray⟩:ByteArray) v=Lib.decodeN n (s.getD v 0).toNat b1 b2 b3:=by
 have e:(⟨s.toArray⟩:ByteArray).get! v=s.getD v 0:=by
  show s.toArray[v]! =_;simp[List.getD_eq_getElem?_getD];rfl
 exact⟨_,_,_,_,by rw[Lib.decode_at,e]⟩
theorem re {s:List UInt8} {v:Nat} (hb:at_ s v<128):aF.rune s v=at_ s v∧aF.C0 s v=1:=by
 obtain⟨n,b1,b2,b3,h⟩:=JS (s:=s) (v:=v)
 have fP:(s.getD v 0).toNat<128:=by unfold at_ at hb;omega
 have e:Lib.decodeN n (s.getD v 0).toNat b1 b2 b3=((s.getD v 0).toNat,1):=by unfold Lib.decodeN;rw[if_pos fP]
 rw[e]at h;simp only[aF,at_,Int.toNat_natCast,h];exact⟨by first|rfl|trivial,by first|rfl|trivial⟩
theorem JT {s:List UInt8} {v:Nat} (hb:128≤at_ s v):128≤aF.rune s v:=by
 obtain⟨n,b1,b2,b3,h⟩:=JS (s:=s) (v:=v)
 have fP:¬(s.getD v 0).toNat<128:=by unfold at_ at hb;omega
 have e:128≤(Lib.decodeN n (s.getD v 0).toNat b1 b2 b3).1:=by
  unfold Lib.decodeN;rw[if_neg fP]
  repeat' split
  all_goals omega
 simp only[aF,Int.toNat_natCast,h];omega
end Go.b8
end
section
open Go Go.Am
namespace Go.b8
theorem wr8 {n:Int} (h0:0≤n) (h1:n<256):IntKind.wrap .u8 n=n:=by
 have e1:(2:Int)^IntKind.u8.bits=256:=by decide
 unfold IntKind.wrap;simp only[e1];rw[Int.emod_eq_of_lt h0 h1,if_neg (by simp[IntKind.signed])]
def aaP (c:List UInt8):List PV:=[.str c]
def strs (cs:List (List UInt8)):List (List PV):=cs.map aaP
abbrev Elem:=List (List UInt8)×List (List PV)
def encE (e:Elem):List PV:=[.sl (strs e.1) e.2]
def encD (d:List UInt8):List PV:=[.sl [aaP d] []]
end Go.b8
end
section
open Go Go.Am Go.Proofs
attribute [local irreducible] Am.bp.holds bH fw bP ek
namespace Go.b8
variable {mx:Int}
open Classical
def dM (l:List b6) (id:Int):b6×Bool:=match ku l id with
 |some b=>(b,true)
 |none=>(⟨0,[],0,false,0,0,0,0,false⟩,false)
theorem Cd {l:List b6} {id:Int} {v:Nat} (hv:v<l.length) (hk:∀k,k<v→∀h:k<l.length,l[k].id≠id) (he:l[v].id=id):ku l id=some l[v]:=by
 unfold ku;rw[List.find?_eq_some_iff_getElem];exact⟨by simpa using he,v,hv,rfl,fun j hj=>by simpa using hk j hj (by omega)⟩
theorem wu {l:List b6} {id:Int} (hk:∀k,k<l.length→∀h:k<l.length,l[k].id≠id):ku l id=none:=by
 unfold ku;rw[List.find?_eq_none];intro x hx;obtain⟨k,h1,h2⟩:=List.getElem_of_mem hx;subst h2;simpa using hk k h1 h1
theorem nQ {rows sp:List (List PV)} {l:List b6} {id:Int} {cs:List PV} {ok:Bool} (eS:rows=l.map b6.enc) (hl:l.length<2^32) (hcs:cs=(dM l id).1.enc) (eL:ok=(dM l id).2):pC mx 216 [.sl rows sp,.int .i64 id] (.eN [.agg cs,.bool ok]):=by
 have hlen:rows.length=l.length:=by simp[eS]
 refine pZ MP ?_
 iterate 122 intro _
 intro aw _ ah aI aQ aJ aP aB aU aV bC bA ag aC;refine gK ?_;refine bQ [0,1,4,6] (nn [4,4]) (fun v σ_=>σ_.put (some 6) (.pv (.int .i64 (Int.ofNat v)))) (l.length) (fun k=>(∀h:k<l.length,l[k].id≠id)) ?_;intro v hv hk;refine ej ?_;refine bp.af (fun hd=>?_) (fun hd=>?_)
 ·have aT:v<l.length:=by rw[←aC,←ag]at hd;simp at hd;omega
  obtain⟨gI,bj⟩:∃x,l[v]=x:=⟨_,rfl⟩
  have bG:aJ (Int.ofNat v) rows 9:=by rw[←aP,eS];exact aO (enc:=b6.enc) aT rfl
  obtain⟨⟨iN,fO,eZ,e6,eG,eA,gi,jl,dI⟩,bW⟩:∃y,gI=y:=⟨_,rfl⟩;subst bW
  have aW:aI rows (Int.ofNat v)=[.int .i64 iN,.str fO,.int .u8 eZ,.bool e6,.int .i64 eG,.int .i64 eA,.int .i64 gi,.int .u8 jl,.bool dI]:=by rw[←aQ,eS,aN (enc:=b6.enc) aT,bj];rfl
  refine aY ?_;refine ae bG ?_;rw[aW];refine gK ?_;refine bp.af (fun he=>?_) (fun he=>?_)
  ·replace he:=eE he
   have hf:=Cd aT hk (by rw[bj];exact he);refine aY ?_;refine ae bG ?_;rw[aW];refine gK ?_;refine dS ?_;simp only[dM,hf,bj]at hcs eL;subst hcs eL;rfl
  ·replace he:=eE he
   refine aY ?_;refine ak ⟨aT,fun _=>by rw[bj];exact he,?_⟩;rw[wS ah aw (v:=v) (by omega)]
   cbv
 ·have aT:v=l.length:=by rw[←aC,←ag]at hd;simp at hd;omega
  have hf:=wu (id:=id) (fun k h=>hk k (by omega));refine aY ?_;refine ar rfl ?_;refine gK ?_;refine aX ?_;simp only[dM,hf]at hcs eL;subst hcs eL;rfl
theorem Ce {rows sp S:List (List PV)} {l:List aH} (eS:rows=l.map aH.enc) (hS:S=(l.map (·.slot)).map Slot.enc) (hl:l.length<2^32):pC mx 219 [.sl rows sp] (.sl S []):=by
 have hlen:rows.length=l.length:=by simp[eS]
 have hSl:S.length=l.length:=by simp[hS]
 have bS:aK 3 S:=by rw[hS];exact bl (enc:=Slot.enc) (fun _=>rfl) _
 have htk:∀v,aK 3 (S.take v):=fun v r hr=>bS r (List.mem_of_mem_take hr)
 refine pZ MR ?_
 iterate 116 intro _
 intro dF bJ bX _ _ _ aw _ ah aI aQ aJ aP aB aU aV bC bA ag aC;refine gK ?_;refine JJ [0,3,4] (nn [3,3]) (fun v σ_=>(σ_.T5 3 3 3).put (some 4) (.pv (.int .i64 (Int.ofNat v)))|>.aq 3 (.rows 3 (S.take v) 0)) (l.length) (fun k=>True) (Fg.E5 [0,3,4] (nn [3,3]) 3 3 3 rfl (by first|rfl|(cbv;done)) (by first|rfl|(cbv;done)) (by first|exact Nat.le_of_ble_eq_true rfl|(cbv;done)) (by first|(cbv;done)|(simp;cbv;done)|(simp;rfl))) ?_
 intro v hv hk
 try dsimp only
 generalize dA:S.take v=cur;refine ej ?_;refine bp.af (fun hd=>?_) (fun hd=>?_)
 ·have aT:v<l.length:=by rw[←aC,←ag]at hd;simp at hd;omega
  obtain⟨gI,bj⟩:∃x,l[v]=x:=⟨_,rfl⟩
  have bG:aJ (Int.ofNat v) rows 4:=by rw[←aP,eS];exact aO (enc:=aH.enc) aT rfl
  obtain⟨⟨eH,⟨dO,du,ct⟩⟩,bW⟩:∃y,gI=y:=⟨_,rfl⟩;subst bW
  have aW:aI rows (Int.ofNat v)=[.int .i64 eH,.int .i64 dO,.int .i64 du,.int .u8 ct]:=by rw[←aQ,eS,aN (enc:=aH.enc) aT,bj];rfl
  have hvS:v<S.length:=by omega
  refine aY ?_;refine ae bG ?_;rw[aW];refine gK ?_;refine ae ?_ ?_
  ·rw[←dF,←dA];have:=htk v;simp[this,hSl];omega
  refine gK ?_;refine ak ⟨aT,trivial,?_⟩;rw[wS ah aw (v:=v) (by omega)]
  rw[show bJ cur [[.int .i64 dO,.int .i64 du,.int .u8 ct]]=S.take (v+1) by
   rw[←bX,←dA,List.take_succ_eq_append_getElem hvS,dj]
   congr 2
   subst hS;simp only[List.getElem_map];rw[bj]
   rfl]
  cbv
 ·have aT:v=l.length:=by rw[←aC,←ag]at hd;simp at hd;omega
  refine aY ?_;refine ar rfl ?_;refine gK ?_;refine aX ?_;rw[←dA,List.take_of_length_le (by omega)]
theorem zY {a b:Int} {r:Bool} (hr:r=decide (pj a b)):pC mx 286 [.int .u8 a,.int .u8 b] (.bool r):=by
 refine pZ MU ?_
 iterate 129 intro _
 intro aB aU aV bC bA ag aC;refine gK ?_
 repeat' (first|refine gH ?_|(refine iE (fun hc=>?_) (fun hc=>?_)<;>(try simp at hc)<;>(try(exfalso;omega))))
 all_goals(refine aX ?_)
 all_goals first|(refine tr hr ?_;unfold pj;omega)|(refine fa hr ?_;unfold pj;omega)
theorem DQ {a b:Slot} {r:Bool} (hr:r=decide (zV a b)):pC mx 220 [.agg [.int .i64 a.column,.int .i64 a.hP,.int .u8 a.half],.agg [.int .i64 b.column,.int .i64 b.hP,.int .u8 b.half]] (.bool r):=by
 obtain⟨c1,t1,h1⟩:=a;obtain⟨c2,t2,h2⟩:=b;dsimp only;refine pZ MV ?_
 iterate 129 intro _
 intro aB aU aV bC bA ag aC;refine gK ?_
 repeat' (first|refine gH ?_|(refine iE (fun hc=>?_) (fun hc=>?_)<;>(try simp at hc)<;>(try(exfalso;omega))))
 all_goals try(refine cU (by cbv) (zY rfl) (fun h=>?_) (fun h=>?_)<;>simp only[decide_eq_true_eq,decide_eq_false_iff_not]at h<;>refine gK ?_)
 all_goals(refine aX ?_)
 all_goals first|(refine tr hr ⟨?_,?_,?_⟩<;>assumption)|(refine fa hr ?_;rintro⟨h3,h4,h5⟩;dsimp only at h3 h4 h5;first|omega|contradiction)
theorem pU {rows sp:List (List PV)} {l:List Slot} {x:Slot} {half:Int} {r:Bool} (eS:rows=l.map Slot.enc) (hl:l.length<2^32) (ht:0<x.hP∧x.hP<2^63) (hr:r=decide (Has l x half)):pC mx 285 [.sl rows sp,.agg [.int .i64 x.column,.int .i64 x.hP,.int .u8 x.half],.int .u8 half] (.bool r):=by
 have hlen:rows.length=l.length:=by simp[eS]
 obtain⟨xc,xt,xh⟩:=x;dsimp only at ht ⊢;refine pZ MS ?_
 iterate 119 intro _
 intro cP cY _ aw bu ah aI aQ aJ aP aB aU aV bC bA ag aC;obtain⟨t,Iw⟩:∃t,t=xt-1:=⟨_,rfl⟩
 have fu:bu .i64 (cP xt 1)=t:=by rw[←ah,←cY];simp only[di,iQ];rw[dy]<;>omega
 refine gK ?_;refine bQ [0,2,4,7] (nn [4,4]) (fun v σ_=>σ_.put (some 7) (.pv (.int .i64 (Int.ofNat v)))) (l.length) (fun k=>(∀h:k<l.length,¬(l[k].column=xc∧l[k].hP=xt-1∧l[k].half=half))) ?_;intro v hv hk;refine ej ?_;refine bp.af (fun hd=>?_) (fun hd=>?_)
 ·have aT:v<l.length:=by rw[←aC,←ag]at hd;simp at hd;omega
  obtain⟨gI,bj⟩:∃x,l[v]=x:=⟨_,rfl⟩
  have bG:aJ (Int.ofNat v) rows 3:=by rw[←aP,eS];exact aO (enc:=Slot.enc) aT rfl
  obtain⟨⟨dO,du,ct⟩,bW⟩:∃y,gI=y:=⟨_,rfl⟩;subst bW
  have aW:aI rows (Int.ofNat v)=[.int .i64 dO,.int .i64 du,.int .u8 ct]:=by rw[←aQ,eS,aN (enc:=Slot.enc) aT,bj];rfl
  refine aY ?_;refine ae bG ?_;rw[aW];refine gK ?_
  repeat' (first|refine gH ?_|(refine iE (fun hc=>?_) (fun hc=>?_)<;>(try simp at hc)<;>(try(exfalso;omega))))
  ·refine ae bG ?_;rw[aW];refine gK ?_;rw[fu]
   repeat' (first|refine gH ?_|(refine iE (fun hc=>?_) (fun hc=>?_)<;>(try simp at hc)<;>(try(exfalso;omega))))
   ·refine ae bG ?_;rw[aW];refine gK ?_
    repeat' (first|refine gH ?_|(refine iE (fun hc=>?_) (fun hc=>?_)<;>(try simp at hc)<;>(try(exfalso;omega))))
    ·refine dS ?_;exact tr hr ⟨v,aT,by rw[bj];exact⟨by dsimp only;omega,by dsimp only;omega,by dsimp only;omega⟩⟩
    ·refine ak ⟨aT,fun _=>by rw[bj];dsimp only;omega,?_⟩;rw[wS ah aw (v:=v) (by omega)]
     cbv
   ·refine ak ⟨aT,fun _=>by rw[bj];dsimp only;omega,?_⟩;rw[wS ah aw (v:=v) (by omega)]
    cbv
  ·refine ak ⟨aT,fun _=>by rw[bj];dsimp only;omega,?_⟩;rw[wS ah aw (v:=v) (by omega)]
   cbv
 ·have aT:v=l.length:=by rw[←aC,←ag]at hd;simp at hd;omega
  refine aY ?_;refine ar rfl ?_;refine gK ?_;refine aX ?_;refine fa hr ?_;rintro⟨k,h1,h2⟩;exact hk k (by omega) h1 h2
end Go.b8
end
section
open Go Go.Am Go.Proofs
attribute [local irreducible] Am.bp.holds bH fw bP ek
namespace Go.b8
variable {mx:Int}
open Classical
theorem DR {c csp vv vsp r rsp f fsp t tsp:List (List PV)} {l1 l2 l3 l4 m1 m2 m3 m4:Int} {cl:List aL} {x:Slot} {size:Int} {res:Bool} (jI:c=cl.map aL.enc) (hl:cl.length<2^32) (hr:res=decide (fy cl x size)):pC mx 217 [.agg [.sl c csp,.sl vv vsp,.int .i64 l1,.int .i64 l2,.int .i64 l3,.int .i64 l4,.sl r rsp,.sl f fsp,.sl t tsp,.int .i64 m1,.int .i64 m2,.int .i64 m3,.int .i64 m4],.agg [.int .i64 x.column,.int .i64 x.hP,.int .u8 x.half],.int .i64 size] (.bool res):=by
 have hlen:c.length=cl.length:=by simp[jI]
 obtain⟨xc,xt,xh⟩:=x;dsimp only
 have bad:(0≤xc∧xc<cl.length∧0≤xt→False)→¬fy cl ⟨xc,xt,xh⟩ size:=fun h h'=>h ⟨h'.1.1,h'.1.2.1,h'.1.2.2.1⟩
 refine pZ MQ ?_
 iterate 125 intro _
 intro aI aQ aJ aP aB aU aV bC bA ag aC;refine gK ?_
 repeat' (first|refine gH ?_|(refine iE (fun hc=>?_) (fun hc=>?_)<;>(try simp at hc)<;>(try(exfalso;omega))))
 all_goals try(refine aX ?_;exact fa hr (bad (by omega)))
 ·obtain⟨n,hn⟩:∃n:Nat,xc=Int.ofNat n:=⟨xc.toNat,by simp;omega⟩
  have uF:n<cl.length:=by subst hn;simp at*;omega
  subst hn;obtain⟨gI,bj⟩:∃x,cl[n]=x:=⟨_,rfl⟩
  have bG:aJ (Int.ofNat n) c 12:=by rw[←aP,jI];exact aO (enc:=aL.enc) uF rfl
  obtain⟨⟨dU,jE,gJ,eI,eB,kx,ky,ia,dw,kz,pn,po,pq⟩,bW⟩:∃y,gI=y:=⟨_,rfl⟩;subst bW
  have aW:aI c (Int.ofNat n)=[.int .i64 dU,.int .i64 jE,.bool gJ,.int .i64 eI,.int .i64 eB,.int .i64 kx,.int .i64 ky,.int .i64 ia,.sl (ints dw) kz,.int .i64 pn,.int .i64 po,.int .i64 pq]:=by rw[←aQ,jI,aN (enc:=aL.enc) uF,bj];rfl
  obtain⟨wV,gL⟩:∃p,p=ints dw:=⟨_,rfl⟩;rw[←gL]at aW
  have key:fy cl ⟨Int.ofNat n,xt,xh⟩ size↔xt<eI∧((size=40∧xh=0)∨(size=20∧(xh=1∨xh=2))):=by
   constructor
   ·rintro⟨⟨-,-,-,h⟩,h2⟩;have:=h uF;simp only[Int.toNat_natCast,Int.ofNat_eq_natCast]at this;rw[bj]at this;exact⟨this,h2⟩
   ·rintro⟨h1,h2⟩;exact⟨⟨by simp,by simpa using uF,by assumption,fun h=>by simp only[Int.toNat_natCast,Int.ofNat_eq_natCast];rw[bj];exact h1⟩,h2⟩
  rw[key]at hr;refine ae bG ?_;rw[aW];refine gK ?_
  repeat' (first|refine gH ?_|(refine iE (fun hc=>?_) (fun hc=>?_)<;>(try simp at hc)<;>(try(exfalso;omega))))
  all_goals(refine aX ?_)
  all_goals first|(refine tr hr ?_;omega)|(refine fa hr ?_;omega)
theorem DS {rows sp:List (List PV)} {l:List Slot} {x:Slot} {res:Bool} (eS:rows=l.map Slot.enc) (hl:l.length<2^32) (ht:x.hP<2^63) (hr:res=decide (Va x l)):pC mx 218 [.agg [.int .i64 x.column,.int .i64 x.hP,.int .u8 x.half],.sl rows sp] (.bool res):=by
 obtain⟨xc,xt,xh⟩:=x;dsimp only at ht ⊢;refine pZ MT ?_
 iterate 129 intro _
 intro aB aU aV bC bA ag aC;refine gK ?_;refine bp.af (fun h1=>?_) (fun h1=>?_)
 ·replace h1:=eE h1
  refine aY ?_;refine aX ?_;exact tr hr (Or.inl h1)
 ·replace h1:=eE h1
  refine aY ?_;refine bp.af (fun h2=>?_) (fun h2=>?_)
  ·replace h2:=eE h2
   refine aY ?_;refine cU (by cbv) (pU (x:=⟨xc,xt,xh⟩) eS hl ⟨h1,ht⟩ rfl) (fun h=>?_) (fun h=>?_)<;>simp only[decide_eq_true_eq,decide_eq_false_iff_not]at h
   ·refine gK ?_;refine aX ?_;exact tr hr (Or.inr (Or.inl (by dsimp only;rw[h2];exact h)))
   ·refine gK ?_;refine cU (by cbv) (pU (x:=⟨xc,xt,xh⟩) eS hl ⟨h1,ht⟩ rfl) (fun h'=>?_) (fun h'=>?_)<;>simp only[decide_eq_true_eq,decide_eq_false_iff_not]at h'
    ·refine gK ?_;refine cU (by cbv) (pU (x:=⟨xc,xt,xh⟩) eS hl ⟨h1,ht⟩ rfl) (fun tO=>?_) (fun tO=>?_)<;>simp only[decide_eq_true_eq,decide_eq_false_iff_not]at tO
     ·refine gK ?_;refine aX ?_;exact tr hr (Or.inr (Or.inr ⟨h2,h',tO⟩))
     ·refine gK ?_;refine aX ?_;refine fa hr ?_;rintro(h3|h3|h3)
      ·dsimp only at h3;omega
      ·dsimp only at h3;rw[h2]at h3;exact h h3
      ·exact tO h3.2.2
    ·refine gK ?_;refine aX ?_;refine fa hr ?_;rintro(h3|h3|h3)
     ·dsimp only at h3;omega
     ·dsimp only at h3;rw[h2]at h3;exact h h3
     ·exact h' h3.2.1
  ·replace h2:=eE h2
   refine aY ?_;refine cU (by cbv) (pU (x:=⟨xc,xt,xh⟩) eS hl ⟨h1,ht⟩ rfl) (fun h=>?_) (fun h=>?_)<;>simp only[decide_eq_true_eq,decide_eq_false_iff_not]at h
   ·refine gK ?_;refine aX ?_;exact tr hr (Or.inr (Or.inl h))
   ·refine gK ?_;refine aX ?_;refine fa hr ?_;rintro(h3|h3|h3)
    ·dsimp only at h3;omega
    ·exact h h3
    ·exact h2 h3.1
theorem pr {boxes:List b6} {l:List aH} {c h:Int}:∀{n:Nat},0≤cZ boxes l c h n∧cZ boxes l c h n≤2896*n
 |0=>by simp[cZ]
 |n+1=>by
  have:=pr (boxes:=boxes) (l:=l) (c:=c) (h:=h) (n:=n);simp only[cZ]
  (repeat' split)<;>first|(simp only[DM];split<;>omega)|omega
theorem sk {rows sp brows bsp:List (List PV)} {l:List aH} {boxes:List b6} {rk half n:Int} (eS:rows=l.map aH.enc) (jb:brows=boxes.map b6.enc) (hl:l.length<2^32) (lO:boxes.length<2^32) (hn:n=dk boxes l rk half):
  pC mx 287 [.sl brows bsp,.sl rows sp,.int .i64 rk,.int .u8 half] (.int .i64 n):=by
 have hlen:rows.length=l.length:=by simp[eS]
 refine pZ MW ?_
 iterate 121 intro _
 intro df aw bu ah aI aQ aJ aP aB aU aV bC bA ag aC;refine gK ?_;refine bQ [0,1,2,3,9,10] [] (fun v σ_=>σ_.put (some 9) (.pv (.int .i64 (cZ boxes l rk half v)))|>.put (some 10) (.pv (.int .i64 (Int.ofNat v)))) (l.length) (fun k=>True) ?_;intro v hv hk
 try dsimp only
 generalize hm:cZ boxes l rk half v=m;refine ej ?_;have yi:=pr (boxes:=boxes) (l:=l) (c:=rk) (h:=half) (n:=v);rw[hm]at yi;refine bp.af (fun hd=>?_) (fun hd=>?_)
 ·have aT:v<l.length:=by rw[←aC,←ag]at hd;simp at hd;omega
  obtain⟨gI,bj⟩:∃x,l[v]=x:=⟨_,rfl⟩
  have bG:aJ (Int.ofNat v) rows 4:=by rw[←aP,eS];exact aO (enc:=aH.enc) aT rfl
  obtain⟨⟨eH,⟨dO,du,ct⟩⟩,bW⟩:∃y,gI=y:=⟨_,rfl⟩;subst bW
  have aW:aI rows (Int.ofNat v)=[.int .i64 eH,.int .i64 dO,.int .i64 du,.int .u8 ct]:=by rw[←aQ,eS,aN (enc:=aH.enc) aT,bj];rfl
  have Cf:(dO=rk∧(ct=half∨ct=0))→cZ boxes l rk half (v+1)=m+(match ku boxes eH with|some b=>DM b|none=>0):=fun h=>by
   simp only[cZ,List.getElem?_eq_getElem aT,bj,hm];rw[if_pos h]
   all_goals(cases ku boxes eH<;>rfl)
  have ze:¬(dO=rk∧(ct=half∨ct=0))→cZ boxes l rk half (v+1)=m:=fun h=>by
   simp only[cZ,List.getElem?_eq_getElem aT,bj,hm];rw[if_neg h]<;>omega
  refine aY ?_;refine ae bG ?_;rw[aW];refine gK ?_
  cases hf:ku boxes eH with
  |none=>
   refine ao (by cbv) (nQ (id:=eH) (ok:=false) (cs:=[.int .i64 0,.str [],.int .u8 0,.bool false,.int .i64 0,.int .i64 0,.int .i64 0,.int .u8 0,.bool false]) jb lO (by simp only[dM,hf];rfl) (by simp only[dM,hf])) (fun h=>by first|rfl|cases h) ?_;refine gK ?_;refine ak ⟨aT,trivial,?_⟩;rw[wS ah aw (v:=v) (by omega)]
   rw[show cZ boxes l rk half (v+1)=m by
    by_cases h:dO=rk∧(ct=half∨ct=0)
    ·rw[Cf h,hf];simp
    ·exact ze h]
   cbv
  |some b=>
   obtain⟨Ou,zZ,bsize,qB,nR,sq,z6,z7,kW⟩:=b;refine ao (by cbv) (nQ (id:=eH) (ok:=true) (cs:=[.int .i64 Ou,.str zZ,.int .u8 bsize,.bool qB,.int .i64 nR,.int .i64 sq,.int .i64 z6,.int .u8 z7,.bool kW]) jb lO (by simp only[dM,hf];rfl) (by simp only[dM,hf])) (fun h=>by first|rfl|cases h) ?_;rw[hf]at Cf
   cases qB
   ·have Cg:(dO=rk∧(ct=half∨ct=0))→cZ boxes l rk half (v+1)=m+2591:=fun h=>by rw[Cf h];rfl
    obtain⟨z,hz⟩:∃z,cZ boxes l rk half (v+1)=z:=⟨_,rfl⟩;rw[hz]at Cg ze;rw[hz];refine gK ?_
    repeat' (first
     |refine gH ?_
     |(refine ae bG ?_;rw[aW];refine gK ?_)
     |(refine bp.af (fun hc=>?_) (fun hc=>?_)<;>(rw[←aV,←bA]at hc)<;>(try simp at hc)))
    all_goals
     refine ak ⟨aT,trivial,?_⟩;rw[wS ah aw (v:=v) (by omega)]
     first
      |(rw[ze (by omega)];cbv)
      |(rw[show bu .i64 (df m 2591)=z by rw[←ah,←aw,Cg (by omega)];simp only[di,kT];rw[dy]<;>omega];cbv)
   ·have Cg:(dO=rk∧(ct=half∨ct=0))→cZ boxes l rk half (v+1)=m+2896:=fun h=>by rw[Cf h];rfl
    obtain⟨z,hz⟩:∃z,cZ boxes l rk half (v+1)=z:=⟨_,rfl⟩;rw[hz]at Cg ze;rw[hz];refine gK ?_
    repeat' (first
     |refine gH ?_
     |(refine ae bG ?_;rw[aW];refine gK ?_)
     |(refine bp.af (fun hc=>?_) (fun hc=>?_)<;>(rw[←aV,←bA]at hc)<;>(try simp at hc)))
    all_goals
     refine ak ⟨aT,trivial,?_⟩;rw[wS ah aw (v:=v) (by omega)]
     first
      |(rw[ze (by omega)];cbv)
      |(rw[show bu .i64 (df m 2896)=z by rw[←ah,←aw,Cg (by omega)];simp only[di,kT];rw[dy]<;>omega];cbv)
 ·have aT:v=l.length:=by rw[←aC,←ag]at hd;simp at hd;omega
  refine aY ?_;refine ar rfl ?_;refine gK ?_;refine aX ?_;rw[hn,←hm,aT];rfl
end Go.b8
end
