import Derived.Lib.DecodeNEq
import Derived.Test.YtfaccbkibjkfjaaGreatDoorT11
import Derived.Test.YtfaccbkibjkfjaaGreatDoorT10
import Derived.Test.YtfaccbkibjkfjaaGreatDoorT07
set_option linter.all false
set_option maxRecDepth 100000
set_option maxHeartbeats 1000000
section
open Go Go.Am Go.Proofs
attribute [local irreducible] Am.bp.holds bH fw bP ek
namespace Go.bt
variable {mx:Int}
@[simp] theorem W8:marks.length=12:=by simp[marks]
structure wk (c v r f t:List (List PV)) (cl:List aL) (vl:List bz) (rl fl:List Row) (tl:List eg):Prop where
 c:c=cl.map aL.enc
 v:v=vl.map bz.enc
 r:r=rl.map Row.enc
 f:f=fl.map Row.enc
 t:t=tl.map eg.enc
 cn:cl.length<2^32
 vn:vl.length<2^32
 rn:rl.length<2^32
 fn:fl.length<2^32
 tn:tl.length<2^32
 cp:∀x∈cl,x.cq.length<2^32
 vp:∀x∈vl,x.rows.length<2^32
 tp:∀x∈tl,x.steps.length<2^32
structure zR (C CM V VM RM FM T TM:List (List PV)) (cl:List aL) (vl:List bz) (tl:List eg):Prop where
 c:C=(cl.map aL.cV).map aL.enc
 cm:CM=((List.range 12).map aL.mark).map aL.enc
 v:V=(vl.map bz.cV).map bz.enc
 vm:VM=((List.range 12).map bz.mark).map bz.enc
 rm:RM=((List.range 12).map Row.qn).map Row.enc
 fm:FM=((List.range 12).map Row.qo).map Row.enc
 t:T=(tl.map eg.cV).map eg.enc
 tm:TM=((List.range 12).map eg.mark).map eg.enc
end Go.bt
end
section
open Go Go.Am
namespace Go.bt
open Classical
theorem tr {P:Prop} {_i:Decidable P} {r:Bool} (hr:r=decide P) (h:P):some (PV.bool true)=some (PV.bool r):=by simp[hr,h]
theorem fa {P:Prop} {_i:Decidable P} {r:Bool} (hr:r=decide P) (h:¬P):some (PV.bool false)=some (PV.bool r):=by simp[hr,h]
def at_ (s:List UInt8) (i:Nat):Int:=((s.getD i 0).toNat:Int)
theorem wm (s:List UInt8) (i:Nat):0≤at_ s i∧at_ s i<256:=⟨by unfold at_;omega,by unfold at_;have:=(s.getD i 0).toNat_lt;omega⟩
def yH (p:List UInt8):Prop:=p.length=5∧∀i,i<p.length→65≤at_ p i∧at_ p i≤90
def ra (s:List UInt8):Prop:=∀i,i<s.length→if i<3 then 65≤at_ s i∧at_ s i≤90 else if i=3 then at_ s i=85∨at_ s i=74∨at_ s i=90 else 48≤at_ s i∧at_ s i≤57
def val (b:Int):Int:=if b≤57 then b-48 else 10+(b-65)+(b-65+9)/10
def summed (s:List UInt8):Nat→Int
 |0=>0
 |n+1=>summed s n+val (at_ s n)*2^n
def hU (s:List UInt8):Prop:=s.length=11∧ra s∧at_ s 10-48=summed s 10%11%10
def most (size:Int):Int:=if size=20 then 32000 else if size=40 then 40000 else 0
def iL (b:bw):Prop:=(1≤b.id∧b.id≤999999)∧(b.number=[]∨hU b.number)∧(b.high=true→b.size=40)∧(1≤b.cD∧b.cD≤most b.size)∧(0≤b.load∧b.load<b.discharge∧b.discharge<20)∧b.cls≤9
def nf (l:List bw) (i:Nat):Prop:=∀h:i<l.length,iL l[i]∧(∀k,(hk:k<i)→(l[i].number≠[]→l[k].number≠l[i].number))∧(i≠0→∀hk:i-1<l.length,l[i-1].id<l[i].id)
def wo (l:List bw):Prop:=l.length≤2000∧∀i,i<l.length→nf l i
def lG (b:bw) (k:Int):Prop:=b.load≤k∧k<b.discharge
def aaU (b:bw):List UInt8×Int:=
 if b.size=20∧b.high=false then(if b.cK then [50,50,82,49]else [50,50,71,49],0)
 else if b.size=40 then(if b.high then(if b.cK then [52,53,82,49]else [52,53,71,49])else(if b.cK then [52,50,82,49]else [52,50,71,49]),0)
 else([],60)
def rb (c:aL) (i:Nat):Prop:=0≤c.cq.getD i 0∧c.cq.getD i 0<c.dv∧(i=0∨c.cq.getD (i-1) 0<c.cq.getD i 0)
def In (n lo hi:Int):Prop:=lo≤n∧n≤hi
def fX (c:aL):Prop:=(∀i,i<c.cq.length→rb c i)∧In c.bay 0 39∧In c.row 0 30∧In c.dv 1 10∧In c.dk 0 40000∧In c.tT 0 500000000∧In c.tU 0 500000000∧In c.kj 0 1000000000000∧In c.x (-500000) 500000∧In c.y (-500000) 500000∧In c.z (-500000) 500000
def qz (a b:aL):Prop:=¬(a.bay=b.bay∧a.row=b.row∧a.deck=b.deck)
def qA (x:bz) (i:Nat):Prop:=0≤x.rows.getD i 0∧x.rows.getD i 0≤30∧(i=0∨x.rows.getD (i-1) 0<x.rows.getD i 0)
def iM (x:bz):Prop:=In x.bay 0 39∧x.rows≠[]∧∀i,i<x.rows.length→qA x i
def fo (c:List aL) (v:List bz):Prop:=(1≤c.length∧c.length≤200∧v.length≤40)∧(∀i,(h:i<c.length)→fX c[i]∧∀k,(hk:k<i)→qz c[k] c[i])∧
 (∀i,(h:i<v.length)→iM v[i]∧∀k,(hk:k<i)→v[k].bay=v[i].bay→∀r,r∈v[i].rows→r∉v[k].rows)
def fy (c:List aL) (x:Slot) (size:Int):Prop:=(0≤x.column∧x.column<c.length∧0≤x.tier∧∀h:x.column.toNat<c.length,x.tier<c[x.column.toNat].dv)∧((size=40∧x.half=0)∨(size=20∧(x.half=1∨x.half=2)))
def pj (a b:Int):Prop:=a=b∨a=0∨b=0
def zV (a b:Slot):Prop:=a.column=b.column∧a.tier=b.tier∧pj a.half b.half
def Has (l:List Slot) (x:Slot) (half:Int):Prop:=∃i,∃h:i<l.length,l[i].column=x.column∧l[i].tier=x.tier-1∧l[i].half=half
def Va (x:Slot) (l:List Slot):Prop:=x.tier≤0∨Has l x x.half∨(x.half=0∧Has l x 1∧Has l x 2)
def dig (n:Int):UInt8:=UInt8.ofNat (48+(n%10).toNat)
noncomputable def YX (c:List aL) (v:List bz) (x:Slot):List UInt8×Int:=
 if ¬fo c v then([],2)else if ¬fy c x 20∧¬fy c x 40 then([],6)
 else match c[x.column.toNat]? with
  |none=>([],6)
  |some k=>
   let n:=4*k.bay+(if x.half=0 then 2 else if x.half=1 then 1 else 3)
   let t:=(2*(x.tier+1)+if k.deck then 80 else 0)%100
   ([dig (n/100),dig (n/10),dig n,dig (k.row/10),dig k.row,dig (t/10),dig t],0)
def ku (l:List bw) (id:Int):Option bw:=l.find? (fun b=>decide (b.id=id))
def DM (b:bw):Int:=if b.high then 2896 else 2591
noncomputable def iJ (boxes:List bw) (l:List aH) (column half:Int):Nat→Int
 |0=>0
 |n+1=>iJ boxes l column half n+match l[n]? with
  |none=>0
  |some x=>if x.slot.column=column∧(x.slot.half=half∨x.slot.half=0)then(match ku boxes x.box with|some b=>DM b|none=>0)else 0
noncomputable def dk (boxes:List bw) (l:List aH) (column half:Int):Int:=iJ boxes l column half l.length
def Fits (c:aL) (boxes:List bw) (l:List aH) (i:Int):Prop:=c.dk≤0∨(dk boxes l i 1≤c.dk∧dk boxes l i 2≤c.dk)
def pk (c:List aL) (boxes:List bw) (l:List aH) (i:Nat):Prop:=∀h:i<l.length,(∃b,ku boxes l[i].box=some b∧fy c l[i].slot b.size)∧Va l[i].slot (l.map (·.slot))∧∀k,(hk:k<i)→l[k].box<l[i].box∧¬zV l[k].slot l[i].slot
def gC (c:List aL) (v:List bz) (boxes:List bw) (l:List aH):Prop:=fo c v∧(∀i,i<l.length→pk c boxes l i)∧∀i,(h:i<c.length)→Fits c[i] boxes l i
def abJ (c:List aL) (v:List bz) (call:Int) (port:List UInt8) (boxes:List bw) (l:List aH):Prop:=
 (0≤call∧call<20)∧yH port∧boxes.length=l.length∧wo boxes∧gC c v boxes l∧∀i,(h:i<boxes.length)→lG boxes[i] call
def adq (c:List UInt8):Prop:=c.length≤100∧∀i,i<c.length→32≤at_ c i∧at_ c i≤126
def adV (e:List (List UInt8)):Prop:=1≤e.length∧e.length≤10∧∀i,(h:i<e.length)→adq e[i]
def SM (s:List (List (List UInt8))):Prop:=1≤s.length∧s.length≤30∧∀i,(h:i<s.length)→adV s[i]
structure Seg where
 tag:List UInt8
 data:List (List (List UInt8))
structure Message where
 kind:List UInt8
 ref:List UInt8
 Hd:List Seg
def adI (s:List UInt8):Prop:=∀i,i<s.length→65≤at_ s i∧at_ s i≤90
def Y0 (s:List UInt8):Prop:=s.length=3∧adI s∧s≠[72,69,68]∧s≠[69,78,68]
def ab2 (s:List UInt8):Prop:=s.length=6∧adI s
def acU (s:List UInt8):Prop:=1≤s.length∧s.length≤14∧∀i,i<s.length→(65≤at_ s i∧at_ s i≤90)∨(48≤at_ s i∧at_ s i≤57)
def adf (m:Message):Prop:=ab2 m.kind∧acU m.ref∧∀i,(h:i<m.Hd.length)→Y0 m.Hd[i].tag∧SM ([m.Hd[i].tag]::m.Hd[i].data)
def digits (n:Nat):List UInt8:=if h:n<10 then [UInt8.ofNat (48+n)]else digits (n/10)++[UInt8.ofNat (48+n%10)]
termination_by n
def abH:List UInt8:=[66,65,89,80,76,78]
end Go.bt
end
section
open Go Go.Am
namespace Go.bt
theorem JS {s:List UInt8} {v:Nat}:∃n b1 b2 b3,Utf8.decode (⟨s.toArray⟩:ByteArray) v=Lib.decodeN n (s.getD v 0).toNat b1 b2 b3:=by
 have e:(⟨s.toArray⟩:ByteArray).get! v=s.getD v 0:=by
  show s.toArray[v]! =_;simp[qab];rfl
 exact⟨_,_,_,_,by rw[Lib.decode_at,e]⟩
theorem re {s:List UInt8} {v:Nat} (hb:at_ s v<128):aF.rune s v=at_ s v∧aF.C0 s v=1:=by
 obtain⟨n,b1,b2,b3,h⟩:=JS (s:=s) (v:=v)
 have fP:(s.getD v 0).toNat<128:=by unfold at_ at hb;omega
 have e:Lib.decodeN n (s.getD v 0).toNat b1 b2 b3=((s.getD v 0).toNat,1):=by unfold Lib.decodeN;rw[qao fP]
 rw[e]at h;simp only[aF,at_,qcb,h];exact⟨by first|rfl|trivial,by first|rfl|trivial⟩
theorem JT {s:List UInt8} {v:Nat} (hb:128≤at_ s v):128≤aF.rune s v:=by
 obtain⟨n,b1,b2,b3,h⟩:=JS (s:=s) (v:=v)
 have fP:¬(s.getD v 0).toNat<128:=by unfold at_ at hb;omega
 have e:128≤(Lib.decodeN n (s.getD v 0).toNat b1 b2 b3).1:=by
  unfold Lib.decodeN;rw[qai fP]
  repeat' split
  all_goals omega
 simp only[aF,qcb,h];omega
theorem Zx {n:Int} (h0:0≤n) (h1:n<256):IntKind.wrap .u8 n=n:=by
 have e1:(2:Int)^IntKind.u8.bits=256:=by decide
 unfold IntKind.wrap;simp only[e1];rw[qdq h0 h1,qai (by simp[IntKind.signed])]
def acp (c:List UInt8):List PV:=[.str c]
def strs (cs:List (List UInt8)):List (List PV):=cs.map acp
abbrev Elem:=List (List UInt8)×List (List PV)
def acV (e:Elem):List PV:=[.sl (strs e.1) e.2]
def aeP (d:List UInt8):List PV:=[.sl [acp d] []]
end Go.bt
end
section
open Go Go.Am Go.Proofs
attribute [local irreducible] Am.bp.holds bH fw bP ek
namespace Go.bt
variable {mx:Int}
open Classical
theorem getD_eq {l:List Int} {v:Nat} (h:v<l.length):l.getD v 0=l[v]:=by simp[qab,h]
def dM (l:List bw) (id:Int):bw×Bool:=match ku l id with
 |some b=>(b,true)
 |none=>(⟨0,[],0,false,0,0,0,0,false⟩,false)
theorem Cd {l:List bw} {id:Int} {v:Nat} (hv:v<l.length) (hk:∀k,k<v→∀h:k<l.length,l[k].id≠id) (he:l[v].id=id):ku l id=some l[v]:=by
 unfold ku;rw[List.find?_eq_some_iff_getElem];exact⟨by simpa using he,v,hv,rfl,fun j hj=>by simpa using hk j hj (by omega)⟩
theorem wu {l:List bw} {id:Int} (hk:∀k,k<l.length→∀h:k<l.length,l[k].id≠id):ku l id=none:=by
 unfold ku;rw[List.find?_eq_none];intro x hx;obtain⟨k,h1,h2⟩:=qaI hx;subst h2;simpa using hk k h1 h1
theorem pr {boxes:List bw} {l:List aH} {c h:Int}:∀{n:Nat},0≤iJ boxes l c h n∧iJ boxes l c h n≤2896*n
 |0=>by simp[iJ]
 |n+1=>by
  have:=pr (boxes:=boxes) (l:=l) (c:=c) (h:=h) (n:=n);simp only[iJ]
  (repeat' split)<;>first|(simp only[DM];split<;>omega)|omega
def Lc (n:Int):Prop:= -9223372036854775808≤n∧n<9223372036854775808
def og (b:bw):Prop:=(0≤b.size∧b.size<256)∧(0≤b.cls∧b.cls<256)∧Lc b.id∧Lc b.cD∧Lc b.load∧Lc b.discharge
def kL (x:aH):Prop:=Lc x.box∧Lc x.slot.column∧Lc x.slot.tier∧(0≤x.slot.half∧x.slot.half<256)
end Go.bt
end
section
open Go Go.Am
namespace Go.bt
structure cT where
 port:List UInt8
 at_:Int
 dr:Int
def cT.enc (c:cT):List PV:=[.str c.port,.int .i64 c.at_,.int .i64 c.dr]
def cT.mark (i:Nat):cT:=⟨[],GR i,0⟩
structure Stat where
 l:List aH
 sp:List (List PV)
def Stat.enc (c:Stat):List PV:=[.sl (c.l.map aH.enc) c.sp]
def Stat.cV (c:Stat):Stat:=⟨c.l,((List.range 12).map aH.mark).map aH.enc⟩
def Stat.mark (i:Nat):Stat:=⟨[aH.mark i],[]⟩
structure jD where
 l:List Int
 sp:List (List PV)
def jD.enc (c:jD):List PV:=[.sl (ints c.l) c.sp]
def jD.cV (c:jD):jD:=⟨c.l,ints marks⟩
def jD.mark (i:Nat):jD:=⟨[GR i],[]⟩
end Go.bt
end
section
open Go Go.Am
namespace Go.bt
open Classical
structure Place where
 bay:Int
 row:Int
 dv:Int
 deck:Bool
def Place.enc (p:Place):List PV:=[.int .u8 p.bay,.int .u8 p.row,.int .u8 p.dv,.bool p.deck]
structure Item where
 rk:Int
 cD:Int
 load:Int
 stay:Int
 small:Bool
 high:Bool
def Item.enc (p:Item):List PV:=[.int .u8 p.rk,.int .u8 p.cD,.int .u8 p.load,.int .u8 p.stay,.bool p.small,.bool p.high]
def xw (p:Place):Prop:=0≤p.bay∧p.bay<256∧0≤p.row∧p.row<256∧0≤p.dv∧p.dv<256
def BM (p:Item):Prop:=0≤p.rk∧p.rk<256∧0≤p.cD∧p.cD<256∧0≤p.load∧p.load<256∧0≤p.stay∧p.stay<256
def r9 (p:Place):aL:=⟨p.bay%5,p.row%5,p.deck,2+p.dv%4,0,500000000,500000000,0,[],[],13000*(p.bay%5)-26000,2500*(p.row%5)-5000,if p.deck then 20000 else 2000⟩
def Ob (c:aL) (bay row:Int) (deck:Bool):Prop:=c.bay=bay∧c.row=row∧c.deck=deck
noncomputable def nQ (cs:List aL) (p:Place):List aL:=if ∃c∈cs,Ob c (p.bay%5) (p.row%5) p.deck then cs else cs++[r9 p]
noncomputable def acH (l:List Place) (v:Nat):List aL:=(l.take v).foldl nQ []
theorem ad3 {l:List Place} {v:Nat} (h:v<l.length):acH l (v+1)=nQ (acH l v) l[v]:=by
 unfold acH;rw[qan h,qcI];rfl
def BX:aL:=⟨0,0,false,3,0,500000000,500000000,0,[],[],0,0,2000⟩
noncomputable def ie (l:List Place):List aL:=if acH l (min l.length 12)=[]then [BX]else acH l (min l.length 12)
def sD (covers:Int) (i:Int):Bool:=aF.eq (aF.bits .and .u32 (aF.shr .u32 covers i) 1) 1
def se (covers:Int) (bay:Nat):List bz:=(if sD covers (2*bay)then [⟨bay,[0,1],[]⟩]else [])++(if sD covers (2*bay+1)then [⟨bay,[2,3,4],[]⟩]else [])
def cJ (covers:Int):Nat→List bz
 |0=>[]
 |v+1=>cJ covers v++se covers v
def kX (calls:Int) (i:Nat) (x:Item):bw:=
 let load:=x.load%(calls-1)
 ⟨5*(i+1),[],if x.small then 20 else 40,if x.small then false else x.high,1000+100*x.cD,load,load+1+x.stay%(calls-1-load),0,false⟩
def fU (l:List Item) (calls:Int) (v:Nat):List bw:=(l.take v).mapIdx (kX calls)
def nP (l:List aH) (x:aH):List aH:=l.filter (fun y=>decide (y.box<x.box))++[x]++l.filter (fun y=>decide (x.box<y.box))
def MC (l:List aH) (id:Int):Prop:=∃y∈l,y.box=id
def wP (l:List aH) (id:Int):Option Slot:=(l.find? (fun y=>decide (y.box=id))).map (·.slot)
def fk (size:Int):List Int:=if size=40 then [0]else if size=20 then [1,2]else []
def l9 (size:Int) (c:Nat) (x:aL):List Slot:=(List.range x.dv.toNat).flatMap fun t:Nat=>(fk size).map fun h=>⟨(c:Int),(t:Int),h⟩
def slotsOf (cl:List aL) (size:Int):List Slot:=(cl.mapIdx (l9 size)).flatten
section
variable (cl:List aL) (vl:List bz) (boxes:List bw)
noncomputable def kq (was:List aH) (k tier:Int) (l:List aH) (b:bw):List aH:=
 match wP was b.id with
 |some x=>if x.tier=tier∧b.load<k∧k<b.discharge∧gC cl vl boxes (nP l ⟨b.id,x⟩)then nP l ⟨b.id,x⟩else l
 |none=>l
noncomputable def sc (was:List aH) (k tier:Int) (l:List aH) (v:Nat):List aH:=(boxes.take v).foldl (kq cl vl boxes was k tier) l
noncomputable def pS (was:List aH) (k:Int):Nat→List aH
 |0=>[]
 |t+1=>sc cl vl boxes was k (t:Int) (pS was k t) boxes.length
noncomputable def sf (l:List aH) (id:Int) (rk:Int):List Slot→Option (List aH)
 |[]=>none
 |x::r=>if x.column=rk∧gC cl vl boxes (nP l ⟨id,x⟩)then some (nP l ⟨id,x⟩)else sf l id rk r
noncomputable def iK (l:List aH) (id size home:Int):Nat→Option (List aH)
 |0=>none
 |t+1=>match iK l id size home t with
  |some r=>some r
  |none=>sf cl vl boxes l id ((home+t)%cl.length) (slotsOf cl size)
noncomputable def pU (home:Int→Int) (k:Int) (l:List aH) (b:bw):List aH⊕Int:=
 if k<b.load∨b.discharge≤k∨MC l b.id then .inl l
 else match iK cl vl boxes l b.id b.size (home b.id) cl.length with
  |some r=>.inl r
  |none=>.inr b.id
noncomputable def iI (home:Int→Int) (k:Int) (l:List aH):Nat→List aH⊕Int
 |0=>.inl l
 |v+1=>match iI home k l v,boxes[v]? with
  |.inl l',some b=>pU cl vl boxes home k l' b
  |.inl l',none=>.inl l'
  |.inr e,_=>.inr e
noncomputable def Kj (home:Int→Int) (was:List aH) (k:Int):List aH⊕Int:=iI cl vl boxes home k (pS cl vl boxes was k 10) boxes.length
noncomputable def fj (home:Int→Int):Nat→List (List aH)⊕Int
 |0=>.inl []
 |k+1=>match fj home k with
  |.inl L=>(match Kj cl vl boxes home (L.getLastD []) (k:Int)with
   |.inl l=>.inl (L++[l])
   |.inr e=>.inr e)
  |.inr e=>.inr e
end
noncomputable def xF (cl:List aL) (vl:List bz) (boxes:List bw) (home:Int→Int) (calls:Nat):List (List aH)×Int:=
 match fj cl vl boxes home calls with
 |.inl L=>(L,0)
 |.inr e=>([],e)
noncomputable def rounds (cl:List aL) (vl:List bz) (home:Int→Int) (calls:Nat):Nat→List bw→List bw×List (List aH)
 |0,_=>([],List.replicate calls [])
 |n+1,boxes=>if(xF cl vl boxes home calls).2=0 then(boxes,(xF cl vl boxes home calls).1)else rounds cl vl home calls n (boxes.filter fun b=>decide (b.id≠(xF cl vl boxes home calls).2))
def lL (l:List Item) (n:Int) (v:Nat):List (List PV):=(l.take v).mapIdx fun i x=>[.int .i64 (5*((i:Int)+1)),.int .i64 (x.rk%n)]
end Go.bt
end
section
open Go Go.Am
namespace Go.bt
open Classical
abbrev Key:=Int×Int×Int
def ic (k:Key):List PV:=[.int .i64 k.1,.int .i64 k.2.1,.int .i64 k.2.2]
def Ae (x:Key×Nat):List PV:=[.int .i64 x.1.1,.int .i64 x.1.2.1,.int .i64 x.1.2.2,.int .i64 (Int.ofNat x.2)]
def eh (m:List (Key×Nat)):List (List PV):=m.map Ae
def bump:List (Key×Nat)→Key→List (Key×Nat)
 |[],k=>[(k,1)]
 |(k',n)::r,k=>if k=k' then(k',n+1)::r else(k',n)::bump r k
def sG:List (Key×Nat)→Key→Nat
 |[],_=>0
 |(k',n)::r,k=>if k=k' then n else sG r k
def jm (ks:List Key):List (Key×Nat):=ks.foldl bump []
theorem nS (ks:List Key) (k:Key):jm (ks++[k])=bump (jm ks) k:=by simp[jm,qcI]
theorem F6 (k:Key) (x:Key×Nat):JK (ic k) ((Ae x).take 3)=decide (k=x.1):=by
 obtain⟨a,b,c⟩:=k;obtain⟨⟨a',b',c'⟩,n⟩:=x;simp only[ic,Ae,qbl,qbo,JK]
 by_cases h1:a=a'<;>by_cases h2:b=b'<;>by_cases h3:c=c'<;>simp[h1,h2,h3]
theorem R1 {k:Key}:∀{m:List (Key×Nat)},aF.xJ 3 (eh m) (ic k) [.int .i64 0]=.int .i64 (Int.ofNat (sG m k))
 |[]=>by simp[aF,jy,eh,sG]
 |(k',n)::r=>by
  have ih:=R1 (k:=k) (m:=r);simp only[aF,jy,eh,qaj,qbv,F6]at ih ⊢
  by_cases h:k=k'
  ·subst h;simp[sG,Ae]
  ·simp only[h,qbY,sG,qaW];exact ih
theorem te {α:Type} (f:α→α) (a:α) (l:List α) (i:Nat):(a::l).modify (i+1) f=a::l.modify i f:=by simp
theorem Cn {k:Key} {x:Key×Nat} {r:List (Key×Nat)}:dQ 3 (eh (x::r)) (ic k)=(decide (k=x.1)||dQ 3 (eh r) (ic k)):=by
 simp only[dQ,eh,qaj,List.any_cons,F6]
theorem DY {k:Key} {x:Key×Nat} {r:List (Key×Nat)}:fb 3 (eh (x::r)) (ic k)=if k=x.1 then 0 else fb 3 (eh r) (ic k)+1:=by
 simp only[fb,eh,qaj,qcJ,F6]
 by_cases h:k=x.1<;>simp[h]
def setRow (rows:List (List PV)) (k:Key) (n:Nat):List (List PV):=((match dQ 3 rows (ic k)with|true=>rows|false=>rows++[ic k++[PV.int .i64 0]]).modify (fb 3 rows (ic k)) (fun r=>r.take 3++[PV.int .i64 (Int.ofNat n)]))
theorem yJ {k:Key}:∀{m:List (Key×Nat)},setRow (eh m) k (sG m k+1)=eh (bump m k)
 |[]=>by simp[setRow,eh,dQ,fb,bump,sG,Ae,ic]
 |(k',n)::r=>by
  have ih:=yJ (k:=k) (m:=r);unfold setRow at ih ⊢;rw[Cn,DY]
  by_cases h:k=k'
  ·subst h;simp[bump,sG,eh,Ae]
  ·simp only[h,qbY,Bool.false_or,qaW,sG,bump]
   have e3:(match dQ 3 (eh r) (ic k)with|true=>eh ((k',n)::r)|false=>eh ((k',n)::r)++[ic k++[PV.int .i64 0]])=Ae (k',n)::(match dQ 3 (eh r) (ic k)with|true=>eh r|false=>eh r++[ic k++[PV.int .i64 0]]):=by
    cases dQ 3 (eh r) (ic k)<;>simp[eh]
   refine Eq.trans (congrArg (fun z=>List.modify z _ _) e3) ?_;rw[te,ih];rfl
theorem Vk {k:Key} {m:List (Key×Nat)}:aF.PT 3 (aF.sK 3 (eh m) (ic k) [.int .i64 0]) (aF.mix 3 (eh m) (ic k)) [.int .i64 (Int.ofNat (sG m k+1))]=eh (bump m k):=yJ
theorem aaW {k:Key} {m:List (Key×Nat)}:aF.CZ [1,1,1] 3 (eh m) (ic k):=by
 refine⟨rfl,by simp[aR,ic],fun r hr=>?_⟩;obtain⟨x,_,rfl⟩:=qaw.1 hr;simp[aR,ic,Ae]
theorem aaX {k:Key} {m:List (Key×Nat)}:aF.min1 (aF.mix 3 (eh m) (ic k)) (aF.sK 3 (eh m) (ic k) [.int .i64 0]):=by
 refine⟨by simp[aF],?_⟩;simp only[aF]
 by_cases h:dQ 3 (eh m) (ic k)=true
 ·rw[h];simp only;unfold fb;have:=List.findIdx_lt_length_of_exists (p:=fun r=>JK (ic k) (r.take 3)) (xs:=eh m) (by simpa[dQ]using h);omega
 ·rw[Bool.not_eq_true]at h;rw[h];simp only[qal,qcm];unfold fb;have:=List.findIdx_le_length (p:=fun r=>JK (ic k) (r.take 3)) (xs:=eh m);omega
theorem Co {k k':Key}:∀{m:List (Key×Nat)},sG (bump m k) k'=sG m k'+if k'=k then 1 else 0
 |[]=>by simp[bump,sG]
 |(q,n)::r=>by
  have ih:=Co (k:=k) (k':=k') (m:=r);simp only[bump]
  by_cases h:k=q
  ·subst h;simp only[qao,sG]
   by_cases h2:k'=k
   ·simp[h2]
   ·simp[h2]
  ·simp only[qai h,sG]
   by_cases h2:k'=q
   ·subst h2;rw[qao rfl,qao rfl,qai (fun e=>h e.symm)];rfl
   ·simp only[qai h2];exact ih
theorem wz {k:Key}:∀{m:List (Key×Nat)},(bump m k).map Prod.fst=if k∈m.map Prod.fst then m.map Prod.fst else m.map Prod.fst++[k]
 |[]=>by simp[bump]
 |(q,n)::r=>by
  have ih:=wz (k:=k) (m:=r);simp only[bump]
  by_cases h:k=q
  ·subst h;simp
  ·rw[qai h];simp only[qaj,ih]
   by_cases h2:k∈List.map Prod.fst r
   ·rw[qao h2,qao (qaE _ h2)]
   ·rw[qai h2,qai (by simp only[qam,not_or];exact⟨h,h2⟩)];rfl
theorem Af {α:Type} {motive:List α→Prop} (h0:motive []) (h1:∀l a,motive l→motive (l++[a])) (l:List α):motive l:=by
 rw[←List.reverse_reverse l]
 induction l.reverse with
 |nil=>exact h0
 |cons a r ih=>rw[List.reverse_cons];exact h1 _ _ ih
theorem tf {k:Key}:∀{ks:List Key},sG (jm ks) k=ks.count k:=by
 intro ks;refine Af (motive:=fun ks=>sG (jm ks) k=List.count k ks) ?_ (fun ks q ih=>?_) ks
 ·simp[jm,sG]
 ·rw[nS,Co,ih,List.count_append,List.count_singleton]
  congr 1
  by_cases h:k=q
  ·simp[h]
  ·simp[h,qbN h]
theorem Hj:∀{ks:List Key},((jm ks).map Prod.fst).Nodup:=by
 intro ks;refine Af (motive:=fun ks=>((jm ks).map Prod.fst).Nodup) ?_ (fun ks q ih=>?_) ks
 ·simp[jm]
 ·rw[nS,wz];split
  ·exact ih
  ·rename_i h;rw[List.nodup_append];exact⟨ih,by simp,fun a ha b hb=>by simp at hb;subst hb;exact fun e=>h (e▸ha)⟩
theorem F7 {x:Key×Nat}:∀{m:List (Key×Nat)},(m.map Prod.fst).Nodup→x∈m→sG m x.1=x.2
 |[],_,h=>by simp at h
 |(q,n)::r,hn,h=>by
  simp only[qaj,qdw]at hn
  rcases qam.1 h with h|h
  ·subst h;simp[sG]
  ·have:x.1≠q:=fun e=>hn.1 (e▸qbP h)
   simp only[sG,qai this];exact F7 hn.2 h
theorem F8 {k:Key}:∀{m:List (Key×Nat)},0<sG m k→(k,sG m k)∈m
 |[],h=>by simp[sG]at h
 |(q,n)::r,h=>by
  simp only[sG]at h ⊢
  by_cases e:k=q
  ·subst e;simp
  ·simp only[qai e]at h ⊢;exact qaE _ (F8 h)
theorem once {ks:List Key}:(∀x∈jm ks,x.2≤1)↔ks.Nodup:=by
 rw[List.nodup_iff_count];constructor
 ·intro h k;rw[←tf]
  by_cases hc:0<sG (jm ks) k
  ·exact h _ (F8 hc)
  ·omega
 ·intro h x hx;rw[←F7 Hj hx,tf];exact h x.1
theorem Vl {ks:List Key} {k:Key}:sG (jm ks) k≤ks.length:=by rw[tf];exact List.count_le_length
def pw (x:aL):Key:=(x.bay,x.row,if x.deck then 1 else 0)
def j7 (x:bz):List Key:=x.rows.map fun r=>(x.bay,r,2)
theorem yK {a b:aL}:pw a≠pw b↔qz a b:=by
 unfold pw qz;simp only[ne_eq,qas]
 cases a.deck<;>cases b.deck<;>simp
theorem DZ {cl:List aL}:(cl.map pw).Nodup↔∀i,(h:i<cl.length)→∀k,(hk:k<i)→qz cl[k] cl[i]:=by
 unfold List.Nodup;rw[qca,qaU];constructor
 ·intro h i hi k hk;exact yK.1 (h k i (by omega) hi hk)
 ·intro h i j hi hj ot;exact yK.2 (h j hj i ot)
theorem rising {x:bz} (h:∀i,i<x.rows.length→qA x i):∀(j i:Nat),i<j→j<x.rows.length→x.rows.getD i 0<x.rows.getD j 0
 |0,i,ot,_=>by omega
 |j+1,i,ot,hj=>by
  have h1:=(h (j+1) hj).2.2;simp only[qbp]at h1
  have h2:x.rows.getD j 0<x.rows.getD (j+1) 0:=by omega
  by_cases e:i=j
  ·subst e;exact h2
  ·have:=rising h j i (by omega) (by omega);omega
theorem rows_nodup {x:bz} (h:∀i,i<x.rows.length→qA x i):x.rows.Nodup:=by
 unfold List.Nodup;rw[qaU];intro i j hi hj ot e;have:=rising h j i ot hj;simp only[qab,hi,hj,qag,qbg]at this;omega
theorem D0 {vl:List bz} (hv:∀i,(h:i<vl.length)→iM vl[i]):(vl.flatMap j7).Nodup↔∀i,(h:i<vl.length)→∀k,(hk:k<i)→vl[k].bay=vl[i].bay→∀r,r∈vl[i].rows→r∉vl[k].rows:=by
 unfold List.Nodup;rw[List.pairwise_flatMap,qaU];constructor
 ·rintro⟨-,h⟩ i hi k hk hb r hr Yn;have:=h k i (by omega) hi hk (vl[k].bay,r,2) (by unfold j7;exact qaw.2 ⟨r,Yn,rfl⟩) (vl[i].bay,r,2) (by unfold j7;exact qaw.2 ⟨r,hr,rfl⟩);exact this (by rw[hb])
 ·intro h;refine⟨fun x hx=>?_,fun k i hk hi Y7 a ha b hb=>?_⟩
  ·obtain⟨i,hi,rfl⟩:=qaI hx;have:=rows_nodup (hv i hi).2.2;unfold j7;rw[qca];unfold List.Nodup at this
   exact this.imp fun MB e=>by simp only[qas]at e;exact MB e.2.1
  ·unfold j7 at ha hb;obtain⟨r,hr,rfl⟩:=qaw.1 ha;obtain⟨q,hq,rfl⟩:=qaw.1 hb;intro e;simp only[qas]at e;obtain⟨e1,e2,-⟩:=e;subst e2;exact h i hi k Y7 e1 r hq hr
def kB (cl:List aL) (vl:List bz):List Key:=cl.map pw++vl.flatMap j7
theorem D1 {cl:List aL} {vl:List bz} (hv:∀i,(h:i<vl.length)→iM vl[i]):(kB cl vl).Nodup↔(∀i,(h:i<cl.length)→∀k,(hk:k<i)→qz cl[k] cl[i])∧∀i,(h:i<vl.length)→∀k,(hk:k<i)→vl[k].bay=vl[i].bay→∀r,r∈vl[i].rows→r∉vl[k].rows:=by
 unfold kB;rw[List.nodup_append,DZ,D0 hv];constructor
 ·rintro⟨h1,h2,-⟩;exact⟨h1,h2⟩
 ·rintro⟨h1,h2⟩;refine⟨h1,h2,fun a ha b hb e=>?_⟩;obtain⟨x,-,rfl⟩:=qaw.1 ha;obtain⟨y,-,hy⟩:=List.mem_flatMap.1 hb;unfold j7 at hy;obtain⟨r,-,rfl⟩:=qaw.1 hy;unfold pw at e;simp only[qas]at e;obtain⟨-,-,e⟩:=e;split at e<;>omega
theorem J2 {cl:List aL} {vl:List bz} (hl:1≤cl.length∧cl.length≤200∧vl.length≤40) (hc:∀i,(h:i<cl.length)→fX cl[i]) (hv:∀i,(h:i<vl.length)→iM vl[i]):fo cl vl↔(kB cl vl).Nodup:=by
 rw[D1 hv];unfold fo;constructor
 ·rintro⟨-,h1,h2⟩;exact⟨fun i hi=>(h1 i hi).2,fun i hi=>(h2 i hi).2⟩
 ·rintro⟨h1,h2⟩;exact⟨hl,fun i hi=>⟨hc i hi,h1 i hi⟩,fun i hi=>⟨hv i hi,h2 i hi⟩⟩
end Go.bt
end
