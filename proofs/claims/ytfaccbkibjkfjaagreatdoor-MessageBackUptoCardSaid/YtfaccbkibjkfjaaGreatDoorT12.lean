import Derived.Lib.DecodeNEq
import Derived.Test.YtfaccbkibjkfjaaGreatDoorT11
import Derived.Test.YtfaccbkibjkfjaaGreatDoorT10
set_option linter.all false
set_option maxRecDepth 100000
set_option maxHeartbeats 1000000
namespace Go.bt
section
open Go Go.Am
section
open Classical
variable {P:Prop} {r:Bool}
theorem tr{_i:Decidable P}(a:r=decide P)(h:P):some (PV.bool true)=some (PV.bool r):=by simp[a,h]
theorem fa{_i:Decidable P}(a:r=decide P)(h:¬P):some (PV.bool false)=some (PV.bool r):=by simp[a,h]
def at_(s:B_)(i:Nat):Int:=((s.getD i 0).toNat:Int)
theorem wm(s:B_)(i:Nat):0<=at_ s i/\at_ s i<256:=⟨by unfold at_;omega,by unfold at_;have:=(s.getD i 0).toNat_lt;omega⟩
def yH(p:B_):Prop:=p.length=5/\∀i,i<p.length->65<=at_ p i/\at_ p i<=90
def ra(s:B_):Prop:=∀i,i<s.length->if i<3 then 65<=at_ s i/\at_ s i<=90 else if i=3 then at_ s i=85\/at_ s i=74\/at_ s i=90 else 48<=at_ s i/\at_ s i<=57
def val(b:Int):Int:=if b<=57 then b-48 else 10+(b-65)+(b-65+9)/10
def summed(s:B_):Nat->Int
 |0=>0
 |n+1=>summed s n+val (at_ s n)*2^n
def hU(s:B_):Prop:=s.length=11/\ra s/\at_ s 10-48=summed s 10%11%10
def most(size:Int):Int:=if size=20 then 32000 else if size=40 then 40000 else 0
def iL(b:bw):Prop:=(1<=b.id/\b.id<=999999)/\(b.number=[]\/hU b.number)/\(b.high=true->b.size=40)/\(1<=b.cD/\b.cD<=most b.size)/\(0<=b.load/\b.load<b.discharge/\b.discharge<20)/\b.cls<=9
def nf(l:List bw)(i:Nat):Prop:=∀h:i<l.length,iL l[i]/\(∀k,(a:k<i)->(l[i].number≠[]->l[k].number≠l[i].number))/\(i≠0->∀a:i-1<l.length,l[i-1].id<l[i].id)
def wo(l:List bw):Prop:=l.length<=2000/\∀i,i<l.length->nf l i
def lG(b:bw)(k:Int):Prop:=b.load<=k/\k<b.discharge
def aaU(b:bw):B_×Int:=
 if b.size=20/\b.high=false then(if b.cK then [50,50,82,49]else [50,50,71,49],0)
 else if b.size=40 then(if b.high then(if b.cK then [52,53,82,49]else [52,53,71,49])else(if b.cK then [52,50,82,49]else [52,50,71,49]),0)
 else([],60)
def rb(c:aL)(i:Nat):Prop:=0<=c.cq.getD i 0/\c.cq.getD i 0<c.dv/\(i=0\/c.cq.getD (i-1) 0<c.cq.getD i 0)
def In(n a b:Int):Prop:=a<=n/\n<=b
def fX(c:aL):Prop:=(∀i,i<c.cq.length->rb c i)/\In c.bay 0 39/\In c.row 0 30/\In c.dv 1 10/\In c.ko 0 40000/\In c.tT 0 500000000/\In c.tU 0 500000000/\In c.kj 0 1000000000000/\In c.x (-500000) 500000/\In c.y (-500000) 500000/\In c.z (-500000) 500000
def Je(a b:aL):Prop:=¬(a.bay=b.bay/\a.row=b.row/\a.deck=b.deck)
def qA(x:bz)(i:Nat):Prop:=0<=x.rows.getD i 0/\x.rows.getD i 0<=30/\(i=0\/x.rows.getD (i-1) 0<x.rows.getD i 0)
def iM(x:bz):Prop:=In x.bay 0 39/\x.rows≠[]/\∀i,i<x.rows.length->qA x i
def fo(c:List aL)(v:List bz):Prop:=(1<=c.length/\c.length<=200/\v.length<=40)/\(∀i,(h:i<c.length)->fX c[i]/\∀k,(a:k<i)->Je c[k] c[i])/\
 (∀i,(h:i<v.length)->iM v[i]/\∀k,(a:k<i)->v[k].bay=v[i].bay->∀r,r∈v[i].rows->r∉v[k].rows)
def fy(c:List aL)(x:Slot)(size:Int):Prop:=(0<=x.column/\x.column<c.length/\0<=x.tier/\∀h:x.column.toNat<c.length,x.tier<c[x.column.toNat].dv)/\((size=40/\x.half=0)\/(size=20/\(x.half=1\/x.half=2)))
def pj(a b:Int):Prop:=a=b\/a=0\/b=0
def zV(a b:Slot):Prop:=a.column=b.column/\a.tier=b.tier/\pj a.half b.half
def Has(l:List Slot)(x:Slot)(a:Int):Prop:=∃i,∃h:i<l.length,l[i].column=x.column/\l[i].tier=x.tier-1/\l[i].half=a
def Va(x:Slot)(l:List Slot):Prop:=x.tier<=0\/Has l x x.half\/(x.half=0/\Has l x 1/\Has l x 2)
def CF(n:Int):UInt8:=UInt8.ofNat (48+(n%10).toNat)
noncomputable def YX(c:List aL)(v:List bz)(x:Slot):B_×Int:=
 if ¬fo c v then([],2)else if ¬fy c x 20/\¬fy c x 40 then([],6)
 else match c[x.column.toNat]? with
  |none=>([],6)
  |some k=>
   let n:=4*k.bay+(if x.half=0 then 2 else if x.half=1 then 1 else 3)
   let t:=(2*(x.tier+1)+if k.deck then 80 else 0)%100
   ([CF (n/100),CF (n/10),CF n,CF (k.row/10),CF k.row,CF (t/10),CF t],0)
def ku(l:List bw)(id:Int):Option bw:=l.find? (fun b=>decide (b.id=id))
def DM(b:bw):Int:=if b.high then 2896 else 2591
noncomputable def iJ(boxes:List bw)(l:List aH)(a c:Int):Nat->Int
 |0=>0
 |n+1=>iJ boxes l a c n+match l[n]? with
  |none=>0
  |some x=>if x.slot.column=a/\(x.slot.half=c\/x.slot.half=0)then(match ku boxes x.box with|some b=>DM b|none=>0)else 0
noncomputable def ko(boxes:List bw)(l:List aH)(a b:Int):Int:=iJ boxes l a b l.length
def Fits(c:aL)(boxes:List bw)(l:List aH)(i:Int):Prop:=c.ko<=0\/(ko boxes l i 1<=c.ko/\ko boxes l i 2<=c.ko)
def pk(c:List aL)(boxes:List bw)(l:List aH)(i:Nat):Prop:=∀h:i<l.length,(∃b,ku boxes l[i].box=some b/\fy c l[i].slot b.size)/\Va l[i].slot (l.map (·.slot))/\∀k,(a:k<i)->l[k].box<l[i].box/\¬zV l[k].slot l[i].slot
def gC(c:List aL)(v:List bz)(boxes:List bw)(l:List aH):Prop:=fo c v/\(∀i,i<l.length->pk c boxes l i)/\∀i,(h:i<c.length)->Fits c[i] boxes l i
def abJ(c:List aL)(v:List bz)(call:Int)(a:B_)(boxes:List bw)(l:List aH):Prop:=
 (0<=call/\call<20)/\yH a/\boxes.length=l.length/\wo boxes/\gC c v boxes l/\∀i,(h:i<boxes.length)->lG boxes[i] call
def adq(c:B_):Prop:=c.length<=100/\∀i,i<c.length->32<=at_ c i/\at_ c i<=126
def adV(e:List B_):Prop:=1<=e.length/\e.length<=10/\∀i,(h:i<e.length)->adq e[i]
def uJ(s:List (List B_)):Prop:=1<=s.length/\s.length<=30/\∀i,(h:i<s.length)->adV s[i]
structure Seg where
 tag:B_
 data:List (List B_)
structure Message where
 kind:B_
 ref:B_
 Hd:List Seg
def adI(s:B_):Prop:=∀i,i<s.length->65<=at_ s i/\at_ s i<=90
def Y0(s:B_):Prop:=s.length=3/\adI s/\s≠[72,69,68]/\s≠[69,78,68]
def ab2(s:B_):Prop:=s.length=6/\adI s
def acU(s:B_):Prop:=1<=s.length/\s.length<=14/\∀i,i<s.length->(65<=at_ s i/\at_ s i<=90)\/(48<=at_ s i/\at_ s i<=57)
def adf(m:Message):Prop:=ab2 m.kind/\acU m.ref/\∀i,(h:i<m.Hd.length)->Y0 m.Hd[i].tag/\uJ ([m.Hd[i].tag]::m.Hd[i].data)
def Jf:List B_->List B_
 |[]=>[[]]
 |c::r=>c::(r.reverse.dropWhile (fun x=>x.isEmpty)).reverse
def CG(d:List (List B_)):List (List B_):=((d.map Jf).reverse.dropWhile (fun e=>e==[[]])).reverse
def digits(n:Nat):B_:=if h:n<10 then [UInt8.ofNat (48+n)]else digits (n/10)++[UInt8.ofNat (48+n%10)]
termination_by n
def abH:B_:=[66,65,89,80,76,78]
end
section
variable {s:B_} {v:Nat}
theorem JS:∃n a b c,Utf8.decode (⟨s.toArray⟩:ByteArray) v=Lib.decodeN n (s.getD v 0).toNat a b c:=by have e:(⟨s.toArray⟩:ByteArray).get! v=s.getD v 0:=by{show s.toArray[v]! =_;simp[List.getD_eq_getElem?_getD];rfl};exact⟨_,_,_,_,by rw[Lib.decode_at,e]⟩
theorem re(a:at_ s v<128):aF.rune s v=at_ s v/\aF.C0 s v=1:=by obtain⟨n,b,c,d,h⟩:=JS (s:=s) (v:=v);have f:(s.getD v 0).toNat<128:=by{unfold at_ at a;omega};have e:Lib.decodeN n (s.getD v 0).toNat b c d=((s.getD v 0).toNat,1):=by{unfold Lib.decodeN;rw[qao f]};rw[e]at h;simp only[aF,at_,qcb,h];exact⟨by first|rfl|trivial,by first|rfl|trivial⟩
theorem JT(a:128<=at_ s v):128<=aF.rune s v:=by obtain⟨n,b,c,d,h⟩:=JS (s:=s) (v:=v);have f:¬(s.getD v 0).toNat<128:=by{unfold at_ at a;omega};have e:128<=(Lib.decodeN n (s.getD v 0).toNat b c d).1:=by{unfold Lib.decodeN;rw[qai f];(repeat' split);all_goals omega};simp only[aF,qcb,h];omega
theorem Zx{n:Int}(a:0<=n)(h1:n<256):IntKind.wrap .u8 n=n:=by have b:(2:Int)^IntKind.u8.bits=256:=d_;unfold IntKind.wrap;simp only[b];rw[qdq a h1,qai (by simp[IntKind.signed])]
def acp(c:B_):List PV:=[.str c]
def strs(a:List B_):R_:=a.map acp
abbrev Elem:=List B_×R_
def acV(e:Elem):List PV:=[.sl (strs e.1) e.2]
def aeP(d:B_):List PV:=[.sl [acp d] []]
end
end
section
open Go Go.Am Go.Proofs
open Classical
variable {l:List bw} {v:Nat}
attribute [local irreducible] Am.bp.holds bH fw bP ek
variable {mx:Int}
theorem getD_eq{l:List Int}(h:v<l.length):l.getD v 0=l[v]:=by simp[List.getD_eq_getElem?_getD,h]
def dM(l:List bw)(id:Int):bw×Bool:=match ku l id with
 |some b=>(b,true)
 |none=>(⟨0,[],0,false,0,0,0,0,false⟩,false)
theorem Cd{id:Int}(a:v<l.length)(b:∀k,k<v->∀h:k<l.length,l[k].id≠id)(c:l[v].id=id):ku l id=some l[v]:=by unfold ku;rw[qdA];exact⟨by simpa using c,v,a,rfl,fun j d=>by simpa using b j d o_⟩
theorem wu{id:Int}(b:∀k,k<l.length->∀h:k<l.length,l[k].id≠id):ku l id=none:=by unfold ku;rw[qdD];intro x c;obtain⟨k,a,d⟩:=qaI c;subst d;simpa using b k a a
theorem pr{boxes:List bw}{l:List aH}{c h:Int}:∀{n:Nat},0<=iJ boxes l c h n/\iJ boxes l c h n<=2896*n
|0=>by simp[iJ]
|n+1=>by have:=pr (boxes:=boxes) (l:=l) (c:=c) (h:=h) (n:=n);simp only[iJ];(repeat' split)<;>first|(simp only[DM];split<;>omega)|omega
def Lc(n:Int):Prop:= -9223372036854775808<=n/\n<9223372036854775808
def og(b:bw):Prop:=(0<=b.size/\b.size<256)/\(0<=b.cls/\b.cls<256)/\Lc b.id/\Lc b.cD/\Lc b.load/\Lc b.discharge
def kL(x:aH):Prop:=Lc x.box/\Lc x.slot.column/\Lc x.slot.tier/\(0<=x.slot.half/\x.slot.half<256)
end
open Go Go.Am
structure cT where
 port:B_
 at_:Int
 dr:Int
def cT.enc(c:cT):List PV:=[.str c.port,.i c.at_,.i c.dr]
structure Stat where
 l:List aH
 sp:R_
def Stat.enc(c:Stat):List PV:=[.sl (c.l.map aH.enc) c.sp]
open Classical
variable {α:Type}
structure Place where
 bay:Int
 row:Int
 dv:Int
 deck:Bool
def Place.enc(p:Place):List PV:=[.u p.bay,.u p.row,.u p.dv,.bool p.deck]
structure Item where
 rk:Int
 cD:Int
 load:Int
 stay:Int
 small:Bool
 high:Bool
def Item.enc(p:Item):List PV:=[.u p.rk,.u p.cD,.u p.load,.u p.stay,.bool p.small,.bool p.high]
def xw(p:Place):Prop:=0<=p.bay/\p.bay<256/\0<=p.row/\p.row<256/\0<=p.dv/\p.dv<256
def BM(p:Item):Prop:=0<=p.rk/\p.rk<256/\0<=p.cD/\p.cD<256/\0<=p.load/\p.load<256/\0<=p.stay/\p.stay<256
def r9(p:Place):aL:=⟨p.bay%5,p.row%5,p.deck,2+p.dv%4,0,500000000,500000000,0,[],[],13000*(p.bay%5)-26000,2500*(p.row%5)-5000,if p.deck then 20000 else 2000⟩
def Ob(c:aL)(b row:Int)(a:Bool):Prop:=c.bay=b/\c.row=row/\c.deck=a
noncomputable def nQ(a:List aL)(p:Place):List aL:=if ∃c∈a,Ob c (p.bay%5) (p.row%5) p.deck then a else a++[r9 p]
noncomputable def acH(l:List Place)(v:Nat):List aL:=(l.take v).foldl nQ []
theorem ad3{l:List Place}{v:Nat}(h:v<l.length):acH l (v+1)=nQ (acH l v) l[v]:=by unfold acH;rw[qan h,qcI];rfl
def BX:aL:=⟨0,0,false,3,0,500000000,500000000,0,[],[],0,0,2000⟩
noncomputable def ie(l:List Place):List aL:=if acH l (min l.length 12)=[]then [BX]else acH l (min l.length 12)
def sD(a:Int)(i:Int):Bool:=aF.eq (aF.bits .and .u32 (aF.shr .u32 a i) 1) 1
def se(a:Int)(b:Nat):List bz:=(if sD a (2*b)then [⟨b,[0,1],[]⟩]else [])++(if sD a (2*b+1)then [⟨b,[2,3,4],[]⟩]else [])
def cJ(a:Int):Nat->List bz
 |0=>[]
 |v+1=>cJ a v++se a v
def kX(calls:Int)(i:Nat)(x:Item):bw:=
 let a:=x.load%(calls-1)
 ⟨5*(i+1),[],if x.small then 20 else 40,if x.small then false else x.high,1000+100*x.cD,a,a+1+x.stay%(calls-1-a),0,false⟩
def fU(l:List Item)(calls:Int)(v:Nat):List bw:=(l.take v).mapIdx (kX calls)
def nP(l:List aH)(x:aH):List aH:=l.filter (fun y=>decide (y.box<x.box))++[x]++l.filter (fun y=>decide (x.box<y.box))
def Gk(l:List aH)(id:Int):Prop:=∃y∈l,y.box=id
def wP(l:List aH)(id:Int):Option Slot:=(l.find? (fun y=>decide (y.box=id))).map (·.slot)
def fk(size:Int):List Int:=if size=40 then [0]else if size=20 then [1,2]else []
def l9(size:Int)(c:Nat)(x:aL):List Slot:=(List.range x.dv.toNat).flatMap fun t:Nat=>(fk size).map fun h=>⟨(c:Int),(t:Int),h⟩
def slotsOf(cl:List aL)(size:Int):List Slot:=(cl.mapIdx (l9 size)).flatten
section
variable (cl:List aL) (vl:List bz) (boxes:List bw)
noncomputable def kq(c:List aH)(k a:Int)(l:List aH)(b:bw):List aH:=
 match wP c b.id with
 |some x=>if x.tier=a/\b.load<k/\k<b.discharge/\gC cl vl boxes (nP l ⟨b.id,x⟩)then nP l ⟨b.id,x⟩else l
 |none=>l
noncomputable def sc(b:List aH)(k a:Int)(l:List aH)(v:Nat):List aH:=(boxes.take v).foldl (kq cl vl boxes b k a) l
noncomputable def pS(a:List aH)(k:Int):Nat->List aH
 |0=>[]
 |t+1=>sc cl vl boxes a k (t:Int) (pS a k t) boxes.length
noncomputable def sf(l:List aH)(id:Int)(rk:Int):List Slot->Option (List aH)
 |[]=>none
 |x::r=>if x.column=rk/\gC cl vl boxes (nP l ⟨id,x⟩)then some (nP l ⟨id,x⟩)else sf l id rk r
noncomputable def iK(l:List aH)(id size home:Int):Nat->Option (List aH)
 |0=>none
 |t+1=>match iK l id size home t with
  |some r=>some r
  |none=>sf cl vl boxes l id ((home+t)%cl.length) (slotsOf cl size)
noncomputable def pU(home:Int->Int)(k:Int)(l:List aH)(b:bw):List aH⊕Int:=
 if k<b.load\/b.discharge<=k\/Gk l b.id then .inl l
 else match iK cl vl boxes l b.id b.size (home b.id) cl.length with
  |some r=>.inl r
  |none=>.inr b.id
noncomputable def iI(home:Int->Int)(k:Int)(l:List aH):Nat->List aH⊕Int
 |0=>.inl l
 |v+1=>match iI home k l v,boxes[v]? with
  |.inl a,some b=>pU cl vl boxes home k a b
  |.inl a,none=>.inl a
  |.inr e,_=>.inr e
noncomputable def Kj(home:Int->Int)(a:List aH)(k:Int):List aH⊕Int:=iI cl vl boxes home k (pS cl vl boxes a k 10) boxes.length
noncomputable def fj(home:Int->Int):Nat->List (List aH)⊕Int
 |0=>.inl []
 |k+1=>match fj home k with
  |.inl L=>(match Kj cl vl boxes home (L.getLastD []) (k:Int)with
   |.inl l=>.inl (L++[l])
   |.inr e=>.inr e)
  |.inr e=>.inr e
end
noncomputable def xF(cl:List aL)(vl:List bz)(boxes:List bw)(home:Int->Int)(calls:Nat):List (List aH)×Int:=
 match fj cl vl boxes home calls with
 |.inl L=>(L,0)
 |.inr e=>([],e)
noncomputable def rounds(cl:List aL)(vl:List bz)(home:Int->Int)(calls:Nat):Nat->List bw->List bw×List (List aH)
 |0,_=>([],List.replicate calls [])
 |n+1,boxes=>if(xF cl vl boxes home calls).2=0 then(boxes,(xF cl vl boxes home calls).1)else rounds cl vl home calls n (boxes.filter fun b=>decide (b.id≠(xF cl vl boxes home calls).2))
def lL(l:List Item)(n:Int)(v:Nat):R_:=(l.take v).mapIdx fun i x=>[.i (5*((i:Int)+1)),.i (x.rk%n)]
abbrev Key:=Int×Int×Int
variable {k:Key} {ks:List Key} {m r:List (Key×Nat)} {x:Key×Nat}
def ic(k:Key):List PV:=[.i k.1,.i k.2.1,.i k.2.2]
def Ae(x:Key×Nat):List PV:=[.i x.1.1,.i x.1.2.1,.i x.1.2.2,.i (Int.ofNat x.2)]
def eh(m:List (Key×Nat)):R_:=m.map Ae
def bump:List (Key×Nat)->Key->List (Key×Nat)
 |[],k=>[(k,1)]
 |(a,n)::r,k=>if k=a then(a,n+1)::r else(a,n)::bump r k
def sG:List (Key×Nat)->Key->Nat
 |[],_=>0
 |(a,n)::r,k=>if k=a then n else sG r k
def jm(a:List Key):List (Key×Nat):=a.foldl bump []
theorem Jh(a:List Key)(k:Key):jm (a++[k])=bump (jm a) k:=by simp[jm,qcI]
theorem F6(k:Key)(x:Key×Nat):JK (ic k) ((Ae x).take 3)=decide (k=x.1):=by obtain⟨a,b,c⟩:=k;obtain⟨⟨d,e,f⟩,n⟩:=x;simp only[ic,Ae,qbl,qbo,JK];by_cases g:a=d<;>by_cases h:b=e<;>by_cases i:c=f<;>simp[g,h,i]
theorem ak5{k:Key}:∀{m:List (Key×Nat)},aF.xJ 3 (eh m) (ic k) [.i 0]=.i (Int.ofNat (sG m k))
|[]=>by simp[aF,jy,eh,sG]
|(b,n)::r=>by have a:=ak5 (k:=k) (m:=r);simp only[aF,jy,eh,qaj,qbv,F6]at a ⊢;by_cases h:k=b;{subst h;simp[sG,Ae]};simp only[h,qbY,sG,qaW];exact a
theorem EG(f:α->α)(a:α)(l:List α)(i:Nat):(a::l).modify (i+1) f=a::l.modify i f:=s_
theorem Cn:dQ 3 (eh (x::r)) (ic k)=(decide (k=x.1)||dQ 3 (eh r) (ic k)):=by simp only[dQ,eh,qaj,qdE,F6]
theorem DY:fb 3 (eh (x::r)) (ic k)=if k=x.1 then 0 else fb 3 (eh r) (ic k)+1:=by simp only[fb,eh,qaj,qcJ,F6];by_cases h:k=x.1<;>simp[h]
def setRow(rows:R_)(k:Key)(n:Nat):R_:=((match dQ 3 rows (ic k)with|true=>rows|false=>rows++[ic k++[PV.int .i64 0]]).modify (fb 3 rows (ic k)) (fun r=>r.take 3++[PV.int .i64 (Int.ofNat n)]))
theorem yJ{k:Key}:∀{m:List (Key×Nat)},setRow (eh m) k (sG m k+1)=eh (bump m k)
|[]=>by simp[setRow,eh,dQ,fb,bump,sG,Ae,ic]
|(a,n)::r=>by have b:=yJ (k:=k) (m:=r);unfold setRow at b ⊢;rw[Cn,DY];by_cases h:k=a;{subst h;simp[bump,sG,eh,Ae]};simp only[h,qbY,Bool.false_or,qaW,sG,bump];have c:(match dQ 3 (eh r) (ic k)with|true=>eh ((a,n)::r)|false=>eh ((a,n)::r)++[ic k++[PV.int .i64 0]])=Ae (a,n)::(match dQ 3 (eh r) (ic k)with|true=>eh r|false=>eh r++[ic k++[PV.int .i64 0]]):=by{cases dQ 3 (eh r) (ic k)<;>simp[eh]};refine qdC (congrArg (fun z=>List.modify z _ _) c) ?_;rw[EG,b];rfl
theorem Vk:aF.PT 3 (aF.sK 3 (eh m) (ic k) [.i 0]) (aF.mix 3 (eh m) (ic k)) [.i (Int.ofNat (sG m k+1))]=eh (bump m k):=yJ
theorem aaW:aF.CZ [1,1,1] 3 (eh m) (ic k):=by refine⟨rfl,by simp[aR,ic],fun r a=>?_⟩;obtain⟨x,_,rfl⟩:=qaw.1 a;simp[aR,ic,Ae]
theorem aaX:aF.min1 (aF.mix 3 (eh m) (ic k)) (aF.sK 3 (eh m) (ic k) [.i 0]):=by refine⟨by simp[aF],?_⟩;simp only[aF];by_cases h:dQ 3 (eh m) (ic k)=true;{rw[h];simp only;unfold fb;have:=List.findIdx_lt_length_of_exists (p:=fun r=>JK (ic k) (r.take 3)) (xs:=eh m) (by simpa[dQ]using h);omega};rw[Bool.not_eq_true]at h;rw[h];simp only[qal,qcm];unfold fb;have:=List.findIdx_le_length (p:=fun r=>JK (ic k) (r.take 3)) (xs:=eh m);omega
theorem Co{k k':Key}:∀{m:List (Key×Nat)},sG (bump m k) k'=sG m k'+if k'=k then 1 else 0
|[]=>by simp[bump,sG]
|(q,n)::r=>by have b:=Co (k:=k) (k':=k') (m:=r);simp only[bump];by_cases h:k=q;{subst h;simp only[qao,sG];by_cases a:k'=k;{simp[a]};simp[a]};simp only[qai h,sG];by_cases a:k'=q;{subst a;rw[qao rfl,qao rfl,qai (fun e=>h e.symm)];rfl};simp only[qai a];exact b
theorem wz{k:Key}:∀{m:List (Key×Nat)},(bump m k).map Prod.fst=if k∈m.map Prod.fst then m.map Prod.fst else m.map Prod.fst++[k]
|[]=>by simp[bump]
|(q,n)::r=>by have b:=wz (k:=k) (m:=r);simp only[bump];by_cases h:k=q;{subst h;simp};rw[qai h];simp only[qaj,b];by_cases a:k∈List.map Prod.fst r;{rw[qao a,qao (qaE _ a)]};rw[qai a,qai (by simp only[qam,not_or];exact⟨h,a⟩)];rfl
theorem Af{motive:List α->Prop}(b:motive [])(h1:∀l a,motive l->motive (l++[a]))(l:List α):motive l:=by rw[<-List.reverse_reverse l];induction l.reverse with|nil=>exact b|cons a r c=>rw[qdH];exact h1 _ _ c
theorem tf:∀{a:List Key},sG (jm a) k=a.count k:=by intro a;refine Af (motive:=fun a=>sG (jm a) k=List.count k a) ?_ (fun a q b=>?_) a;{simp[jm,sG]};rw[Jh,Co,b,qdK,List.count_singleton];congr 1;by_cases h:k=q;{simp[h]};simp[h,qbN h]
theorem Hj:∀{c:List Key},((jm c).map Prod.fst).Nodup:=by intro c;refine Af (motive:=fun c=>((jm c).map Prod.fst).Nodup) ?_ (fun c q d=>?_) c;{simp[jm]};rw[Jh,wz];split;{exact d};rename_i h;rw[List.nodup_append];exact⟨d,s_,fun a g b f=>by simp at f;subst f;exact fun e=>h (e▸g)⟩
theorem F7{x:Key×Nat}:∀{m:List (Key×Nat)},(m.map Prod.fst).Nodup->x∈m->sG m x.1=x.2
|[],_,h=>by simp at h
|(q,n)::r,a,h=>by simp only[qaj,qdw]at a;rcases qam.1 h with h|h;{subst h;simp[sG]};have:x.1≠q:=fun e=>a.1 (e▸qbP h);simp only[sG,qai this];exact F7 a.2 h
theorem F8{k:Key}:∀{m:List (Key×Nat)},0<sG m k->(k,sG m k)∈m
|[],h=>by simp[sG]at h
|(q,n)::r,h=>by simp only[sG]at h ⊢;by_cases e:k=q;{subst e;simp};simp only[qai e]at h ⊢;exact qaE _ (F8 h)
theorem once:(∀x∈jm ks,x.2<=1)↔ks.Nodup:=by rw[List.nodup_iff_count];constructor;{intro h k;rw[<-tf];by_cases a:0<sG (jm ks) k;{exact h _ (F8 a)};omega};intro h x b;rw[<-F7 Hj b,tf];exact h x.1
theorem Vl:sG (jm ks) k<=ks.length:=by rw[tf];exact qab
def pw(x:aL):Key:=(x.bay,x.row,if x.deck then 1 else 0)
def j7(x:bz):List Key:=x.rows.map fun r=>(x.bay,r,2)
theorem yK{a b:aL}:pw a≠pw b↔Je a b:=by unfold pw Je;simp only[ne_eq,qas];cases a.deck<;>cases b.deck<;>simp
theorem DZ{cl:List aL}:(cl.map pw).Nodup↔∀i,(h:i<cl.length)->∀k,(a:k<i)->Je cl[k] cl[i]:=by unfold List.Nodup;rw[qca,qaU];constructor;{intro h i b k a;exact yK.1 (h k i o_ b a)};intro h i j b c d;exact yK.2 (h j c i d)
theorem rising{x:bz}(h:∀i,i<x.rows.length->qA x i):∀(j i:Nat),i<j->j<x.rows.length->x.rows.getD i 0<x.rows.getD j 0
|0,i,a,_=>o_
|j+1,i,a,b=>by have h1:=(h (j+1) b).2.2;simp only[qbp]at h1;have h2:x.rows.getD j 0<x.rows.getD (j+1) 0:=o_;by_cases e:i=j;{subst e;exact h2};have:=rising h j i o_ o_;omega
theorem rows_nodup{x:bz}(h:∀i,i<x.rows.length->qA x i):x.rows.Nodup:=by unfold List.Nodup;rw[qaU];intro i j b a c e;have:=rising h j i c a;simp only[List.getD_eq_getElem?_getD,b,a,qag,qbg]at this;omega
theorem ac8{vl:List bz}(l:∀i,(h:i<vl.length)->iM vl[i]):(vl.flatMap j7).Nodup↔∀i,(h:i<vl.length)->∀k,(f:k<i)->vl[k].bay=vl[i].bay->∀r,r∈vl[i].rows->r∉vl[k].rows:=by unfold List.Nodup;rw[List.pairwise_flatMap,qaU];constructor;{rintro⟨-,h⟩ i c k f d r g m;have:=h k i o_ c f (vl[k].bay,r,2) (by unfold j7;exact qaw.2 ⟨r,m,rfl⟩) (vl[i].bay,r,2) (by unfold j7;exact qaw.2 ⟨r,g,rfl⟩);exact this (by rw[d])};intro h;refine⟨fun x n=>?_,fun k i f c o a j b d=>?_⟩;{obtain⟨i,c,rfl⟩:=qaI n;have:=rows_nodup (l i c).2.2;unfold j7;rw[qca];unfold List.Nodup at this;exact this.imp fun p e=>by simp only[qas]at e;exact p e.2.1};unfold j7 at j d;obtain⟨r,g,rfl⟩:=qaw.1 j;obtain⟨q,s,rfl⟩:=qaw.1 d;intro e;simp only[qas]at e;obtain⟨t,u,-⟩:=e;subst u;exact h i c k o t r s g
def kB(cl:List aL)(vl:List bz):List Key:=cl.map pw++vl.flatMap j7
theorem D1{cl:List aL}{vl:List bz}(g:∀i,(h:i<vl.length)->iM vl[i]):(kB cl vl).Nodup↔(∀i,(h:i<cl.length)->∀k,(j:k<i)->Je cl[k] cl[i])/\∀i,(h:i<vl.length)->∀k,(j:k<i)->vl[k].bay=vl[i].bay->∀r,r∈vl[i].rows->r∉vl[k].rows:=by unfold kB;rw[List.nodup_append,DZ,ac8 g];constructor;{rintro⟨c,d,-⟩;exact⟨c,d⟩};rintro⟨c,d⟩;refine⟨c,d,fun a l b m e=>?_⟩;obtain⟨x,-,rfl⟩:=qaw.1 l;obtain⟨y,-,f⟩:=List.mem_flatMap.1 m;unfold j7 at f;obtain⟨r,-,rfl⟩:=qaw.1 f;unfold pw at e;simp only[qas]at e;obtain⟨-,-,e⟩:=e;split at e<;>omega
theorem J2{cl:List aL}{vl:List bz}(hl:1<=cl.length/\cl.length<=200/\vl.length<=40)(e:∀i,(h:i<cl.length)->fX cl[i])(d:∀i,(h:i<vl.length)->iM vl[i]):fo cl vl↔(kB cl vl).Nodup:=by rw[D1 d];unfold fo;constructor;{rintro⟨-,b,c⟩;exact⟨fun i a=>(b i a).2,fun i a=>(c i a).2⟩};rintro⟨b,c⟩;exact⟨hl,fun i a=>⟨e i a,b i a⟩,fun i a=>⟨d i a,c i a⟩⟩
end Go.bt
