import Derived.Lib.DecodeNEq
import Derived.Test.YtjclmfaodngbfaaGreatDoorT07
import Derived.Test.YtjclmfaodngbfaaGreatDoorT09
set_option linter.all false
set_option maxRecDepth 100000
set_option maxHeartbeats 1000000
namespace Go.bt
open Go Go.Am
section
open Classical
variable {P:Prop} {r:Bool}
theorem tr{_i:Decidable P}(a:r=decide P)(h:P):some (PV.bool true)=some (PV.bool r):=by simp_all
theorem fa{_i:Decidable P}(a:r=decide P)(h:¬P):some (PV.bool false)=some (PV.bool r):=by simp_all
def at_(s:List UInt8)(i:Nat):Int:=((s.getD i 0).toNat:Int)
def val(b:Int):Int:=if b<=57 then b-48 else 10+(b-65)+(b-65+9)/10
def rb(c:aL)(i:Nat):Prop:=0<=c.cq.getD i 0/\c.cq.getD i 0<c.dv/\(i=0\/c.cq.getD (i-1) 0<c.cq.getD i 0)
def In(n a b:Int):Prop:=a<=n/\n<=b
def fX(c:aL):Prop:=(∀i,i<c.cq.length->rb c i)/\In c.bay 0 39/\In c.row 0 30/\In c.dv 1 10/\In c.ko 0 40000/\In c.tT 0 500000000/\In c.tU 0 500000000/\In c.kj 0 1000000000000/\In c.x (-500000) 500000/\In c.y (-500000) 500000/\In c.z (-500000) 500000
def Je(a b:aL):Prop:=¬(a.bay=b.bay/\a.row=b.row/\a.deck=b.deck)
def qA(x:bz)(i:Nat):Prop:=0<=x.rows.getD i 0/\x.rows.getD i 0<=30/\(i=0\/x.rows.getD (i-1) 0<x.rows.getD i 0)
def iM(x:bz):Prop:=In x.bay 0 39/\x.rows≠[]/\∀i,i<x.rows.length->qA x i
def aA(c:List aL)(v:List bz):Prop:=(1<=c.length/\c.length<=200/\v.length<=40)/\(∀i,(h:i<c.length)->fX c[i]/\∀k,(a:k<i)->Je c[k] c[i])/\
 (∀i,(h:i<v.length)->iM v[i]/\∀k,(a:k<i)->v[k].bay=v[i].bay->∀r,r∈v[i].rows->r∉v[k].rows)
def b9(c:List aL)(x:Slot)(size:Int):Prop:=(0<=x.column/\x.column<c.length/\0<=x.cm/\∀h:x.column.toNat<c.length,x.cm<c[x.column.toNat].dv)/\((size=40/\x.half=0)\/(size=20/\(x.half=1\/x.half=2)))
def pj(a b:Int):Prop:=a=b\/a=0\/b=0
def zV(a b:Slot):Prop:=a.column=b.column/\a.cm=b.cm/\pj a.half b.half
def Has(l:List Slot)(x:Slot)(a:Int):Prop:=∃i,∃h:i<l.length,l[i].column=x.column/\l[i].cm=x.cm-1/\l[i].half=a
def Va(x:Slot)(l:List Slot):Prop:=x.cm<=0\/Has l x x.half\/(x.half=0/\Has l x 1/\Has l x 2)
def ku(l:List bw)(id:Int):Option bw:=l.find? (fun b=>decide (b.id=id))
def DM(b:bw):Int:=if b.high then 2896 else 2591
noncomputable def iJ(boxes:List bw)(l:List aH)(a c:Int):Nat->Int
 |0=>0
 |n+1=>iJ boxes l a c n+match l[n]? with
  |none=>0
  |some x=>if x.slot.column=a/\(x.slot.half=c\/x.slot.half=0)then(match ku boxes x.box with|some b=>DM b|none=>0)else 0
noncomputable def ko(boxes:List bw)(l:List aH)(a b:Int):Int:=iJ boxes l a b l.length
def Fits(c:aL)(boxes:List bw)(l:List aH)(i:Int):Prop:=c.ko<=0\/(ko boxes l i 1<=c.ko/\ko boxes l i 2<=c.ko)
def pk(c:List aL)(boxes:List bw)(l:List aH)(i:Nat):Prop:=∀h:i<l.length,(∃b,ku boxes l[i].box=some b/\b9 c l[i].slot b.size)/\Va l[i].slot (l.map (·.slot))/\∀k,(a:k<i)->l[k].box<l[i].box/\¬zV l[k].slot l[i].slot
def gC(c:List aL)(v:List bz)(boxes:List bw)(l:List aH):Prop:=aA c v/\(∀i,i<l.length->pk c boxes l i)/\∀i,(h:i<c.length)->Fits c[i] boxes l i
def ja(a:UInt8):List (List UInt8)->List UInt8
 |[]=>[]
 |[c]=>c
 |c::r=>c++a::ja a r
structure Seg where
 tag:List UInt8
 data:List (List (List UInt8))
structure Message where
 kind:List UInt8
 ref:List UInt8
 Hd:List Seg
def digits(n:Nat):List UInt8:=if h:n<10 then [UInt8.ofNat (48+n)]else digits (n/10)++[UInt8.ofNat (48+n%10)]
termination_by n
end
structure cT where
 port:List UInt8
 at_:Int
 dr:Int
def cT.enc(c:cT):List PV:=[.str c.port,.int .i64 c.at_,.int .i64 c.dr]
def cT.mark(i:Nat):cT:=⟨[],N7 i,0⟩
structure Stat where
 l:List aH
 sp:List (List PV)
def Stat.enc(c:Stat):List PV:=[.sl (c.l.map aH.enc) c.sp]
def Stat.cV(c:Stat):Stat:=⟨c.l,((List.range 12).map aH.mark).map aH.enc⟩
def Stat.mark(i:Nat):Stat:=⟨[aH.mark i],[]⟩
structure N5 where
 l:List Int
 sp:List (List PV)
def N5.enc(c:N5):List PV:=[.sl (ints c.l) c.sp]
def N5.cV(c:N5):N5:=⟨c.l,ints marks⟩
def N5.mark(i:Nat):N5:=⟨[N7 i],[]⟩
section
open Classical
structure Place where
 bay:Int
 row:Int
 dv:Int
 deck:Bool
def Place.enc(p:Place):List PV:=[.int .u8 p.bay,.int .u8 p.row,.int .u8 p.dv,.bool p.deck]
structure Item where
 mB:Int
 cD:Int
 load:Int
 stay:Int
 small:Bool
 high:Bool
def Item.enc(p:Item):List PV:=[.int .u8 p.mB,.int .u8 p.cD,.int .u8 p.load,.int .u8 p.stay,.bool p.small,.bool p.high]
def lK(p:Place):Prop:=0<=p.bay/\p.bay<256/\0<=p.row/\p.row<256/\0<=p.dv/\p.dv<256
def r9(p:Place):aL:=⟨p.bay%5,p.row%5,p.deck,2+p.dv%4,0,500000000,500000000,0,[],[],13000*(p.bay%5)-26000,2500*(p.row%5)-5000,if p.deck then 20000 else 2000⟩
def Ob(c:aL)(b row:Int)(a:Bool):Prop:=c.bay=b/\c.row=row/\c.deck=a
noncomputable def nQ(a:List aL)(p:Place):List aL:=if ∃c∈a,Ob c (p.bay%5) (p.row%5) p.deck then a else a++[r9 p]
noncomputable def acH(l:List Place)(v:Nat):List aL:=(l.take v).foldl nQ []
theorem tq{l:List Place}{v:Nat}(h:v<l.length):acH l (v+1)=nQ (acH l v) l[v]:=by grind[acH,List.take_succ_eq_append_getElem]
def sA:aL:=⟨0,0,false,3,0,500000000,500000000,0,[],[],0,0,2000⟩
noncomputable def ie(l:List Place):List aL:=if acH l (min l.length 12)=[]then [sA]else acH l (min l.length 12)
def sD(a:Int)(i:Int):Bool:=aF.eq (aF.bits .and .u32 (aF.shr .u32 a i) 1) 1
def se(a:Int)(b:Nat):List bz:=(if sD a (2*b)then [⟨b,[0,1],[]⟩]else [])++(if sD a (2*b+1)then [⟨b,[2,3,4],[]⟩]else [])
def cJ(a:Int):Nat->List bz
 |0=>[]
 |v+1=>cJ a v++se a v
def D3(l:List aH)(x:aH):List aH:=l.filter (fun y=>decide (y.box<x.box))++[x]++l.filter (fun y=>decide (x.box<y.box))
def Gk(l:List aH)(id:Int):Prop:=∃y∈l,y.box=id
def wP(l:List aH)(id:Int):Option Slot:=(l.find? (fun y=>decide (y.box=id))).map (·.slot)
def fk(size:Int):List Int:=if size=40 then [0]else if size=20 then [1,2]else []
def l9(size:Int)(c:Nat)(x:aL):List Slot:=(List.range x.dv.toNat).flatMap fun t:Nat=>(fk size).map fun h=>⟨(c:Int),(t:Int),h⟩
def slotsOf(cl:List aL)(size:Int):List Slot:=(cl.mapIdx (l9 size)).flatten
section
variable (cl:List aL) (vl:List bz) (boxes:List bw)
noncomputable def kq(a:List aH)(k c:Int)(l:List aH)(b:bw):List aH:=
 match wP a b.id with
 |some x=>if x.cm=c/\b.load<k/\k<b.discharge/\gC cl vl boxes (D3 l ⟨b.id,x⟩)then D3 l ⟨b.id,x⟩else l
 |none=>l
noncomputable def PG(a:List aH)(k b:Int)(l:List aH)(v:Nat):List aH:=(boxes.take v).foldl (kq cl vl boxes a k b) l
noncomputable def pS(a:List aH)(k:Int):Nat->List aH
 |0=>[]
 |t+1=>PG cl vl boxes a k (t:Int) (pS a k t) boxes.length
noncomputable def sf(l:List aH)(id:Int)(a:Int):List Slot->Option (List aH)
 |[]=>none
 |x::r=>if x.column=a/\gC cl vl boxes (D3 l ⟨id,x⟩)then some (D3 l ⟨id,x⟩)else sf l id a r
noncomputable def iK(l:List aH)(id size a:Int):Nat->Option (List aH)
 |0=>none
 |t+1=>match iK l id size a t with
  |some r=>some r
  |none=>sf cl vl boxes l id ((a+t)%cl.length) (slotsOf cl size)
noncomputable def pU(a:Int->Int)(k:Int)(l:List aH)(b:bw):List aH⊕Int:=
 if k<b.load\/b.discharge<=k\/Gk l b.id then .inl l
 else match iK cl vl boxes l b.id b.size (a b.id) cl.length with
  |some r=>.inl r
  |none=>.inr b.id
noncomputable def iI(a:Int->Int)(k:Int)(l:List aH):Nat->List aH⊕Int
 |0=>.inl l
 |v+1=>match iI a k l v,boxes[v]? with
  |.inl c,some b=>pU cl vl boxes a k c b
  |.inl c,none=>.inl c
  |.inr e,_=>.inr e
noncomputable def Kj(a:Int->Int)(b:List aH)(k:Int):List aH⊕Int:=iI cl vl boxes a k (pS cl vl boxes b k 10) boxes.length
noncomputable def fj(a:Int->Int):Nat->List (List aH)⊕Int
 |0=>.inl []
 |k+1=>match fj a k with
  |.inl L=>(match Kj cl vl boxes a (L.getLastD []) (k:Int)with
   |.inl l=>.inl (L++[l])
   |.inr e=>.inr e)
  |.inr e=>.inr e
end
noncomputable def xF(cl:List aL)(vl:List bz)(boxes:List bw)(b:Int->Int)(a:Nat):List (List aH)×Int:=
 match fj cl vl boxes b a with
 |.inl L=>(L,0)
 |.inr e=>([],e)
noncomputable def rounds(cl:List aL)(vl:List bz)(c:Int->Int)(a:Nat):Nat->List bw->List bw×List (List aH)
 |0,_=>([],List.replicate a [])
 |n+1,boxes=>if(xF cl vl boxes c a).2=0 then(boxes,(xF cl vl boxes c a).1)else rounds cl vl c a n (boxes.filter fun b=>decide (b.id≠(xF cl vl boxes c a).2))
end
theorem Zx{n:Int}(a:0<=n)(b:n<256):IntKind.wrap .u8 n=n:=by have c:(2:Int)^IntKind.u8.bits=256:=by{decide};unfold IntKind.wrap;simp only[c];rw[Int.emod_eq_of_lt a b,if_neg (by simp[IntKind.signed])]
open Classical
variable {cl:List aL} {vl:List bz} {α:Type}
abbrev Key:=Int×Int×Int
variable {k:Key} {ks:List Key} {m r:List (Key×Nat)} {x:Key×Nat}
def ic(k:Key):List PV:=[.int .i64 k.1,.int .i64 k.2.1,.int .i64 k.2.2]
def Ae(x:Key×Nat):List PV:=[.int .i64 x.1.1,.int .i64 x.1.2.1,.int .i64 x.1.2.2,.int .i64 (Int.ofNat x.2)]
def eh(m:List (Key×Nat)):List (List PV):=m.map Ae
def bump:List (Key×Nat)->Key->List (Key×Nat)
 |[],k=>[(k,1)]
 |(a,n)::r,k=>if k=a then(a,n+1)::r else(a,n)::bump r k
def sG:List (Key×Nat)->Key->Nat
 |[],_=>0
 |(a,n)::r,k=>if k=a then n else sG r k
def jm(a:List Key):List (Key×Nat):=a.foldl bump []
theorem Jh(a:List Key)(k:Key):jm (a++[k])=bump (jm a) k:=by grind[jm]
theorem F6(k:Key)(x:Key×Nat):JK (ic k) ((Ae x).take 3)=decide (k=x.1):=by grind[ic,Ae,JK]
theorem ak5{k:Key}:∀{m:List (Key×Nat)},aF.xJ 3 (eh m) (ic k) [.int .i64 0]=.int .i64 (Int.ofNat (sG m k))
|[]=>by rfl
|(b,n)::r=>by have a:=ak5 (k:=k) (m:=r);simp only[aF,jy,eh,List.map_cons,List.find?_cons,F6]at a ⊢;grind[sG,Ae]
theorem EG(f:α->α)(a:α)(l:List α)(i:Nat):(a::l).modify (i+1) f=a::l.modify i f:=by simp
theorem Cn:dQ 3 (eh (x::r)) (ic k)=(decide (k=x.1)||dQ 3 (eh r) (ic k)):=by grind[dQ,eh,F6]
theorem DY:fb 3 (eh (x::r)) (ic k)=if k=x.1 then 0 else fb 3 (eh r) (ic k)+1:=by grind[fb,eh,F6]
def setRow(rows:List (List PV))(k:Key)(n:Nat):List (List PV):=((match dQ 3 rows (ic k)with|true=>rows|false=>rows++[ic k++[PV.int .i64 0]]).modify (fb 3 rows (ic k)) (fun r=>r.take 3++[PV.int .i64 (Int.ofNat n)]))
theorem yJ{k:Key}:∀{m:List (Key×Nat)},setRow (eh m) k (sG m k+1)=eh (bump m k)
|[]=>by rfl
|(a,n)::r=>by have b:=yJ (k:=k) (m:=r);unfold setRow at b ⊢;rw[Cn,DY];by_cases h:k=a;{grind[bump,sG,eh,Ae]};simp only[h,decide_false,Bool.false_or,if_false,sG,bump];have c:(match dQ 3 (eh r) (ic k)with|true=>eh ((a,n)::r)|false=>eh ((a,n)::r)++[ic k++[PV.int .i64 0]])=Ae (a,n)::(match dQ 3 (eh r) (ic k)with|true=>eh r|false=>eh r++[ic k++[PV.int .i64 0]]):=by{grind[eh]};refine Eq.trans (congrArg (fun z=>List.modify z _ _) c) ?_;rw[EG,b];rfl
theorem Vk:aF.PT 3 (aF.sK 3 (eh m) (ic k) [.int .i64 0]) (aF.mix 3 (eh m) (ic k)) [.int .i64 (Int.ofNat (sG m k+1))]=eh (bump m k):=yJ
theorem aaW:aF.CZ [1,1,1] 3 (eh m) (ic k):=by refine⟨rfl,by simp[aR,ic],fun r a=>?_⟩;obtain⟨x,_,rfl⟩:=List.mem_map.1 a;simp[aR,ic,Ae]
theorem aaX:aF.min1 (aF.mix 3 (eh m) (ic k)) (aF.sK 3 (eh m) (ic k) [.int .i64 0]):=by grind[aF,dQ,fb]
theorem Co{k k':Key}:∀{m:List (Key×Nat)},sG (bump m k) k'=sG m k'+if k'=k then 1 else 0
|[]=>by simp[bump,sG]
|(q,n)::r=>by have a:=Co (k:=k) (k':=k') (m:=r);grind[bump,sG]
theorem JI{k:Key}:∀{m:List (Key×Nat)},(bump m k).map Prod.fst=if k∈m.map Prod.fst then m.map Prod.fst else m.map Prod.fst++[k]
|[]=>by simp[bump]
|(q,n)::r=>by have a:=JI (k:=k) (m:=r);grind[bump]
theorem Af{motive:List α->Prop}(b:motive [])(c:∀l a,motive l->motive (l++[a]))(l:List α):motive l:=by rw[<-List.reverse_reverse l];induction l.reverse with|nil=>exact b|cons a r d=>simp_all
theorem tf:∀{a:List Key},sG (jm a) k=a.count k:=by intro a;refine Af (motive:=fun a=>sG (jm a) k=List.count k a) ?_ (fun a q b=>?_) a;{rfl};grind[Jh,Co]
theorem Hj:∀{a:List Key},((jm a).map Prod.fst).Nodup:=by intro a;refine Af (motive:=fun a=>((jm a).map Prod.fst).Nodup) ?_ (fun a q b=>?_) a;{simp[jm]};grind[Jh,JI]
theorem F7{x:Key×Nat}:∀{m:List (Key×Nat)},(m.map Prod.fst).Nodup->x∈m->sG m x.1=x.2
|[],_,h=>by grind
|(q,n)::r,a,h=>by simp only[List.map_cons,List.nodup_cons]at a;rcases List.mem_cons.1 h with h|h;{grind[sG]};have:x.1≠q:=fun e=>a.1 (e▸List.mem_map_of_mem h);simp[sG,if_neg this];exact F7 a.2 h
theorem F8{k:Key}:∀{m:List (Key×Nat)},0<sG m k->(k,sG m k)∈m
|[],h=>by grind[sG]
|(q,n)::r,h=>by simp only[sG]at h ⊢;by_cases e:k=q;{simp_all};simp only[if_neg e]at h ⊢;exact List.mem_cons_of_mem _ (F8 h)
theorem once:(∀x∈jm ks,x.2<=1)↔ks.Nodup:=by rw[List.nodup_iff_count];constructor;{intro h k;rw[<-tf];grind[F8]};intro h x a;rw[<-F7 Hj a,tf];simp_all
theorem Vl:sG (jm ks) k<=ks.length:=by grind[tf]
def mC(x:aL):Key:=(x.bay,x.row,if x.deck then 1 else 0)
def j7(x:bz):List Key:=x.rows.map fun r=>(x.bay,r,2)
theorem yK{a b:aL}:mC a≠mC b↔Je a b:=by grind[mC,Je]
theorem DZ:(cl.map mC).Nodup↔∀i,(h:i<cl.length)->∀k,(a:k<i)->Je cl[k] cl[i]:=by grind[List.pairwise_iff_getElem,yK]
theorem rising{x:bz}(h:∀i,i<x.rows.length->qA x i):∀(j i:Nat),i<j->j<x.rows.length->x.rows.getD i 0<x.rows.getD j 0
|0,i,a,_=>by omega
|j+1,i,a,b=>by have c:=(h (j+1) b).2.2;simp only[Nat.add_sub_cancel]at c;by_cases e:i=j;{simp_all};have:=rising h j i (by omega) (by omega);omega
theorem rows_nodup{x:bz}(h:∀i,i<x.rows.length->qA x i):x.rows.Nodup:=by unfold List.Nodup;rw[List.pairwise_iff_getElem];intro i j c a b e;have:=rising h j i b a;simp_all
theorem Ec(e:∀i,(h:i<vl.length)->iM vl[i]):(vl.flatMap j7).Nodup↔∀i,(h:i<vl.length)->∀k,(d:k<i)->vl[k].bay=vl[i].bay->∀r,r∈vl[i].rows->r∉vl[k].rows:=by unfold List.Nodup;rw[List.pairwise_flatMap,List.pairwise_iff_getElem];constructor;{rintro⟨-,h⟩ i c k d f r j l;have:=h k i (by omega) c d (vl[k].bay,r,2) (by grind[j7]) (vl[i].bay,r,2) (by grind[j7]);simp_all};intro h;refine⟨fun x g=>?_,fun k i d c m a n b f=>?_⟩;{obtain⟨i,c,rfl⟩:=List.getElem_of_mem g;have:=rows_nodup (e i c).2.2;grind[j7]};grind[j7]
def gB(cl:List aL)(vl:List bz):List Key:=cl.map mC++vl.flatMap j7
theorem D1(b:∀i,(h:i<vl.length)->iM vl[i]):(gB cl vl).Nodup↔(∀i,(h:i<cl.length)->∀k,(a:k<i)->Je cl[k] cl[i])/\∀i,(h:i<vl.length)->∀k,(a:k<i)->vl[k].bay=vl[i].bay->∀r,r∈vl[i].rows->r∉vl[k].rows:=by unfold gB;grind[DZ,Ec,j7,mC]
theorem J2(hl:1<=cl.length/\cl.length<=200/\vl.length<=40)(a:∀i,(h:i<cl.length)->fX cl[i])(b:∀i,(h:i<vl.length)->iM vl[i]):aA cl vl↔(gB cl vl).Nodup:=by grind[D1,aA]
end Go.bt
