import Derived.Lib.AtoiAll
import Derived.Lib.Split
import Derived.Lib.Strings
import Derived.Test.YtjclmfaodngbfaaGreatDoorT11
import Derived.Test.YtjclmfaodngbfaaGreatDoorT13
import Derived.Test.YtjclmfaodngbfaaGreatDoorT07
set_option linter.all false
set_option maxRecDepth 100000
set_option maxHeartbeats 1000000
namespace Go.bt
open Go Go.Am
open Classical
variable {cl:List aL} {vl:List bz} {l:List aH} {a:List (List UInt8)} {acc:List aH} {b bay:Int} {c:Nat} {d:List aH} {k:Nat} {m:List aH} {n:Int} {s:List UInt8} {size t:Int} {x:Slot} {y:aH}
def pR(n:Int):List Int->List Int
 |[]=>[n]
 |x::r=>if x<n then x::pR n r else if x=n then x::r else n::x::r
def zJ(l:List Int):List Int:=l.foldl (fun a n=>pR n a) []
def lL(l:List Int):Prop:=l.Pairwise (·<·)
theorem Ca{m:Int}{l:List Int}:m∈pR n l↔m=n\/m∈l:=by induction l with|nil=>simp[pR]|cons x r a=>unfold pR;split;{simp only[List.mem_cons,a];grind};split;{rename_i h;subst h;simp};simp
theorem Cb{l:List Int}(h:lL l):lL (pR n l):=by induction l with|nil=>simp[pR,lL]|cons x r c=>obtain⟨b,d⟩:=List.pairwise_cons.1 h;unfold pR;split;{refine List.pairwise_cons.2 ⟨fun y a=>?_,c d⟩;rcases Ca.1 a with rfl|a;{assumption};exact b y a};split;{exact h};refine List.pairwise_cons.2 ⟨fun y a=>?_,h⟩;rcases List.mem_cons.1 a with rfl|a;{omega};have:=b y a;omega
theorem vX{l:List Int}:∀{a:List Int},lL a->lL (l.foldl (fun a n=>pR n a) a)/\∀m,m∈l.foldl (fun a n=>pR n a) a↔m∈a\/m∈l:=by induction l with|nil=>intro a h;exact⟨h,by simp⟩|cons x r b=>intro a h;obtain⟨c,d⟩:=b (Cb (n:=x) h);refine⟨c,fun m=>?_⟩;rw[List.foldl_cons,d,Ca,List.mem_cons];grind
theorem tY(l:List Int):lL (zJ l):=(vX (a:=[]) .nil).1
theorem vY{l:List Int}{m:Int}:m∈zJ l↔m∈l:=by have:=(vX (l:=l) (a:=[]) .nil).2 m;simpa[zJ]using this
theorem Ed{a b:List Int}(i:lL a)(j:lL b)(h:∀m,m∈a↔m∈b):a=b:=by induction a generalizing b with|nil=>{cases b with|nil=>rfl|cons y s=>have:=(h y).2 (by simp);simp at this}|cons x r k=>cases b with|nil=>have:=(h x).1 (by simp);simp at this|cons y s=>obtain⟨f,l⟩:=List.pairwise_cons.1 i;obtain⟨g,n⟩:=List.pairwise_cons.1 j;have e:x=y:=by{have p:=(h x).1 (by simp);have q:=(h y).2 (by simp);rcases List.mem_cons.1 p with p|p;{exact p};rcases List.mem_cons.1 q with q|q;{exact q.symm};have:=f y q;have:=g x p;omega};subst e;congr 1;refine k l n fun m=>⟨fun c=>?_,fun c=>?_⟩;{rcases List.mem_cons.1 ((h m).1 (List.mem_cons_of_mem _ c))with rfl|d;{have:=f m c;omega};exact d};rcases List.mem_cons.1 ((h m).2 (List.mem_cons_of_mem _ c))with rfl|d;{have:=g m c;omega};exact d
def a7(cl:List aL):List Int:=zJ (cl.map (·.bay))
def rowsOf(cl:List aL)(a:Int):List Int:=zJ ((cl.filter fun c=>decide (c.bay=a)).map (·.row))
theorem fG:n∈a7 cl↔∃c∈cl,c.bay=n:=by simp[a7,vY]
theorem lN{a:Int}:n∈rowsOf cl a↔∃c∈cl,c.bay=a/\c.row=n:=by simp[rowsOf,vY,and_assoc]
def six(n:Int):List UInt8:=List.replicate (6-(digits n.toNat).length) 46++digits n.toNat
def bc(l:List aH)(x:Slot):Int:=match l.find? (fun y=>decide (y.slot.column=x.column/\y.slot.cm=x.cm/\y.slot.half=x.half))with
 |some y=>y.box
 |none=>0
def sizeOf(a:Int):Int:=if a=0 then 40 else 20
def wa(cl:List aL)(l:List aH)(i:Nat):Prop:=∀h:i<l.length,(1<=l[i].box/\l[i].box<=999999)/\b9 cl l[i].slot (sizeOf l[i].slot.half)/\∀k,(a:k<i)->l[k].box<l[i].box/\¬zV l[k].slot l[i].slot
def ak(cl:List aL)(vl:List bz)(l:List aH):Prop:=aA cl vl/\∀i,i<l.length->wa cl l i
def ki(n:Int):List UInt8:=if 0<n then six n else List.replicate 6 46
def jb(l:List aH)(c t:Int):List UInt8:=
 if 0<bc l ⟨c,t,0⟩then [61,61]++six (bc l ⟨c,t,0⟩)++[61,61,61,61,61]
 else ki (bc l ⟨c,t,1⟩)++[47]++ki (bc l ⟨c,t,2⟩)
def di(cl:List aL)(b row:Int)(a:Bool):Option Nat:=cl.findIdx? fun c=>decide (c.bay=b/\c.row=row/\c.deck=a)
def qK(cl:List aL)(l:List aH)(b row t:Int)(a:Bool):List UInt8:=
 match di cl b row a with
 |none=>List.replicate 13 35
 |some c=>match cl[c]? with
  |none=>List.replicate 13 35
  |some x=>if x.dv<=t then List.replicate 13 35 else jb l c t
def gD(a:List UInt8)(f:List (List UInt8)):List UInt8:=ja 32 (a::f)
def mD(cl:List aL)(b:Int)(a:Bool):Int:=cl.foldl (fun m c=>if c.bay=b/\c.deck=a then max m c.dv else m) 0
def jc(cl:List aL)(l:List aH)(b:Int)(a:Bool)(t:Nat):List UInt8:=gD ((if a then 100 else 104)::digits t) ((rowsOf cl b).map fun row=>qK cl l b row t a)
def eb(cl:List aL)(l:List aH)(b:Int)(a:Bool):List (List UInt8):=((List.range (mD cl b a).toNat).reverse).map (jc cl l b a)
def covered(vl:List bz)(a row:Int):Bool:=vl.any fun c=>decide (c.bay=a)&&decide (row∈c.rows)
def ar(cl:List aL)(vl:List bz)(l:List aH)(a:Int):List (List UInt8):=
 [[98,97,121,32]++digits a.toNat,gD [114,114] ((rowsOf cl a).map fun row=>List.replicate 7 46++six row)]++eb cl l a true++
  [gD [99,99] ((rowsOf cl a).map fun row=>List.replicate 13 (if covered vl a row then 45 else 58))]++eb cl l a false
noncomputable def gP(cl:List aL)(vl:List bz)(l:List aH)(a:Int):List (List UInt8)×Int:=
 if ¬ak cl vl l then([],2)else if a∉a7 cl then([],6)else(ar cl vl l a,0)
def mX(cl:List aL):List Slot:=slotsOf cl 40++slotsOf cl 20
theorem Cc(h:x∈slotsOf cl size):∃i,∃_:i<cl.length,∃t:Nat,(t:Int)<cl[i].dv/\x.half∈fk size/\x.column=i/\x.cm=t:=by obtain⟨l,a,b⟩:=List.mem_flatten.1 h;obtain⟨i,c,rfl⟩:=List.mem_mapIdx.1 a;obtain⟨t,d,e⟩:=List.mem_flatMap.1 b;obtain⟨y,f,rfl⟩:=List.mem_map.1 e;have g:=List.mem_range.1 d;exact⟨i,c,t,by omega,f,rfl,rfl⟩
theorem pd(a:size=40\/size=20)(h:x∈slotsOf cl size):b9 cl x size/\sizeOf x.half=size/\0<=x.half/\x.half<3:=by obtain⟨i,f,t,b,c,d,e⟩:=Cc h;unfold b9 sizeOf;refine⟨⟨⟨by omega,by omega,by omega,fun h=>?_⟩,?_⟩,?_,?_⟩;{simp only[d,e,Int.toNat_natCast];exact b};all_goals rcases a with rfl|rfl<;>simp[fk]at c<;>omega
theorem wb(h:x∈mX cl):b9 cl x (sizeOf x.half)/\0<=x.half/\x.half<3:=by rcases List.mem_append.1 h with h|h;{obtain⟨a,b,c⟩:=pd (.inl rfl) h;rw[b];exact⟨a,c⟩};obtain⟨a,b,c⟩:=pd (.inr rfl) h;rw[b];exact⟨a,c⟩
noncomputable def wc(a:List Slot)(s:List aH×Int)(i:Nat)(n:Int):List aH×Int:=
 match a[((n*(i+1))%a.length).toNat]? with
 |none=>s
 |some x=>if ∃y∈s.1,zV x y.slot then s else(s.1++[⟨s.2+(1+n*n/2),x⟩],s.2+(1+n*n/2))
noncomputable def er(a:List Slot)(l:List Int):Nat->List aH×Int
 |0=>([],0)
 |v+1=>match l[v]? with
  |none=>er a l v
  |some n=>wc a (er a l v) v n
noncomputable def iB(cl:List aL)(l:List Int):List aH:=(er (mX cl) l (min l.length 30)).1
theorem nW{a b:Slot}:zV a b↔zV b a:=by unfold zV pj;grind
structure JQ(all:List Slot)(s:List aH×Int)(v:Nat):Prop where
 len:s.1.length<=v
 low:0<=s.2
 high:s.2<=32513*v
 mem:∀x∈s.1,x.slot∈all/\1<=x.box/\x.box<=s.2
 pw:s.1.Pairwise fun x y=>x.box<y.box/\¬zV x.slot y.slot
theorem uN{all:List Slot}{l:List Int}(hl:∀n∈l,0<=n/\n<256):∀{v:Nat},JQ all (er all l v) v
|0=>⟨Nat.le_refl _,Int.le_refl _,Int.le_refl _,fun x d=>absurd d (by simp[er]),List.Pairwise.nil⟩
|v+1=>by have a:=uN (all:=all) hl (v:=v);have e:JQ all (er all l v) (v+1):=⟨by have:=a.len;omega,a.low,by have:=a.high;omega,a.mem,a.pw⟩;rw[er];split;{exact e};rename_i n f;obtain⟨g,rfl⟩:=List.getElem?_eq_some_iff.1 f;obtain⟨c,h⟩:=hl _ (List.getElem_mem g);generalize l[v]=n at c h;unfold wc;split;{exact e};rename_i x d;have i:=List.mem_of_getElem? d;split;{exact e};rename_i j;have q:n*n<=255*255:=Int.le_trans (Int.mul_le_mul_of_nonneg_right (by omega:n<=255) c) (by omega);have r:=Int.mul_nonneg c c;have s:n*n/2<=32512:=by{omega};have t:0<=n*n/2:=by{omega};have:=a.low;have:=a.high;refine⟨by simp only[List.length_append,List.length_singleton];have:=a.len;omega,by dsimp only;omega,by dsimp only;omega,fun y b=>?_,?_⟩;{rcases List.mem_append.1 b with b|b;{obtain⟨k,m,u⟩:=a.mem y b;exact⟨k,m,by dsimp only;omega⟩};rw[List.mem_singleton.1 b];exact⟨i,by dsimp only;omega,Int.le_refl _⟩};refine List.pairwise_append.2 ⟨a.pw,by simp,fun y b z o=>?_⟩;rw[List.mem_singleton.1 o];refine⟨?_,fun p=>j ⟨y,b,nW.1 p⟩⟩;have:=(a.mem y b).2.2;dsimp only;omega
theorem jw(a:aA cl vl)(b:∀x∈l,(1<=x.box/\x.box<=999999)/\b9 cl x.slot (sizeOf x.slot.half))(c:l.Pairwise fun x y=>x.box<y.box/\¬zV x.slot y.slot):ak cl vl l:=by refine⟨a,fun i g h=>?_⟩;obtain⟨d,e⟩:=b _ (List.getElem_mem h);exact⟨d,e,fun k f=>List.pairwise_iff_getElem.1 c k i (by omega) h f⟩
theorem b8:ak cl vl l↔aA cl vl/\(∀x∈l,(1<=x.box/\x.box<=999999)/\b9 cl x.slot (sizeOf x.slot.half))/\l.Pairwise fun x y=>x.box<y.box/\¬zV x.slot y.slot:=by refine⟨fun h=>⟨h.1,fun x c=>?_,?_⟩,fun h=>jw h.1 h.2.1 h.2.2⟩;{obtain⟨i,a,rfl⟩:=List.getElem_of_mem c;exact⟨(h.2 i a a).1,(h.2 i a a).2.1⟩};refine List.pairwise_iff_getElem.2 fun i j a b d=>?_;exact(h.2 j b b).2.2 i d
theorem xE{l:List Int}(a:aA cl vl)(hl:∀n∈l,0<=n/\n<256):ak cl vl (iB cl l):=by have h:=uN (all:=mX cl) hl (v:=min l.length 30);refine jw a (fun x b=>?_) h.pw;obtain⟨c,d,e⟩:=h.mem x b;have:=h.high;exact⟨⟨d,by omega⟩,(wb c).1⟩
def Om(l:List Int):List (List PV):=l.map fun n=>[.int .u8 n]
theorem KN{x:aL}(h:x.dv<=5):(l9 size c x).length<=10:=by have d:(fk size).length<=2:=by{unfold fk;split<;>(try split)<;>decide};have:∀l:List Nat,(l.flatMap fun t:Nat=>(fk size).map fun h=>(⟨(c:Int),(t:Int),h⟩:Slot)).length<=2*l.length:=fun l=>by{induction l with|nil=>simp|cons a l e=>simp only[List.flatMap_cons,List.length_append,List.length_map,List.length_cons];omega};have b:=this (List.range x.dv.toNat);rw[List.length_range]at b;unfold l9;omega
theorem Ox(b:∀x∈cl,x.dv<=5)(size:Int):(slotsOf cl size).length<=10*cl.length:=by have:∀(l:List aL) (f:Nat->Nat),(∀x∈l,x.dv<=5)->((l.mapIdx fun i x=>l9 size (f i) x).flatten).length<=10*l.length:=fun l=>by{induction l with|nil=>intro f _;simp|cons a l d=>intro f h;rw[List.mapIdx_cons];simp only[List.flatten_cons,List.length_append,List.length_cons];have g:=KN (size:=size) (c:=f 0) (h a (List.mem_cons_self ..));have j:=d (fun i=>f (i+1)) (fun x e=>h x (List.mem_cons_of_mem _ e));omega};exact this cl id b
theorem yB(b:cl≠[])(d:∀x∈cl,1<=x.dv)(e:fk size≠[]):slotsOf cl size≠[]:=by cases cl with|nil=>exact absurd rfl b|cons c r=>have f:=d c (List.mem_cons_self ..);unfold slotsOf;rw[List.mapIdx_cons,List.flatten_cons];intro h;have a:=(List.append_eq_nil_iff.1 h).1;unfold l9 at a;rw[List.flatMap_eq_nil_iff]at a;exact e (List.map_eq_nil_iff.1 (a 0 (List.mem_range.2 (by omega))))
theorem Cd{a:List Slot}{l:List Int}{v:Nat}(h:l[v]? =some n)(b:((n*((v:Int)+1))%(a.length:Int)).toNat=k)(c:a[k]? =some x): er a l (v+1)=if ∃y∈(er a l v).1,zV x y.slot then er a l v else((er a l v).1++[⟨(er a l v).2+(1+n*n/2),x⟩],(er a l v).2+(1+n*n/2)):=by rw[er,h];simp only[];unfold wc;rw[b,c]
theorem yC{n:Nat}:digits n=if n<10 then [UInt8.ofNat (48+n)]else digits (n/10)++[UInt8.ofNat (48+n%10)]:=by rw[digits];split<;>rfl
theorem zK(n:Nat):∀b∈digits n,48<=b.toNat/\b.toNat<=57:=by induction n using Nat.strongRecOn with|ind n c=>rw[yC];split;{intro b a;grind[UInt8.toNat_ofNat']};intro b a;rcases List.mem_append.1 a with a|a;{exact c (n/10) (by omega) b a};grind[UInt8.toNat_ofNat']
theorem On{n:Nat}:digits n≠[]:=by rw[yC];split<;>simp
theorem wj{n:Nat}(a:0<k)(h:n<10^k):(digits n).length<=k:=by induction k generalizing n with|zero=>omega|succ k b=>rw[yC];split;{simp};rename_i c;rcases Nat.eq_zero_or_pos k with rfl|a;{omega};rw[List.length_append];have:=b (n:=n/10) a (by rw[Nat.pow_succ]at h;omega);simp;omega
theorem yF{b:UInt8}:∀{l:List UInt8} {acc m:Nat},Lib.parseUint10 acc l=.ok m->Lib.parseUint10 acc (l++[b])=Lib.parseUint10 m [b]
|[],acc,m,h=>by grind[Lib.parseUint10]
|c::r,acc,m,h=>by simp[Lib.parseUint10]at h;rw[List.cons_append];rw[Lib.parseUint10];split at h;{rename_i a;split at h;{cases h};rename_i d;split at h;{cases h};rename_i e;rw[if_pos a,if_neg d,if_neg e];exact yF h};cases h
theorem yG{b:UInt8}{m:Nat}(a:48<=b.toNat/\b.toNat<=57)(c:m<10^18):Lib.parseUint10 m [b]=.ok (m*10+(b.toNat-48)):=by grind[Lib.parseUint10]
theorem TL(n:Nat)(h:n<10^18):Lib.parseUint10 0 (digits n)=.ok n:=by induction n using Nat.strongRecOn with|ind n a=>rw[yC];split;{grind[yG,UInt8.toNat_ofNat']};rw[yF (a (n/10) (by omega) (by omega)),yG (by grind[UInt8.toNat_ofNat']) (by omega),UInt8.toNat_ofNat'];grind
def Ce(s:List UInt8):Option Int:=match Lib.atoiAll s with
 |.ok v=>some v
 |_=>none
theorem tZ{n:Nat}(h:n<10^18):Ce (digits n)=some (n:Int):=by have b:=TL n h;have a:=zK n;have d:digits n≠[]:=On;unfold Ce Lib.atoiAll;generalize digits n=l at b a d;cases l with|nil=>simp_all|cons c r=>have e:=a c (by simp);grind[Lib.parseMag]
theorem kd(a:0<=n)(h:n<=999999):(six n).length=6:=by have:=wj (k:=6) (by omega) (n:=n.toNat) (by omega);simp[six];omega
def l5(s:List UInt8):List UInt8:=s.dropWhile (·==46)
theorem Gm:l5 (six n)=digits n.toNat:=by unfold l5 six;have h:∀k,(List.replicate k (46:UInt8)++digits n.toNat).dropWhile (·==46)=(digits n.toNat).dropWhile (·==46):=fun k=>by{induction k with|zero=>rfl|succ k a=>rw[List.replicate_succ,List.cons_append,List.dropWhile_cons_of_pos (by decide)];exact a};rw[h];have b:=zK n.toNat;have d:digits n.toNat≠[]:=On;cases hd:digits n.toNat with|nil=>simp_all|cons c r=>have:=b c (by simp[hd]);rw[List.dropWhile_cons_of_neg];intro h;have:c=46:=by{simpa using h};subst this;simp at*
theorem Ee:l5 (List.replicate k 46)=[]:=by unfold l5;induction k with|zero=>rfl|succ k a=>rw[List.replicate_succ,List.dropWhile_cons_of_pos (by decide)];exact a
def bq(c:UInt8):List UInt8->List (List UInt8)
 |[]=>[[]]
 |x::r=>if x=c then []::bq c r else match bq c r with
  |[]=>[[x]]
  |h::t=>(x::h)::t
theorem iL{c:UInt8}:bq c s≠[]:=by cases s with|nil=>simp[bq]|cons x r=>unfold bq;split;{simp};split<;>simp
theorem pV{c:UInt8}{a:List UInt8}(h:c∉a):bq c (a++s)=match bq c s with
  |[]=>[a]
  |x::t=>(a++x)::t:=by
 induction a with
 |nil=>cases hs:bq c s with
  |nil=>exact absurd hs iL
  |cons x t=>simp[hs]
 |cons y r b=>
  have d:y≠c:=fun e=>h (by simp[e])
  rw[List.cons_append,bq,if_neg d,b fun e=>h (by simp[e])]
  cases hs:bq c s with
  |nil=>exact absurd hs iL
  |cons x t=>simp
theorem wk{c:UInt8}{a:List UInt8}(h:c∉a):bq c a=[a]:=by have:=pV (s:=[]) h;simpa[bq]using this
theorem jG{c:UInt8}:∀{a:List UInt8} {l:List (List UInt8)},(∀x∈a::l,c∉x)->bq c (ja c (a::l))=a::l
|a,[],h=>by rw[ja];exact wk (h a (by simp))
|a,b::l,h=>by rw[ja];{rw[pV (h a (by simp)),bq,if_pos rfl,jG fun x d=>h x (List.mem_cons_of_mem _ d)];simp};simp
def l6(t:List UInt8)(c b a:Int):List aH:=match Ce (l5 t)with
 |some n=>[⟨n,⟨c,b,a⟩⟩]
 |none=>[]
def cu(f:List UInt8)(c a:Int):List aH:=
 if f.length≠13 then []else if f.take 2=[61,61]then l6 ((f.drop 2).take 6) c a 0 else l6 (f.take 6) c a 1++l6 (f.drop 7) c a 2
theorem yH{c h:Int}(a:0<=n)(b:n<=999999):l6 (six n) c t h=[⟨n,⟨c,t,h⟩⟩]:=by unfold l6;rw[Gm,tZ (by omega)];simp;omega
theorem Eh{c h:Int}:l6 (List.replicate 6 46) c t h=[]:=by unfold l6;rw[Ee];rfl
theorem ua{c h:Int}(a:0<=n)(b:n<=999999):l6 (ki n) c t h=if 0<n then [⟨n,⟨c,t,h⟩⟩]else []:=by unfold ki;split;{exact yH a b};exact Eh
theorem n7(a:n<=999999):(ki n).length=6:=by unfold ki;split;{exact kd (by omega) a};simp
theorem qz{c:Int}(d:∀x∈l,1<=x.box/\x.box<=999999):cu (jb l c t) c t= if 0<bc l ⟨c,t,0⟩then [⟨bc l ⟨c,t,0⟩,⟨c,t,0⟩⟩]else(if 0<bc l ⟨c,t,1⟩then [⟨bc l ⟨c,t,1⟩,⟨c,t,1⟩⟩]else [])++(if 0<bc l ⟨c,t,2⟩then [⟨bc l ⟨c,t,2⟩,⟨c,t,2⟩⟩]else []):=by have e:∀x,0<=bc l x/\bc l x<=999999:=fun x=>by{unfold bc;split;{rename_i y m;have:=d y (List.mem_of_find?_eq_some m);omega};omega};unfold jb;split;{rename_i u;have o:=kd (n:=bc l ⟨c,t,0⟩) (by omega) (e _).2;unfold cu;rw[if_neg (by simp[o]),if_pos (by simp)];have:((([61,61]++six (bc l ⟨c,t,0⟩)++[61,61,61,61,61]):List UInt8).drop 2).take 6=six (bc l ⟨c,t,0⟩):=by{show((six (bc l ⟨c,t,0⟩)++[61,61,61,61,61]):List UInt8).take 6=_;rw[List.take_append_of_le_length (by omega),List.take_of_length_le (by omega)]};rw[this];exact yH (by omega) (e _).2};have f:=n7 (e ⟨c,t,1⟩).2;have p:=n7 (e ⟨c,t,2⟩).2;have g:∀n:Int,∀b∈ki n,b=46\/(48<=b.toNat/\b.toNat<=57):=fun n b d=>by{unfold ki six at d;split at d;{rcases List.mem_append.1 d with d|d;{exact .inl (List.eq_of_mem_replicate d)};exact .inr (zK _ b d)};exact .inl (List.eq_of_mem_replicate d)};have q:=g (bc l ⟨c,t,1⟩);have i:=ua (c:=c) (t:=t) (h:=1) (e ⟨c,t,1⟩).1 (e ⟨c,t,1⟩).2;have j:=ua (c:=c) (t:=t) (h:=2) (e ⟨c,t,2⟩).1 (e ⟨c,t,2⟩).2;unfold cu;rw[<-i,<-j];clear i j g;generalize ki (bc l ⟨c,t,1⟩)=A at*;generalize ki (bc l ⟨c,t,2⟩)=B at*;have r:(A++[47]++B).take 6=A:=by{rw[List.append_assoc,List.take_append_of_le_length (by omega),List.take_of_length_le (by omega)]};have s:(A++[47]++B).drop 7=B:=by{rw[List.drop_append_of_le_length (by simp;omega),List.drop_of_length_le (by simp;omega)];rfl};rw[if_neg (by simp[f,p]),if_neg];{rw[r,s]};intro k;cases A with|nil=>simp at f|cons a A=>simp at k;have:=q a (by simp);rw[k.1]at this;simp at this
theorem ub{c:Int}:cu (List.replicate 13 35) c t=[]:=by unfold cu;rw[if_neg (by simp),if_neg (by decide)];rfl
theorem sB(j:∀x∈l,1<=x.box/\x.box<=999999)(m:l.Pairwise fun x y=>x.slot≠y.slot):(0<bc l x/\n=bc l x)↔(⟨n,x⟩:aH)∈l:=by have o:∀y∈l,y.slot=x->bc l x=y.box:=fun y d k=>by{induction l with|nil=>cases d|cons z r p=>obtain⟨f,g⟩:=List.pairwise_cons.1 m;unfold bc;rw[List.find?_cons];rcases List.mem_cons.1 d with rfl|d;{rw[k];simp};have q:z.slot≠x:=fun e=>f y d (e.trans k.symm);have i:decide (z.slot.column=x.column/\z.slot.cm=x.cm/\z.slot.half=x.half)=false:=by{refine decide_eq_false fun⟨a,b,c⟩=>q ?_;cases u:z.slot;cases x;simp_all};rw[i];exact p (fun w t=>j w (List.mem_cons_of_mem _ t)) g d};refine⟨fun⟨h,e⟩=>?_,fun h=>?_⟩;{unfold bc at h e;split at h;{rename_i y d;have f:=List.mem_of_find?_eq_some d;have g:=List.find?_some d;simp only[decide_eq_true_eq]at g;rw[e];have:y=⟨y.box,x⟩:=by{cases y;rename_i b s;cases s;cases x;simp_all};simp only[d];rw[<-this];exact f};omega};have f:=o _ h rfl;have g:=j _ h;dsimp only at f g;omega
def bY(cl:List aL)(d:Int)(e:List UInt8):List aH:=
 match bq 32 e with
 |[a,b]::fs=>if(a=100\/a=104)/\fs.length=(rowsOf cl d).length then((rowsOf cl d).zip fs).flatMap fun x=>match di cl d x.1 (a==100)with
  |some c=>cu x.2 c ((b-48).toNat:Int)
  |none=>[]else []
 |_=>[]
theorem zL{α β:Type}(f:α->β)(l:List α):l.zip (l.map f)=l.map fun x=>(x,f x):=by induction l with|nil=>rfl|cons a l b=>simp[b]
theorem Ei{g row:Int}{d:Bool}:(32:UInt8)∉qK cl l g row t d:=by have i:∀n:Int,∀b∈six n,b≠32:=fun n b c=>by{unfold six at c;rcases List.mem_append.1 c with c|c;{rw[List.eq_of_mem_replicate c];decide};have:=zK _ b c;intro e;subst e;simp at this};have f:∀n:Int,∀b∈ki n,b≠32:=fun n b c=>by{unfold ki at c;split at c;{exact i _ b c};rw[List.eq_of_mem_replicate c];decide};have h:∀b∈List.replicate 13 (35:UInt8),b≠32:=fun b c=>by{rw[List.eq_of_mem_replicate c];decide};intro a;unfold qK at a;split at a;{exact h _ a rfl};split at a;{exact h _ a rfl};split at a;{exact h _ a rfl};unfold jb at a;split at a;{simp only[List.mem_append]at a;rcases a with(a|a)|a;{simp at a};{exact i _ _ a rfl};simp at a};simp only[List.mem_append]at a;rcases a with(a|a)|a;{exact f _ _ a rfl};{simp at a};exact f _ _ a rfl
theorem Gn{a:Bool}{t:Nat}(e:t<10):bY cl b (jc cl l b a t)=(rowsOf cl b).flatMap fun row=>match di cl b row a with
  |some c=>cu (qK cl l b row t a) c t
  |none=>[]:=by
 have g:digits t=[UInt8.ofNat (48+t)]:=by rw[yC,if_pos e]
 have h:∀d:Bool,(((if d then 100 else 104:UInt8)==100)=d):=by decide
 have i:((UInt8.ofNat (48+t)-48).toNat:Int)=t:=by
  have:∀t:Fin 10,((UInt8.ofNat (48+t.1)-48).toNat:Int)=t.1:=by decide
  exact this ⟨t,e⟩
 unfold bY jc gD;rw[jG,g]
 ·simp only[List.length_map];rw[if_pos ⟨by cases a<;>simp,trivial⟩,zL,List.flatMap_map]
  congr 1
  funext row
  rw[h,i]
 ·intro x f
  rcases List.mem_cons.1 f with rfl|f
  ·rw[g]
   have:∀t:Fin 10,(32:UInt8)≠UInt8.ofNat (48+t.1):=by decide
   have:=this ⟨t,e⟩;dsimp only at this;generalize UInt8.ofNat (48+t)=z at this
   cases a<;>simp[this]
  ·obtain⟨row,-,rfl⟩:=List.mem_map.1 f;exact Ei
theorem Nr{a:Int}{f:List (List UInt8)}(h:∀x∈f,(32:UInt8)∉x):bY cl a (gD [99,99] f)=[]:=by unfold bY gD;rw[jG];{simp};intro x b;rcases List.mem_cons.1 b with rfl|b;{decide};exact h x b
def Ou(cl:List aL)(x:aH)(b:Int)(a:Bool):Prop:=∃c,cl[x.slot.column.toNat]? =some c/\c.bay=b/\c.deck=a
theorem eA(f:aA cl vl){d row:Int}{a:Bool}:di cl d row a=some c↔∃x,cl[c]? =some x/\x.bay=d/\x.row=row/\x.deck=a:=by unfold di;rw[List.findIdx?_eq_some_iff_getElem];constructor;{rintro⟨h,b,-⟩;simp only[decide_eq_true_eq]at b;exact⟨cl[c],by rw[List.getElem?_eq_getElem h],b⟩};rintro⟨x,g,b⟩;obtain⟨h,rfl⟩:=List.getElem?_eq_some_iff.1 g;refine⟨h,by simpa using b,fun j i=>?_⟩;have:=(f.2.1 c h).2 j i;unfold Je at this;simp only[decide_eq_true_eq];intro e;exact this ⟨e.1.trans b.1.symm,e.2.1.trans b.2.1.symm,e.2.2.trans b.2.2.symm⟩
theorem wm(c:ak cl vl l):(∀x∈l,1<=x.box/\x.box<=999999)/\(l.Pairwise fun x y=>x.slot≠y.slot)/\∀x∈l,0<=x.slot.half/\x.slot.half<3:=by obtain⟨-,b,d⟩:=b8.1 c;refine⟨fun x a=>(b x a).1,d.imp fun{x y} h e=>h.2 (by rw[e];exact⟨rfl,rfl,.inl rfl⟩),fun x a=>?_⟩;have:=(b x a).2.2;omega
theorem wo(m:ak cl vl l){c:Int}:y∈cu (jb l c t) c t↔y∈l/\y.slot.column=c/\y.slot.cm=t:=by obtain⟨o,v,w⟩:=wm m;have z:=(b8.1 m).2.2;have d:=fun n x=>sB (x:=x) o v (n:=n);have A:∀x∈l,∀y∈l,zV x.slot y.slot->x=y:=fun x B y C p=>by{obtain⟨i,q,rfl⟩:=List.getElem_of_mem B;obtain⟨j,r,rfl⟩:=List.getElem_of_mem C;have f:=List.pairwise_iff_getElem.1 z;rcases Nat.lt_trichotomy i j with h|rfl|h;{exact absurd p (f i j q r h).2};{rfl};exact absurd (nW.1 p) (f j i r q h).2};rw[qz o];have key:∀a:Int,y∈(if 0<bc l ⟨c,t,a⟩then [(⟨bc l ⟨c,t,a⟩,⟨c,t,a⟩⟩:aH)]else [])↔y∈l/\y.slot=⟨c,t,a⟩:=fun a=>by{constructor;{intro h;split at h;{rename_i b;rw[List.mem_singleton.1 h];exact⟨(d _ _).1 ⟨b,rfl⟩,rfl⟩};cases h};rintro⟨D,u⟩;obtain⟨n,s⟩:=y;dsimp only at u;subst u;obtain⟨b,E⟩:=(d n _).2 D;rw[if_pos b,E];simp};split;{rename_i b;have:=key 0;rw[if_pos b]at this;rw[this];refine⟨fun⟨h,e⟩=>⟨h,by rw[e],by rw[e]⟩,fun⟨h,g,k⟩=>⟨h,?_⟩⟩;have F:=(d _ _).1 ⟨b,rfl⟩;have:=A _ F y h ⟨g.symm,k.symm,.inr (.inl rfl)⟩;rw[<-this]};rename_i b;rw[List.mem_append,key,key];constructor;{rintro(⟨h,e⟩|⟨h,e⟩)<;>exact⟨h,by rw[e],by rw[e]⟩};rintro⟨h,g,k⟩;have f:=w y h;obtain⟨n,⟨G,H,a⟩⟩:=y;dsimp only at g k f;subst g k;have:a=0\/a=1\/a=2:=by{omega};rcases this with rfl|rfl|rfl;{exact absurd ((d n _).2 h).1 b};{exact .inl ⟨h,rfl⟩};exact .inr ⟨h,rfl⟩
theorem zQ(a:ak cl vl l){c:Int}:(cu (jb l c t) c t).Nodup:=by obtain⟨b,-,-⟩:=wm a;rw[qz b];split;{simp};split<;>split<;>simp
theorem wq(f:aA cl vl){row:Int}{a:Bool}(d:di cl b row a=some c):∃x,cl[c]? =some x/\qK cl l b row t a=if x.dv<=t then List.replicate 13 35 else jb l c t:=by obtain⟨x,e,-⟩:=(eA f).1 d;refine⟨x,e,?_⟩;unfold qK;rw[d];simp only[e]
def Ch(cl:List aL)(l:List aH)(b:Int)(a:Bool)(t:Int):List aH:=(rowsOf cl b).flatMap fun row=>match di cl b row a with
  |some c=>cu (qK cl l b row t a) c t
  |none=>[]
theorem qB(f:ak cl vl l){row:Int}{a:Bool}:(y∈match di cl b row a with
  |some c=>cu (qK cl l b row t a) c t
  |none=>[])↔y∈l/\y.slot.cm=t/\∃c,cl[y.slot.column.toNat]? =some c/\c.bay=b/\c.row=row/\c.deck=a:=by
 have g:=f.1;have p:=(b8.1 f).2.1;constructor
 ·intro h;split at h
  ·rename_i c d;obtain⟨x,o,j⟩:=wq (l:=l) (t:=t) g d;rw[j]at h;split at h
   ·rw[ub]at h;cases h
   ·obtain⟨i,k,m⟩:=(wo f).1 h;obtain⟨q,n,r⟩:=(eA g).1 d;refine⟨i,m,q,?_,r⟩;rw[k];simpa using n
  ·cases h
 ·rintro⟨i,k,c,d,m⟩;have s:=(p y i).2.1
  have u:((y.slot.column.toNat:Nat):Int)=y.slot.column:=by omega
  have e:=(eA g (c:=y.slot.column.toNat)).2 ⟨c,d,m⟩;obtain⟨x,o,j⟩:=wq (l:=l) (t:=t) g e;simp only[e];rw[j]
  have v:x=c:=by rw[o]at d;exact Option.some.inj d
  obtain⟨w,z⟩:=List.getElem?_eq_some_iff.1 d;have:=s.2.2.2 w;rw[z]at this;rw[if_neg (by rw[v];omega)];exact(wo f).2 ⟨i,u.symm,k⟩
theorem od(j:ak cl vl l){a:Bool}:y∈Ch cl l b a t↔y∈l/\y.slot.cm=t/\Ou cl y b a:=by unfold Ch;rw[List.mem_flatMap];constructor;{rintro⟨row,-,h⟩;obtain⟨f,g,c,d,e,-,i⟩:=(qB j).1 h;exact⟨f,g,c,d,e,i⟩};rintro⟨f,g,c,d,e,i⟩;exact⟨c.row,lN.2 ⟨c,List.mem_of_getElem? d,e,rfl⟩,(qB j).2 ⟨f,g,c,d,e,rfl,i⟩⟩
theorem Cj(b:ak cl vl l){d:Int}{a:Bool}:(Ch cl l d a t).Nodup:=by unfold Ch;refine List.pairwise_flatMap.2 ⟨fun row _=>?_,?_⟩;{split;{rename_i c g;obtain⟨x,m,h⟩:=wq (l:=l) (t:=t) b.1 g;rw[h];split;{rw[ub];simp};exact zQ b};simp};refine(tY _).imp fun{n o} p y hy z i e=>?_;obtain⟨-,-,c,f,-,q,-⟩:=(qB b).1 hy;obtain⟨-,-,r,j,-,k,-⟩:=(qB b).1 i;rw[e,j]at f;cases f;omega
def uc(cl:List aL)(l:List aH)(b:Int)(a:Bool):List aH:=((List.range (mD cl b a).toNat).reverse).flatMap fun t:Nat=>Ch cl l b a (t:Int)
theorem lP{bay:Int}{deck:Bool}:∀{L:List aL} {m:Int},m<=L.foldl (fun m c=>if c.bay=bay/\c.deck=deck then max m c.dv else m) m/\(∀c∈L,c.bay=bay->c.deck=deck->c.dv<=L.foldl (fun m c=>if c.bay=bay/\c.deck=deck then max m c.dv else m) m)/\∀B,m<=B->(∀c∈L,c.dv<=B)->L.foldl (fun m c=>if c.bay=bay/\c.deck=deck then max m c.dv else m) m<=B
|[],m=>⟨Int.le_refl _,fun c a=>by simp at a,fun B h _=>h⟩
|x::L,m=>by rw[List.foldl_cons];obtain⟨b,g,i⟩:=lP (bay:=bay) (deck:=deck) (L:=L) (m:=if x.bay=bay/\x.deck=deck then max m x.dv else m);refine⟨?_,fun c a d e=>?_,fun B j f=>?_⟩;{refine Int.le_trans ?_ b;split<;>omega};{rcases List.mem_cons.1 a with rfl|a;{refine Int.le_trans ?_ b;rw[if_pos ⟨d,e⟩];omega};exact g c a d e};refine i B ?_ fun c a=>f c (List.mem_cons_of_mem _ a);have:=f x (by simp);split<;>omega
theorem og(f:ak cl vl l){a:Bool}:y∈uc cl l b a↔y∈l/\Ou cl y b a:=by unfold uc;rw[List.mem_flatMap];constructor;{rintro⟨t,-,h⟩;obtain⟨e,-,d⟩:=(od f).1 h;exact⟨e,d⟩};rintro⟨e,c,d,g,i⟩;have j:=((b8.1 f).2.1 y e).2.1;obtain⟨k,n⟩:=List.getElem?_eq_some_iff.1 d;have o:=j.2.2.2 k;rw[n]at o;have p:=(lP (bay:=b) (deck:=a) (L:=cl) (m:=0)).2.1 c (List.mem_of_getElem? d) g i;refine⟨y.slot.cm.toNat,?_,(od f).2 ⟨e,by omega,c,d,g,i⟩⟩;rw[List.mem_reverse,List.mem_range];unfold mD;omega
theorem ud(b:ak cl vl l){c:Int}{a:Bool}:(uc cl l c a).Nodup:=by unfold uc;refine List.pairwise_flatMap.2 ⟨fun t _=>Cj b,?_⟩;refine List.pairwise_reverse.2 (List.nodup_range.imp fun{t1 t2} d y hy z f e=>?_);have g:=((od b).1 hy).2.1;have h:=((od b).1 f).2.1;rw[e]at g;exact d (by omega)
def Ck(cl:List aL)(l:List aH)(a:Int):List aH:=uc cl l a true++uc cl l a false
def JR(cl:List aL)(x:aH)(a:Int):Prop:=∃c,cl[x.slot.column.toNat]? =some c/\c.bay=a
theorem JS(f:ak cl vl l){a:Int}:y∈Ck cl l a↔y∈l/\JR cl y a:=by unfold Ck;rw[List.mem_append,og f,og f];constructor;{rintro(⟨b,c,d,e,-⟩|⟨b,c,d,e,-⟩)<;>exact⟨b,c,d,e⟩};rintro⟨b,c,d,e⟩;cases g:c.deck;{exact .inr ⟨b,c,d,e,g⟩};exact .inl ⟨b,c,d,e,g⟩
theorem Ek(b:ak cl vl l){d:Int}:(Ck cl l d).Nodup:=by refine List.nodup_append.2 ⟨ud b,ud b,fun y h z i e=>?_⟩;obtain⟨-,c,g,-,j⟩:=(og b).1 h;obtain⟨-,k,f,-,a⟩:=(og b).1 i;rw[e,f]at g;cases g;rw[j]at a;cases a
theorem Cm(hl:l.Pairwise fun x y=>x.box<y.box)(a:m.Pairwise fun x y=>x.box<=y.box)(n:m.Nodup)(h:∀y,y∈m↔y∈l):m=l:=by have o:∀x∈l,∀y∈l,x.box=y.box->x=y:=fun x u y v e=>by{obtain⟨i,b,rfl⟩:=List.getElem_of_mem u;obtain⟨j,c,rfl⟩:=List.getElem_of_mem v;have d:=List.pairwise_iff_getElem.1 hl;rcases Nat.lt_trichotomy i j with h|rfl|h;{have:=d i j b c h;omega};{rfl};have:=d j i c b h;omega};have w:m.Pairwise fun x y=>x.box<y.box:=by{refine List.pairwise_iff_getElem.2 fun i j b c t=>?_;have g:=List.pairwise_iff_getElem.1 a i j b c t;have k:=List.pairwise_iff_getElem.1 n i j b c t;rcases Int.lt_or_eq_of_le g with f|f;{exact f};exact absurd (o _ ((h _).1 (List.getElem_mem b)) _ ((h _).1 (List.getElem_mem c)) f) k};clear a n o;induction m generalizing l with|nil=>{cases l with|nil=>rfl|cons y s=>have:=(h y).2 (by simp);simp at this}|cons x r z=>cases l with|nil=>have:=(h x).1 (by simp);simp at this|cons y s=>obtain⟨g,k⟩:=List.pairwise_cons.1 w;obtain⟨f,A⟩:=List.pairwise_cons.1 hl;have e:x=y:=by{rcases List.mem_cons.1 ((h x).1 (by simp))with p|p;{exact p};rcases List.mem_cons.1 ((h y).2 (by simp))with q|q;{exact q.symm};have:=g y q;have:=f x p;omega};subst e;congr 1;refine z A (fun m=>⟨fun a=>?_,fun a=>?_⟩) k;{rcases List.mem_cons.1 ((h m).1 (List.mem_cons_of_mem _ a))with rfl|d;{have:=g m a;omega};exact d};rcases List.mem_cons.1 ((h m).2 (List.mem_cons_of_mem _ a))with rfl|d;{have:=f m a;omega};exact d
noncomputable def fZ(cl:List aL)(vl:List bz)(a:List (List UInt8)):Option (Int×List aH×Nat):=
 match a with
 |[]=>none
 |x::_=>match Ce (Lib.trimPrefix x [98,97,121,32])with
  |none=>none
  |some bay=>if bay∉a7 cl then none else if a.length<(ar cl vl [] bay).length then none
   else some (bay,((a.take (ar cl vl [] bay).length).drop 2).flatMap (bY cl bay),(ar cl vl [] bay).length)
theorem db{a:Int}:(ar cl vl l a).length=3+(mD cl a true).toNat+(mD cl a false).toNat:=by unfold ar eb;simp only[List.length_append,List.length_cons,List.length_nil,List.length_map,List.length_reverse,List.length_range];omega
theorem Gp:(ar cl vl l bay).length=(ar cl vl m bay).length:=by rw[db,db]
theorem zT(b:aA cl vl){a:Int}(h:a∈a7 cl):0<=a/\a<=39:=by obtain⟨c,d,rfl⟩:=fG.1 h;obtain⟨i,e,rfl⟩:=List.getElem_of_mem d;exact(b.2.1 i e).1.2.1
theorem JT(b:aA cl vl){a row:Int}(h:row∈rowsOf cl a):0<=row/\row<=30:=by obtain⟨c,d,-,rfl⟩:=lN.1 h;obtain⟨i,e,rfl⟩:=List.getElem_of_mem d;exact(b.2.1 i e).1.2.2.1
theorem et(a:aA cl vl){deck:Bool}:0<=mD cl bay deck/\mD cl bay deck<=10:=by refine⟨(lP (L:=cl) (m:=0)).1,(lP (L:=cl) (m:=0)).2.2 10 (by omega) fun c b=>?_⟩;obtain⟨i,d,rfl⟩:=List.getElem_of_mem b;exact(a.2.1 i d).1.2.2.2.1.2
theorem wu(d:aA cl vl){a:Bool}:(eb cl l b a).flatMap (bY cl b)=uc cl l b a:=by unfold eb uc;rw[List.flatMap_map];have h:=(et d (bay:=b) (deck:=a)).2;refine congrArg List.flatten (List.map_congr_left fun t e=>?_);have c:t<10:=by{have:=List.mem_range.1 (List.mem_reverse.1 e);omega};exact Gn c
theorem Em(d:aA cl vl){a:Int}(g:a∈a7 cl){rest:List (List UInt8)}:fZ cl vl (ar cl vl l a++rest)=some (a,Ck cl l a,(ar cl vl l a).length):=by obtain⟨s,t⟩:=zT d g;have k:∀x∈(rowsOf cl a).map fun row=>List.replicate 13 (if covered vl a row then 45 else 58:UInt8),(32:UInt8)∉x:=fun x n o=>by{obtain⟨row,-,rfl⟩:=List.mem_map.1 n;have:=List.eq_of_mem_replicate o;split at this<;>simp at this};have b:Lib.trimPrefix (([98,97,121,32]:List UInt8)++digits a.toNat) [98,97,121,32]=digits a.toNat:=by{unfold Lib.trimPrefix Lib.hasPrefix;simp};have c:=Gp (cl:=cl) (vl:=vl) (l:=[]) (m:=l) (bay:=a);have i:ar cl vl l a=([98,97,121,32]++digits a.toNat)::gD [114,114] ((rowsOf cl a).map fun row=>List.replicate 7 46++six row)::(eb cl l a true++ gD [99,99] ((rowsOf cl a).map fun row=>List.replicate 13 (if covered vl a row then 45 else 58))::eb cl l a false):=by{unfold ar;simp};have p:(((ar cl vl l a++rest).take (ar cl vl l a).length).drop 2).flatMap (bY cl a)=Ck cl l a:=by{rw[List.take_left,i,List.drop_succ_cons,List.drop_succ_cons,List.drop_zero,List.flatMap_append,List.flatMap_cons,wu d,wu d,Nr k];rfl};have f:Ce (digits a.toNat)=some a:=by{rw[tZ (by omega)];simp;omega};have q:¬(ar cl vl l a++rest).length<(ar cl vl l a).length:=by{simp};(have r:∀(L:List (List UInt8)) (x:List UInt8) (j:List (List UInt8)),L=x::j->Ce (Lib.trimPrefix x [98,97,121,32])=some a->fZ cl vl L=if a∉a7 cl then none else if L.length<(ar cl vl [] a).length then none else some (a,((L.take (ar cl vl [] a).length).drop 2).flatMap (bY cl a),(ar cl vl [] a).length):=fun L x j e h=>by subst e;unfold fZ;simp only[h]);rw[r _ _ _ (by rw[i,List.cons_append]) (by rw[b];exact f),c,if_neg (by simpa using g),if_neg q,p]
noncomputable def readAll(cl:List aL)(vl:List bz):Nat->List (List UInt8)->Option (List aH)
 |0,_=>some []
 |n+1,lines=>if lines=[]then some []else match fZ cl vl lines with
  |none=>none
  |some (_,more,many)=>(readAll cl vl n (lines.drop many)).map (more++·)
theorem Cp{a:Int}:ar cl vl l a≠[]:=by unfold ar;simp
def e7(m l:List aH):Prop:=m.Perm l/\m.Pairwise fun x y=>x.box<=y.box
noncomputable def zU(cl:List aL)(l:List aH)(a:Int):List aH:=l.filter fun x=>decide (JR cl x a)
theorem zY(a:ak cl vl l)(h:m.Sublist l):ak cl vl m:=by obtain⟨b,c,d⟩:=b8.1 a;exact jw b (fun x e=>c x (h.subset e)) (d.sublist h)
theorem zZ(a:ak cl vl l):ak cl vl (zU cl l bay):=zY a List.filter_sublist
theorem En{a:Int}(b:ak cl vl l)(h:e7 m (Ck cl l a)):m=zU cl l a:=by refine Cm (((b8.1 b).2.2.imp fun h=>h.1).filter _) h.2 ((Ek b).perm h.1.symm) fun y=>(h.1.mem_iff).trans ?_;rw[JS b];simp[zU]
theorem z7{p:aH->Bool}(h:∀y∈l,y.slot=x->p y=true):bc (l.filter p) x=bc l x:=by have:∀y∈l,(p y&&decide (y.slot.column=x.column/\y.slot.cm=x.cm/\y.slot.half=x.half))=decide (y.slot.column=x.column/\y.slot.cm=x.cm/\y.slot.half=x.half):=fun y d=>by{cases hd:decide (y.slot.column=x.column/\y.slot.cm=x.cm/\y.slot.half=x.half);{simp};have e:=of_decide_eq_true hd;rw[h y d (by obtain⟨n,⟨a,b,c⟩⟩:=y;cases x;simp_all)];rfl};have f:l.find? (fun a=>p a&&decide (a.slot.column=x.column/\a.slot.cm=x.cm/\a.slot.half=x.half))=l.find? fun y=>decide (y.slot.column=x.column/\y.slot.cm=x.cm/\y.slot.half=x.half):=by{clear h;induction l with|nil=>rfl|cons a r g=>rw[List.find?_cons,List.find?_cons,this a (by simp),g fun y d=>this y (by simp[d])]};have e:(l.filter p).find? (fun y=>decide (y.slot.column=x.column/\y.slot.cm=x.cm/\y.slot.half=x.half))=l.find? fun y=>decide (y.slot.column=x.column/\y.slot.cm=x.cm/\y.slot.half=x.half):=by{rw[List.find?_filter,<-f];congr 1;funext a;cases p a<;>simp};unfold bc;rw[e]
theorem Gq(g:aA cl vl):ar cl vl (zU cl l b) b=ar cl vl l b:=by have i:∀{c:Nat} {x:aL} {t h:Int},cl[c]? =some x->x.bay=b->bc (zU cl l b) ⟨c,t,h⟩=bc l ⟨c,t,h⟩:=fun{c x t h} hc d=>z7 fun y _ e=>decide_eq_true ⟨x,by rw[e];simpa using hc,d⟩;have j:∀{row t:Int} {a:Bool},qK cl (zU cl l b) b row t a=qK cl l b row t a:=fun{row t a}=>by{cases hc:di cl b row a with|none=>unfold qK;rw[hc]|some c=>obtain⟨x,d,k,-⟩:=(eA g).1 hc;unfold qK jb;rw[hc];simp only[d,i d k]};have f:∀{a:Bool},eb cl (zU cl l b) b a=eb cl l b a:=fun{a}=>by{unfold eb;refine List.map_congr_left fun t _=>?_;unfold jc;simp only[j]};unfold ar;rw[f,f]
theorem Ns(l:List aH):∃m,e7 m l:=by refine⟨l.mergeSort fun x y=>decide (x.box<=y.box),List.mergeSort_perm _ _,?_⟩;have h:=List.pairwise_mergeSort (le:=fun(x y:aH)=>decide (x.box<=y.box)) (fun a b c d e=>by simp at d e ⊢;omega) (fun a b=>by simp;omega) l;exact h.imp fun h=>by simpa using h
theorem Cq{m':List aH}(h:e7 m l)(a:e7 m' l)(b:m.Pairwise fun x y=>x.box<y.box):m'=m:=by have c:m.Nodup:=b.imp fun h e=>by{rw[e]at h;omega};exact Cm b a.2 ((List.Perm.nodup_iff (a.1.trans h.1.symm)).2 c) fun y=>(a.1.mem_iff).trans h.1.mem_iff.symm
noncomputable def wv(l:List aH)(p:List aH->Prop):Option (List aH):=if h:∃m,e7 m l/\p m then some (Classical.choose h)else none
theorem Cr{p:List aH->Prop}(b:∀m,p m->m.Pairwise fun x y=>x.box<y.box)(h:e7 m l):wv l p=if p m then some m else none:=by unfold wv;by_cases a:p m;{have c:∃m,e7 m l/\p m:=⟨m,h,a⟩;rw[dif_pos c,if_pos a,Cq h (Classical.choose_spec c).1 (b m a)]};rw[if_neg a,dif_neg];rintro⟨m',e,d⟩;have:=Cq e h (b m' d);rw[this]at a;exact a d
theorem GR{a:Int}{T:List (List UInt8)}(h:gP cl vl l a=(T,0)):ak cl vl l:=by refine byContradiction fun b=>?_;unfold gP at h;rw[if_pos b]at h;have:(2:Int)=0:=congrArg Prod.snd h;omega
theorem sM(h:ak cl vl l):l.Pairwise fun x y=>x.box<y.box:=(b8.1 h).2.2.imp fun h=>h.1
noncomputable def b7(cl:List aL)(vl:List bz)(a:List (List UInt8)):Int×List aH×Nat:=(fZ cl vl a).getD (0,[],0)
noncomputable def qC(cl:List aL)(vl:List bz)(a:List (List UInt8)):Int×List aH×Int:=
 if ¬aA cl vl then(0,[],2)else if a=[]then(0,[],410)else
 match wv (b7 cl vl a).2.1 fun m=>gP cl vl m (b7 cl vl a).1=(a,0)with
 |some m=>((b7 cl vl a).1,m,0)
 |none=>(0,[],410)
theorem wy(b:aA cl vl)(c:a≠[])(d:e7 m (b7 cl vl a).2.1): qC cl vl a=if gP cl vl m (b7 cl vl a).1=(a,0)then((b7 cl vl a).1,m,0)else(0,[],410):=by unfold qC;rw[if_neg (by simpa using b),if_neg c,Cr (fun m h=>sM (GR h)) d];by_cases h:gP cl vl m (b7 cl vl a).1=(a,0);{rw[if_pos h,if_pos h]};rw[if_neg h,if_neg h]
theorem GV(a:ak cl vl l)(b:bay∈a7 cl):qC cl vl (ar cl vl l bay)=(bay,zU cl l bay,0):=by have c:=Em (l:=l) a.1 b (rest:=[]);rw[List.append_nil]at c;have d:b7 cl vl (ar cl vl l bay)=(bay,Ck cl l bay,(ar cl vl l bay).length):=by{unfold b7;rw[c];rfl};obtain⟨m,e⟩:=Ns (Ck cl l bay);have f:=En a e;rw[wy a.1 Cp (by rw[d];exact e),d,f,if_pos];unfold gP;rw[if_neg (by simpa using zZ a),if_neg (by simpa using b),Gq a.1]
theorem eG{a b:List aH}(h:a.length+b.length<2^30):aF.oj (a.map aH.enc) (b.map aH.enc) 32 4:=⟨by simp;omega,by simp;omega,fun r c=>by obtain⟨x,-,rfl⟩:=List.mem_map.1 c;exact⟨rfl,fun p d=>by simp[aH.enc]at d;rcases d with rfl|rfl|rfl|rfl<;>rfl⟩,fun r c=>by obtain⟨x,-,rfl⟩:=List.mem_map.1 c;rfl⟩
theorem sR(h:fZ cl vl a=some (b,d,c)):3<=c/\c<=a.length:=by unfold fZ at h;split at h;{cases h};split at h;{cases h};split at h;{cases h};split at h;{cases h};rename_i f _ _ e;cases h;rw[db]at e ⊢;exact⟨by omega,by omega⟩
theorem re{cl:List aL}{vl:List bz}:∀{n m:Nat} {a:List (List UInt8)},a.length<=n->a.length<=m->readAll cl vl n a=readAll cl vl m a
|0,m,a,c,d=>by have:a=[]:=List.eq_nil_of_length_eq_zero (by omega);subst this;cases m<;>simp[readAll]
|n+1,0,a,c,d=>by have:a=[]:=List.eq_nil_of_length_eq_zero (by omega);subst this;simp[readAll]
|n+1,m+1,a,c,d=>by unfold readAll;split;{rfl};rename_i h;cases g:fZ cl vl a with|none=>rfl|some x=>obtain⟨b,e,f⟩:=x;have i:=sR g;simp only[];rw[re (n:=n) (m:=m) (by rw[List.length_drop];omega) (by rw[List.length_drop];omega)]
theorem z8(e:a≠[])(h:fZ cl vl a=some (b,d,c)): readAll cl vl a.length a=(readAll cl vl (a.drop c).length (a.drop c)).map (d++·):=by obtain⟨n,f⟩:∃n,a.length=n+1:=⟨a.length-1,by have:=List.length_pos_iff.2 e;omega⟩;have g:=sR h;rw[f,readAll,if_neg e,h];simp only[];rw[re (n:=n) (m:=(a.drop c).length) (by rw[List.length_drop];omega) (Nat.le_refl _)]
theorem Ct(b:a≠[])(h:fZ cl vl a=none):readAll cl vl a.length a=none:=by obtain⟨n,c⟩:∃n,a.length=n+1:=⟨a.length-1,by have:=List.length_pos_iff.2 b;omega⟩;rw[c,readAll,if_neg b,h]
theorem Cv:readAll cl vl 0 []=some []:=rfl
structure RA(cl:List aL)(vl:List bz)(lines:List (List UInt8))(acc:List aH)(rest:List (List UInt8)):Prop where
 eq:readAll cl vl lines.length lines=(readAll cl vl rest.length rest).map (acc++·)
 sub:∀x∈rest,x∈lines
 len:rest.length<=lines.length
theorem RA.start:RA cl vl a [] a:=⟨by cases readAll cl vl a.length a<;>simp,fun _ h=>h,Nat.le_refl _⟩
theorem RA.step{d:List (List UInt8)}{e:List aH}(h:RA cl vl d acc a)(f:a≠[])(g:fZ cl vl a=some (b,e,c)):RA cl vl d (acc++e) (a.drop c):=⟨by rw[h.eq,z8 f g];cases readAll cl vl (a.drop c).length (a.drop c)<;>simp,fun x i=>h.sub x (List.mem_of_mem_drop i),by rw[List.length_drop];have:=h.len;omega⟩
theorem RA.bad{b:List (List UInt8)}(h:RA cl vl a acc b)(c:b≠[])(d:fZ cl vl b=none):readAll cl vl a.length a=none:=by rw[h.eq,Ct c d];rfl
theorem RA.fin(h:RA cl vl a acc []):readAll cl vl a.length a=some acc:=by rw[h.eq];show(readAll cl vl 0 []).map _=_;rw[Cv];simp
end Go.bt
