import Derived.RangeFuncNested
import Derived.RangeFuncBound
import Derived.Shelf.Abstract
import Derived.Shelf.RegionOpen
import Derived.WalkKit
import Derived.OwnWalkIn
import Derived.TacticsInMore
import Derived.LoopNIn
import Derived.LoopIn
import Derived.Test.YtfaccbkibjkfjaaGreatDoorT15
set_option linter.all false
set_option maxRecDepth 100000
set_option maxHeartbeats 1000000
namespace Go.aA
open Go Go.Am Go.Proofs
open Classical
variable {mx k e:Int} {l:List cT} {v:Nat}
attribute [local irreducible] Am.bp.holds bH fw bP ek
def kl(l:List cT)(i:Nat):cT:=l.getD i ⟨[],0,0⟩
def wH(l:List cT)(i:Nat):Prop:=¬tc (kl l i).port (kl l i).at_ (kl l i).dr\/(0<i/\((kl l i).at_<=(kl l (i-1)).at_\/(kl l i).port=(kl l (i-1)).port))
def fh(l:List cT)(k e:Int):Prop:=(l.length<2/\k= -1/\e=2)\/(20<l.length/\k= -1/\e=5)\/(2<=l.length/\l.length<=20/\eW (wH l) l.length k/\e=if 0<=k then 200 else 0)
theorem fh.ex(l:List cT):∃k e,fh l k e:=by by_cases a:l.length<2;{exact⟨_,_,.inl ⟨a,rfl,rfl⟩⟩};by_cases b:20<l.length;{exact⟨_,_,.inr (.inl ⟨b,rfl,rfl⟩)⟩};obtain⟨k,c⟩:=eW.ex (wH l) l.length;exact⟨k,_,.inr (.inr ⟨o_,o_,c,rfl⟩)⟩
theorem fh.short(h:fh l k e)(h1:l.length<2):k= -1/\e=2:=by rcases h with h|h|h;{exact h.2};{omega};omega
theorem fh.bad(h:fh l k e)(h1:2<=l.length)(h2:l.length<=20)(a:v<l.length)(b:wH l v)(c:∀j,j<v->¬wH l j):k=Int.ofNat v/\e=200:=by rcases h with h|h|h;{omega};{omega};have:=h.2.2.1.at a b c;refine⟨this,?_⟩;rw[h.2.2.2,this,qao s_]
theorem fh.Hh(h:fh l k e)(h1:2<=l.length)(h2:l.length<=20)(a:∀j,j<l.length->¬wH l j):k= -1/\e=0:=by rcases h with h|h|h;{omega};{omega};have:=h.2.2.1.none a;refine⟨this,?_⟩;rw[h.2.2.2,this,qai o_]
def PB(l:List bw)(calls:Int)(i:Nat):Prop:=∀h:i<l.length,(1<=l[i].id/\l[i].id<=999999)/\(i≠0->∀a:i-1<l.length,l[i-1].id<l[i].id)/\(l[i].size=40\/(l[i].size=20/\l[i].high=false))/\0<=l[i].load/\l[i].load<l[i].discharge/\l[i].discharge<calls
def je(l:List bw)(calls:Int):Prop:=(1<=calls/\calls<=20)/\l.length<=2000/\∀i,i<l.length->PB l calls i
noncomputable def uc(l:List bw)(k:Int)(v:Nat):List Int:=((l.take v).filter (fun b=>decide (lG b k))).map (·.id)
def stt(sl:List Stat)(k:Nat):Stat:=sl.getD k ⟨[],[]⟩
def ng(cl:List aL)(vl:List bz)(boxes:List bw)(sl:List Stat)(k:Nat):Prop:=¬gC cl vl boxes (stt sl k).l
def sB(boxes:List bw)(sl:List Stat)(k:Nat):Prop:=(stt sl k).l.map (·.box)≠uc boxes (Int.ofNat k) boxes.length
def dq(cl:List aL)(vl:List bz)(boxes:List bw)(calls:Int)(sl:List Stat)(k e:Int):Prop:=
 (¬fo cl vl/\k=0/\e=2)\/(fo cl vl/\¬je boxes calls/\k=0/\e=230)\/(fo cl vl/\je boxes calls/\Int.ofNat sl.length≠calls/\k=0/\e=231)\/
 (fo cl vl/\je boxes calls/\Int.ofNat sl.length=calls/\∃r,eW (fun i=>ng cl vl boxes sl i\/sB boxes sl i) sl.length r/\((r= -1/\k=0/\e=0)\/∃v,r=Int.ofNat v/\k=r/\e=if ng cl vl boxes sl v then 232 else 233))
variable {cl:List aL} {vl:List bz} {boxes:List bw} {calls:Int} {sl:List Stat}
theorem dq.ex(cl:List aL)(vl:List bz)(boxes:List bw)(calls:Int)(sl:List Stat):∃k e,dq cl vl boxes calls sl k e:=by by_cases a:fo cl vl;{by_cases b:je boxes calls;{by_cases c:Int.ofNat sl.length=calls;{obtain⟨r,d⟩:=eW.ex (fun i=>ng cl vl boxes sl i\/sB boxes sl i) sl.length;have f:=d;rcases f with⟨-,h⟩|⟨v,-,-,-,h⟩;{exact⟨0,0,.inr (.inr (.inr ⟨a,b,c,r,d,.inl ⟨h,rfl,rfl⟩⟩))⟩};exact⟨r,_,.inr (.inr (.inr ⟨a,b,c,r,d,.inr ⟨v,h,rfl,rfl⟩⟩))⟩};exact⟨0,231,.inr (.inr (.inl ⟨a,b,c,rfl,rfl⟩))⟩};exact⟨0,230,.inr (.inl ⟨a,b,rfl,rfl⟩)⟩};exact⟨0,2,.inl ⟨a,rfl,rfl⟩⟩
theorem dq.abE(h:dq cl vl boxes calls sl k e)(h1:¬fo cl vl):k=0/\e=2:=by rcases h with h|h|h|h;all_goals grind
theorem dq.count(h:dq cl vl boxes calls sl k e)(h1:fo cl vl)(h2:je boxes calls)(a:Int.ofNat sl.length≠calls):k=0/\e=231:=by rcases h with h|h|h|h;all_goals grind
theorem dq.bad(h:dq cl vl boxes calls sl k e)(h1:fo cl vl)(h2:je boxes calls)(c:Int.ofNat sl.length=calls)(d:v<sl.length)(f:ng cl vl boxes sl v\/sB boxes sl v)(g:∀j,j<v->¬(ng cl vl boxes sl j\/sB boxes sl j)):k=Int.ofNat v/\e=if ng cl vl boxes sl v then 232 else 233:=by rcases h with h|h|h|h;{exact absurd h1 h.1};{exact absurd h2 h.2.1};{exact absurd c h.2.2.1};obtain⟨-,-,-,r,i,h⟩:=h;have:=i.at d f g;rcases h with⟨h,-⟩|⟨u,b,l,m⟩;{rw[h]at this;have:(-1:Int)=(v:Int):=this;omega};have a:u=v:=by{rw[b]at this;have:(u:Int)=(v:Int):=this;omega};subst a;exact⟨by rw[l,b],m⟩
theorem dq.Hh(h:dq cl vl boxes calls sl k e)(h1:fo cl vl)(h2:je boxes calls)(c:Int.ofNat sl.length=calls)(d:∀j,j<sl.length->¬(ng cl vl boxes sl j\/sB boxes sl j)):k=0/\e=0:=by rcases h with h|h|h|h;{exact absurd h1 h.1};{exact absurd h2 h.2.1};{exact absurd c h.2.2.1};obtain⟨-,-,-,r,f,h⟩:=h;have:=f.none d;rcases h with⟨h,a,b⟩|⟨u,g,a,b⟩;{exact⟨a,b⟩};rw[g]at this;have:(u:Int)= -1:=this;omega
theorem dq.zero(h:dq cl vl boxes calls sl k 0):fo cl vl/\je boxes calls/\Int.ofNat sl.length=calls/\∀j,j<sl.length->¬(ng cl vl boxes sl j\/sB boxes sl j):=by rcases h with h|h|h|h;{exact absurd h.2.2 o_};{exact absurd h.2.2.2 o_};{exact absurd h.2.2.2.2 o_};obtain⟨c,d,e,r,f,h⟩:=h;refine⟨c,d,e,?_⟩;rcases h with⟨h,g,b⟩|⟨u,i,g,b⟩;{rcases f with⟨a,-⟩|⟨w,-,-,-,a⟩;{exact a};rw[h]at a;have:(-1:Int)=(w:Int):=a;omega};split at b<;>omega
end Go.aA
