import Derived.Test.YtjclmfaodngbfaaGreatDoorT11
import Derived.Test.YtjclmfaodngbfaaGreatDoorT09
set_option linter.all false
set_option maxRecDepth 100000
set_option maxHeartbeats 1000000
namespace Go.bt
open Go Go.Am
open Classical
variable {v:Nat}
theorem F4(p:Place):fX (r9 p):=by have b:=Int.emod_nonneg p.bay (by decide:(5:Int)≠0);have c:=Int.emod_lt_of_pos p.bay (by decide:(0:Int)<5);have d:=Int.emod_nonneg p.row (by decide:(5:Int)≠0);have e:=Int.emod_lt_of_pos p.row (by decide:(0:Int)<5);have f:=Int.emod_nonneg p.dv (by decide:(4:Int)≠0);have g:=Int.emod_lt_of_pos p.dv (by decide:(0:Int)<4);refine⟨fun i a=>absurd a (by simp[r9]),?_⟩;simp only[In,r9];refine⟨⟨by omega,by omega⟩,⟨by omega,by omega⟩,⟨by omega,by omega⟩,⟨by omega,by omega⟩,⟨by omega,by omega⟩,⟨by omega,by omega⟩,⟨by omega,by omega⟩,⟨by omega,by omega⟩,⟨by omega,by omega⟩,?_⟩;split<;>omega
theorem KO:fX sA:=by refine⟨fun i a=>absurd a (by simp[sA]),?_⟩;simp only[In,sA];omega
def MJ(c:aL):Prop:=fX c/\c.ko=0/\c.dv<=5/\c.cq=[]/\c.psp=[]
theorem zX(a:List aL)(p:Place):nQ a p=a\/(nQ a p=a++[r9 p]/\∀c∈a,Je c (r9 p)):=by unfold nQ;split;{exact .inl rfl};rename_i h;refine .inr ⟨rfl,fun c b d=>h ⟨c,b,?_⟩⟩;exact d
theorem Gh:∀{l:List Place} {d:List aL},(∀c∈d,MJ c)/\d.Pairwise Je->(∀c∈l.foldl nQ d,MJ c)/\(l.foldl nQ d).Pairwise Je
|[],d,h=>h
|p::l,d,h=>by refine Gh (l:=l) ?_;rcases zX d p with e|⟨e,i⟩;{rw[e];exact h};rw[e];refine⟨fun c f=>?_,List.pairwise_append.2 ⟨h.2,List.pairwise_singleton _ _,fun a j b g=>?_⟩⟩;{rcases List.mem_append.1 f with f|f;{exact h.1 c f};rw[List.mem_singleton]at f;rw[f];exact⟨F4 p,rfl,by have:=Int.emod_lt_of_pos p.dv (by decide:(0:Int)<4);show 2+p.dv%4<=5;omega,rfl,rfl⟩};rw[List.mem_singleton]at g;rw[g];exact i a j
theorem GQ(l:List Place):(∀c∈ie l,MJ c)/\(ie l).Pairwise Je:=by unfold ie;split;{refine⟨fun c a=>?_,List.pairwise_singleton _ _⟩;rw[List.mem_singleton]at a;rw[a];exact⟨KO,rfl,by decide,rfl,rfl⟩};exact Gh ⟨fun c a=>by simp at a,List.Pairwise.nil⟩
theorem agz:∀{l:List Place} {cs:List aL},(l.foldl nQ cs).length<=cs.length+l.length
|[],cs=>by simp
|p::l,cs=>by have:=agz (l:=l) (cs:=nQ cs p);rcases zX cs p with e|⟨e,-⟩;{rw[e]at this;simp only[List.foldl_cons,List.length_cons];rw[e];omega};rw[e]at this;simp only[List.foldl_cons,List.length_cons];rw[e];simp at this;omega
theorem Kg(l:List Place):1<=(ie l).length/\(ie l).length<=12:=by unfold ie;split;{decide};rename_i h;refine⟨List.length_pos_iff.2 h,?_⟩;have:=agz (l:=l.take (min l.length 12)) (cs:=[]);simp only[List.length_nil,List.length_take]at this;unfold acH;omega
def YQ(x:bz)(v:Nat):Prop:=0<=x.bay/\x.bay<v/\(x.rows=[0,1]\/x.rows=[2,3,4])
def YR(a b:bz):Prop:=a.bay=b.bay->∀r,r∈b.rows->r∉a.rows
theorem MK{covers:Int}:(∀x∈se covers v,x.bay=(v:Int)/\(x.rows=[0,1]\/x.rows=[2,3,4]))/\(se covers v).Pairwise YR/\(se covers v).length<=2:=by unfold se;split<;>split;all_goals simp[YR]
theorem B3{covers:Int}:∀{v:Nat},(∀x∈cJ covers v,YQ x v)/\(cJ covers v).Pairwise YR/\(cJ covers v).length<=2*v
|0=>⟨fun x d=>by simp[cJ]at d,List.Pairwise.nil,by simp[cJ]⟩
|v+1=>by obtain⟨e,g,k⟩:=B3 (covers:=covers) (v:=v);obtain⟨f,h,l⟩:=MK (covers:=covers) (v:=v);rw[cJ];refine⟨fun x d=>?_,List.pairwise_append.2 ⟨g,h,fun a i b j=>?_⟩,by simp;omega⟩;{rcases List.mem_append.1 d with d|d;{obtain⟨a,b,c⟩:=e x d;exact⟨a,by omega,c⟩};obtain⟨a,c⟩:=f x d;exact⟨by omega,by omega,c⟩};intro m;have:=(e a i).2.1;have:=(f b j).1;omega
theorem afc{x:bz}(h:YQ x v)(d:v<=40):iM x:=by obtain⟨c,e,b⟩:=h;refine⟨⟨c,by omega⟩,?_,?_⟩;{rcases b with h|h<;>rw[h]<;>simp};intro i a;rcases b with h|h;{rw[h]at a;unfold qA;rw[h];match i,a with|0,_=>exact⟨by decide,by decide,.inl rfl⟩|1,_=>exact⟨by decide,by decide,.inr (by decide)⟩};rw[h]at a;unfold qA;rw[h];match i,a with|0,_=>exact⟨by decide,by decide,.inl rfl⟩|1,_=>exact⟨by decide,by decide,.inr (by decide)⟩|2,_=>exact⟨by decide,by decide,.inr (by decide)⟩
theorem ad5(l:List Place)(a:Int):aA (ie l) (cJ a 5):=by obtain⟨d,e⟩:=GQ l;obtain⟨f,m⟩:=Kg l;obtain⟨g,h,n⟩:=B3 (covers:=a) (v:=5);refine⟨⟨f,by omega,by omega⟩,fun i b=>⟨(d _ (List.getElem_mem b)).1,fun k c=>List.pairwise_iff_getElem.1 e k i (by omega) b c⟩,fun i b=>⟨afc (g _ (List.getElem_mem b)) (by omega),fun k c j=>List.pairwise_iff_getElem.1 h k i (by omega) b c j⟩⟩
def KP(boxes a:List bw)(id:Int):Prop:=(ku boxes id).map (fun b=>(b.size,b.high))=(ku a id).map (fun b=>(b.size,b.high))
theorem KP.symm{boxes a:List bw}{id:Int}(h:KP boxes a id):KP a boxes id:=Eq.symm h
end Go.bt
