import Derived.Test.YtjclmfaodngbfaaGreatDoorT07
import Derived.Test.YtjclmfaodngbfaaGreatDoorT09
set_option linter.all false
set_option maxRecDepth 100000
set_option maxHeartbeats 1000000
namespace Go.bt
open Go Go.Am
section
open Classical
variable {A:Ar} {s:St}
def opens:cf->Bool
 |.pA (_::_) none=>true
 |.pA _ (some _)=>true
 |.seq a _=>opens a
 |_=>false
theorem afN{C:CT}{A:Ar}{I:IC}:∀{c:cf} {st s0:St} {Q:Ex->St->Prop},opens c=true->Fg st s0->fw C A I c s0 Q->fw C A I c st Q
|.pA (x::xs) none,st,s0,Q,_,hf,h=>by simp only[fw,bP]at h ⊢;obtain⟨e,f,g⟩:=h;exact⟨e,Fg.trans hf f,g⟩
|.pA l (some lt),st,s0,Q,_,hf,h=>by simp only[fw]at h ⊢;obtain⟨e,f,g⟩:=h;exact⟨e,Fg.trans hf f,g⟩
|.seq a b,st,s0,Q,d,hf,h=>by simp only[fw]at h ⊢;exact afN (c:=a) d hf h
|.pA [] none,_,_,_,d,_,_=>by cases d
|.skip,_,_,_,d,_,_=>by cases d
|.cond ..,_,_,_,d,_,_=>by cases d
|.block ..,_,_,_,d,_,_=>by cases d
|.loop _,_,_,_,d,_,_=>by cases d
|.exit _,_,_,_,d,_,_=>by cases d
|.ret,_,_,_,d,_,_=>by cases d
theorem acF{C:CT}{I:IC}{s0:St}(h:Fg s s0):(bp.fin .normal s).holds C A I (fun e a=>e=.normal/\Fg a s0):=⟨rfl,h⟩
theorem y6{P:Program}{G:Nat->Option (List PV)}{a b:cf}{c:List Am.Item}{Q:Ex->St->Prop}(f:St->St)(i:opens b=true)(d:bH (CC P G) A (Hf P G) [.code a] (fun e j=>e=.normal/\Fg j (f s)) .normal s)(g:bH (CC P G) A (Hf P G) (.code b::c) Q .normal (f s)): bH (CC P G) A (Hf P G) (.code a::.code b::c) Q .normal s:=by simp only[bH]at d g ⊢;refine fC (qp P G) a (fun e k h=>?_) d;obtain⟨rfl,h⟩:=h;simp only[bH];exact afN i h g
end
theorem zh{P:Program}{G:Nat->Option (List PV)}{A:Ar}{a b:cf}{c:List Am.Item}{Q:Ex->St->Prop}{s:St}{α:Type}(p:α->Prop)(f:α->St->St)(i:opens b=true)(d:bH (CC P G) A (Hf P G) [.code a] (fun e j=>e=.normal/\∃x,p x/\Fg j (f x s)) .normal s)(g:∀x,p x->bH (CC P G) A (Hf P G) (.code b::c) Q .normal (f x s)): bH (CC P G) A (Hf P G) (.code a::.code b::c) Q .normal s:=by simp only[bH]at d g ⊢;refine fC (qp P G) a (fun e l h=>?_) d;obtain⟨rfl,x,k,h⟩:=h;simp only[bH];exact afN i h (g x k)
end Go.bt
