import Derived.Stop.LaidErr
import Derived.LaidLaws
import Derived.Test.YtfaccbkibjkfjaaGreatDoorT07
set_option linter.all false
set_option maxRecDepth 100000
set_option maxHeartbeats 1000000
namespace Go.aA
open Go Go.Am Go.Proofs
open Go.RowKit Go.ChangeShapes
theorem amj(u:TypeId)(h:Tryz.prog.typeName? 3 u=some "*errors.errorString"):u=403:=typeName_ptr_named (nm:= "errors.errorString") (by rw[show "*" ++ "errors.errorString" = "*errors.errorString" by decide];kernel_rfl) k_ d_ u (by rw[show "*" ++ "errors.errorString" = "*errors.errorString" by decide];exact h)
theorem ahE{W:World}{n:String}{g:Nat}{j:B_}{r:List (String×DataW Unit)}(h:laidMet Tryz.prog ((n,.iface "*errors.errorString" (.ptr (.agg [.lit (.string j)])))::r) W)(q:Tryz.prog.globalNamed n=some g)(u:(Tryz.prog.globals[g]?).map (·.type)=some 143):g<W.heap.size/\∃c,At W g=some c/\dm (fun b=>b<W.heap.size) W gE c 0/\c.size=gE.length:=by obtain⟨a,s,i,f,-,-⟩:=laid_sentinel h q u Tryz.underlying143 amj Tryz.underlying403 Tryz.underlying405 rfl rfl Tryz.underlying9 k_ k_;have v:=World.block_lt_of_cell? _ _ f;obtain⟨b,k,e⟩:=a;have d:At W g=some #[.iface 403 (.pointer (some ⟨b,k,e⟩))]:=by{unfold World.var? at i;rw[q]at i;simp only[qbx]at i;unfold At;split at i;{rename_i w _ _ l;simp only[qaa]at i;subst i;simp[l]};cases i};have m:e=none:=by{unfold World.cell? at f;split at f;{cases e with|none=>rfl|some x=>simp at f};cases f};subst m;have p:∃c,At W b=some c:=by{unfold World.cell? at f;unfold At;split at f;{rename_i c _ _ l;exact⟨c,by simp[l]⟩};cases f};obtain⟨c,p⟩:=p;refine⟨?_,_,d,⟨⟨_,rfl,?_⟩,by simp only[dm]⟩,rfl⟩;{unfold At at d;cases t:W.heap[g]? with|none=>rw[t]at d;cases d|some o=>exact(qaK.1 t).1};simp only[aD];exact⟨_,rfl,b,k,c,rfl,v,p,by simp only[dm]⟩
end Go.aA
