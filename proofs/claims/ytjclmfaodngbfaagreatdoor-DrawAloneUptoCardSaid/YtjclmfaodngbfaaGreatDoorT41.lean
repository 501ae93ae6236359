import Derived.Stop.LaidErr
import Derived.LaidLaws
import Derived.Test.YtjclmfaodngbfaaGreatDoorT07
import Derived.Test.YtjclmfaodngbfaaGreatDoorT11
import Derived.Test.YtjclmfaodngbfaaGreatDoorT14
import Derived.Test.YtjclmfaodngbfaaGreatDoorT09
set_option linter.all false
set_option maxRecDepth 100000
set_option maxHeartbeats 1000000
namespace Go.bt
section
open Go Go.Am
variable {B:Nat} {a b:List PV} {n:Int}
theorem dx{k:IntKind}{a:List Sh}(h:iR B (.i k::a) b):∃n r,b=.int k n::r/\(Lit.int k n).wf=true/\iR B a r:=by grind[iR,K9]
theorem Eu{a:List Sh}{c:List PV}(h:iR B (.b::a) c):∃n r,c=.bool n::r/\iR B a r:=by grind[iR,K9]
theorem qe{row a:List Sh}(h:iR B (.l row::a) b):∃rows c r,b=.sl rows c::r/\rows.length<=B/\(∀x∈rows,iR B row x)/\iR B a r:=by grind[iR,K9]
theorem kO(h:iR B [] a):a=[]:=by grind[iR]
theorem FC{B:Nat}{a:List Sh}{α:Type}{enc:α->List PV}{Q:α->Prop}(h:∀b,iR B a b->∃x,b=enc x/\Q x):∀{rows:List (List PV)},(∀r∈rows,iR B a r)->∃l:List α,rows=l.map enc/\∀x∈l,Q x
|[],_=>⟨[],rfl,fun _ c=>by cases c⟩
|r::rows,d=>by obtain⟨x,rfl,c⟩:=h r (d r (by simp));obtain⟨l,rfl,hl⟩:=FC h (rows:=rows) (fun y e=>d y (by simp[e]));exact⟨x::l,rfl,fun y e=>by grind⟩
theorem aaJ(h:(Lit.int .u8 n).wf=true):0<=n/\n<256:=by simp[Lit.wf]at h;have a:IntKind.u8.min=0:=by{rfl};have b:IntKind.u8.max=255:=by{rfl};omega
abbrev Cl:List Sh:=[.i .u8,.i .u8,.i .u8,.b]
theorem amq(h:(Lit.int .u32 n).wf=true):0<=n/\n<2^32:=by simp only[Lit.wf,Bool.and_eq_true,decide_eq_true_eq]at h;have a:IntKind.u32.min=0:=by{rfl};have b:IntKind.u32.max=4294967295:=by{rfl};rw[a,b]at h;omega
theorem placeOf(h:iR B Cl b):∃x:Place,b=x.enc/\lK x:=by obtain⟨f,_,rfl,c,h⟩:=dx h;obtain⟨g,_,rfl,d,h⟩:=dx h;obtain⟨i,_,rfl,e,h⟩:=dx h;obtain⟨j,_,rfl,a⟩:=Eu h;replace h:=a;obtain rfl:=kO h;exact⟨⟨f,g,i,j⟩,rfl,(aaJ c).1,(aaJ c).2,(aaJ d).1,(aaJ d).2,(aaJ e).1,(aaJ e).2⟩
theorem placesOf(h:iR 1048576 [.l Cl] a):∃(rows b:List (List PV)) (l:List Place),a=[.sl rows b]/\rows=l.map Place.enc/\l.length<2^32/\∀x∈l,lK x:=by obtain⟨s,c,_,rfl,d,e,h⟩:=qe h;obtain rfl:=kO h;obtain⟨l,rfl,hl⟩:=FC (fun a=>placeOf) e;simp only[List.length_map]at d;exact⟨_,c,l,rfl,rfl,by omega,hl⟩
theorem u32Of(h:iR B [.i .u32] a):∃n,a=[.int .u32 n]/\0<=n/\n<2^32:=by obtain⟨n,_,rfl,w,h⟩:=dx h;obtain rfl:=kO h;exact⟨n,rfl,amq w⟩
theorem Zz(h:iR B [.i .u8] a):∃n,a=[.int .u8 n]/\0<=n/\n<256:=by obtain⟨n,_,rfl,w,h⟩:=dx h;obtain rfl:=kO h;exact⟨n,rfl,aaJ w⟩
theorem byteOf(h:iR B [.i .u8] a):∃x:Int,a=[PV.int .u8 x]/\(0<=x/\x<256):=by obtain⟨n,_,rfl,w,h⟩:=dx h;obtain rfl:=kO h;exact⟨n,rfl,aaJ w⟩
theorem anC(h:iR 1048576 [.l [.i .u8]] a):∃(rows b:List (List PV)) (l:List Int),a=[.sl rows b]/\rows=Om l/\l.length<2^32/\∀x∈l,0<=x/\x<256:=by obtain⟨s,c,_,rfl,d,e,h⟩:=qe h;obtain rfl:=kO h;obtain⟨l,rfl,hl⟩:=FC (enc:=fun n:Int=>[PV.int .u8 n]) (Q:=fun x=>0<=x/\x<256) (fun a=>byteOf) e;simp only[List.length_map]at d;exact⟨_,c,l,rfl,rfl,by omega,hl⟩
end
open Go Go.Am Go.Proofs
open Go.RowKit Go.ChangeShapes
theorem amj(u:TypeId)(h:Tryz.prog.typeName? 3 u=some "*errors.errorString"):u=388:=typeName_ptr_named (nm:= "errors.errorString") (by rw[show "*" ++ "errors.errorString" = "*errors.errorString" by decide];kernel_rfl) (by kernel_rfl) (by decide) u (by rw[show "*" ++ "errors.errorString" = "*errors.errorString" by decide];exact h)
theorem ahE{W:World}{n:String}{g:Nat}{j:List UInt8}{r:List (String×DataW Unit)}(h:laidMet Tryz.prog ((n,.iface "*errors.errorString" (.ptr (.agg [.lit (.string j)])))::r) W)(q:Tryz.prog.globalNamed n=some g)(u:(Tryz.prog.globals[g]?).map (·.type)=some 137):g<W.heap.size/\∃c,ai W g=some c/\dm (fun b=>b<W.heap.size) W gE c 0/\c.size=gE.length:=by obtain⟨a,s,i,f,-,-⟩:=laid_sentinel h q u Tryz.underlying137 amj Tryz.underlying388 Tryz.underlying390 rfl rfl Tryz.underlying9 (by kernel_rfl) (by kernel_rfl);have v:=World.block_lt_of_cell? _ _ f;obtain⟨b,k,e⟩:=a;have d:ai W g=some #[.iface 388 (.pointer (some ⟨b,k,e⟩))]:=by{unfold World.var? at i;rw[q]at i;simp only[Option.bind_some]at i;unfold ai;split at i;{rename_i w _ _ l;simp only[Option.some.injEq]at i;subst i;simp[l]};cases i};have m:e=none:=by{unfold World.cell? at f;split at f;{cases e with|none=>rfl|some x=>simp at f};cases f};subst m;have p:∃c,ai W b=some c:=by{unfold World.cell? at f;unfold ai;split at f;{rename_i c _ _ l;exact⟨c,by simp[l]⟩};cases f};obtain⟨c,p⟩:=p;refine⟨?_,_,d,⟨⟨_,rfl,?_⟩,by simp only[dm]⟩,rfl⟩;{unfold ai at d;cases t:W.heap[g]? with|none=>rw[t]at d;cases d|some o=>exact(Array.getElem?_eq_some_iff.1 t).1};simp only[aD];exact⟨_,rfl,b,k,c,rfl,v,p,by simp only[dm]⟩
end Go.bt
