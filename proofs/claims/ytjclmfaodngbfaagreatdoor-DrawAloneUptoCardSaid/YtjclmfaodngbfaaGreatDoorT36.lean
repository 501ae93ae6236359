import Derived.Shelf.RegionOpenPlain
import Derived.WalkKit
import Derived.Deep.LoopGhost
import Derived.Lib.Walk
import Derived.Lib.SliceRun
import Derived.Test.YtjclmfaodngbfaaGreatDoorT34
import Derived.Test.YtjclmfaodngbfaaGreatDoorT08
import Derived.Test.YtjclmfaodngbfaaGreatDoorT27
import Derived.Test.YtjclmfaodngbfaaGreatDoorT33
import Derived.Test.YtjclmfaodngbfaaGreatDoorT10
set_option linter.all false
set_option maxRecDepth 100000
set_option maxHeartbeats 1000000
namespace Go.bt
section
open Go Go.Am Go.Proofs Go.Shelf Go.RowKit Go.Lib
variable {mx:Int}
theorem agC(n c:Nat)(w:World):Calls Tryz.prog 16 #[.slice none n c] w fun e w'=>e=.returned (.slice none 0 0)/\w'=w:=by have f:∀(w:World) (a:Option Addr) (n c b d:Nat),(binOp .eql 33 (.slice a n c) (.slice none b d)).run Tryz.prog w=.ok (.bool a.isNone) w:=fun w a n c b d=>Lib.run_eql_slice_nil w _ _ a n c b d D0;have mixed:Tryz.prog.follows .mixedOrders=true:=by{kernel_rfl};go_enter Tryz.func16,Tryz.ntmps16;go_wp2;go_ret;exact⟨rfl,rfl⟩
theorem Lh(w:World)(a:Option Addr)(c:Nat):Src Tryz.prog 4 33 (.slice a 0 c) 0 [] w:=⟨.inl ⟨40,D0⟩,fun w'=>rfl,by cases a<;>simp[Builtin.firstCells,loadCells,loadCellsFrom],by cases a<;>simp[Builtin.firstCells,loadCells,loadCellsFrom],rfl,fun u b=>by cases b⟩
set_option maxHeartbeats 2000000 in
theorem Fz(b:Addr)(c:Nat)(w:World):Calls Tryz.prog 16 #[.slice (some b) 0 c] w fun e w'=>∃A,e=.returned (.slice A 0 0)/\Below w.heap.size w w':=by have h:∀(w:World) (a:Option Addr) (n c d f:Nat),(binOp .eql 33 (.slice a n c) (.slice none d f)).run Tryz.prog w=.ok (.bool a.isNone) w:=fun w a n c d f=>Lib.run_eql_slice_nil w _ _ a n c d f D0;have i:∀w,Sem.run Tryz.prog (underlying 33) w=.ok (TypeDesc.slice 40) w:=run_underlying D0;have mixed:Tryz.prog.follows .mixedOrders=true:=by{kernel_rfl};have j:∀w,(Go.sizeOf 40).run Tryz.prog w=.ok 4 w:=fun w=>by{simp[Go.sizeOf];rfl};have k:∀(A:Option Addr) (W:World) g,(Builtin.append_ #[33,33] g #[.slice A 0 0,.slice (some b) 0 c]).run Tryz.prog W=.ok (.slice A 0 0) W:=fun A W g=>run_append_nothing W 33 33 g 40 Tryz.t40 D0 Rm A 0 0 (Nat.le_refl _) _ (Lh W (some b) c);go_enter Tryz.func16,Tryz.ntmps16;go_wp2_with (at_builtin;refine wpList_append_run _ rfl _ _ 33 33 rfl _ _ rfl rfl _ _ (k _ _ _) ?_);go_ret;exact⟨_,rfl,(Below.refl _ w).alloc (Nat.le_refl _) _⟩
theorem BF:oQ Tryz.prog (GG mx) 16 [.sl [] []] [] (.full []):=by intro S w o p q f;simp only[aM]at f;obtain⟨v,r,rfl,g,rfl⟩:=f;simp only[aD]at g;obtain⟨a,c,rfl,-,-⟩:=g;have l:(callFunc 16 #[.slice a 0 c]).run Tryz.prog w=.ok (.enter 16 #[.slice a 0 c]) w:=by{kernel_rfl};unfold dN;have e:([Value.slice a ([]:List (List PV)).length c]:List Value).toArray=#[.slice a 0 c]:=rfl;rw[e,l];simp only;have k:∀A w',Below w.heap.size w w'->Below w.heap.size w w'/\∃(γ:Nat->Option Nat) (S':Nat->Prop),(∀b,S b->S' b)/\(∀b,S' b->S b\/(w.heap.size<=b/\b<w'.heap.size))/\ (∀i b,γ i=some b->i<([]:List (Nat×List (List PV))).length/\¬S' b/\w.heap.size<=b/\b<w'.heap.size)/\(∀i j b,γ i=some b->γ j=some b->i=j)/\ (∀i d,aj (eU []) i=some d->eK γ S' w' (fun _ _=>True) i d)/\lF S' w' (Ref γ S' w' (eU [])) (.full []) (.slice A 0 0):=fun A w' m=>by{refine⟨m,fun _=>none,S,fun _ h=>h,fun _ h=>.inl h,?_,?_,?_,?_⟩;{intro i b h;exact absurd h (by simp)};{intro i j b h;exact absurd h (by simp)};{intro i d h;simp[eU,aj]at h};simp only[lF];exact⟨A,rfl,.inl trivial⟩};cases a with|none=>refine(agC 0 c w).mono fun e w' h=>?_;obtain⟨rfl,rfl⟩:=h;exact⟨_,rfl,k none _ (Below.refl _ _)⟩|some b=>refine(Fz b c w).mono fun e w' h=>?_;obtain⟨A,rfl,n⟩:=h;exact⟨_,rfl,k A _ n⟩
end
open Go Go.Am Go.Proofs
open Classical
variable {l:List aH}
attribute [local irreducible] Am.bp.holds bH fw bP ek
variable {mx:Int}
theorem aft:fS 4 (l.map aH.enc):=by intro r a;obtain⟨x,-,rfl⟩:=List.mem_map.1 a;obtain⟨b,c,t,h⟩:=x;exact⟨rfl,by simp[aH.enc]⟩
theorem Fx{rows b:List (List PV)}(a:rows=l.map aH.enc)(h:l≠[])(hl:l.length<2^32):oQ Tryz.prog (GG mx) 16 [.sl rows b] [(4,rows)] (.c8 0 0):=by have c:rows.length=l.length:=by{simp[a]};refine BO (rs:=[.c8 0 0]) mixed PD (Nat.le_of_ble_eq_true rfl) (az (F:=fun A=>bH (CC Tryz.prog (GG mx)) A (Hf Tryz.prog (GG mx)) [.code SN] (ri [.tmp 2] [(4,rows)] [.c8 0 0]) .normal (Am.start 8 [.sl rows b])) ?_);(iterate 105 intro _);intro d;(iterate 10 intro _);intro g i f;(iterate 10 intro _);intro zI aU aV bC bA ag aC;refine gK ?_;refine ae (by rw[<-d,<-f];right;rw[a];intro e;exact h (by simpa using (List.append_eq_nil_iff.1 e).1)) ?_;refine gK ?_;refine ae (by rw[<-g,<-d];exact⟨⟨by simp;omega,by simp;omega,by rw[a];exact aft,by simp⟩,.inl rfl⟩) ?_;refine gK ?_;have j:i [] rows=rows:=by{rw[<-f];simp};rw[j];refine o6 (fg (vs:=[.c8 7 0]) (t:=[]) [some 7] (by cbv) rfl (by cbv) rfl rfl rfl)
end Go.bt
