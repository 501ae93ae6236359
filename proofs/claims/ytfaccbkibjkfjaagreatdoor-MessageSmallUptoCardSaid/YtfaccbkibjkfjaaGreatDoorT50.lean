import Derived.Stop.LaidErr
import Derived.LaidLaws
import Derived.Test.YtfaccbkibjkfjaaGreatDoorCards
import Derived.Test.YtfaccbkibjkfjaaGreatDoorTie
import Derived.ProofKit
import Derived.Deep.DeepHandedRow
import Derived.Lib.LaidTab
import Derived.MakeChecks
import Derived.WideShapes
import Derived.ChangeMaps5
import Derived.Deep.DeepWitnessRowRef
import Derived.Lib.LaidIn
import Derived.Test.YtfaccbkibjkfjaaGreatDoorT49
set_option linter.all false
set_option maxRecDepth 100000
set_option maxHeartbeats 1000000
namespace Go.aA
open Go Go.Am Go.Proofs
open Tryz (prog)
section
open Go.RowKit Go.ChangeShapes
theorem amj(u:TypeId)(h:Tryz.prog.typeName? 3 u=some "*errors.errorString"):u=403:=typeName_ptr_named (nm:= "errors.errorString") (by rw[show "*" ++ "errors.errorString" = "*errors.errorString" by decide];kernel_rfl) k_ d_ u (by rw[show "*" ++ "errors.errorString" = "*errors.errorString" by decide];exact h)
theorem ahE{W:World}{n:String}{g:Nat}{j:B_}{r:List (String×DataW Unit)}(h:laidMet prog ((n,.iface "*errors.errorString" (.ptr (.agg [.lit (.string j)])))::r) W)(q:Tryz.prog.globalNamed n=some g)(u:(Tryz.prog.globals[g]?).map (·.type)=some 143):g<W.heap.size/\∃c,At W g=some c/\dm (fun b=>b<W.heap.size) W gE c 0/\c.size=gE.length:=by obtain⟨a,s,i,f,-,-⟩:=laid_sentinel h q u Tryz.underlying143 amj Tryz.underlying403 Tryz.underlying405 rfl rfl Tryz.underlying9 k_ k_;have v:=World.block_lt_of_cell? _ _ f;obtain⟨b,k,e⟩:=a;have d:At W g=some #[.iface 403 (.pointer (some ⟨b,k,e⟩))]:=by{unfold World.var? at i;rw[q]at i;simp only[qbx]at i;unfold At;split at i;{rename_i w _ _ l;simp only[qaa]at i;subst i;simp[l]};cases i};have m:e=none:=by{unfold World.cell? at f;split at f;{cases e with|none=>rfl|some x=>simp at f};cases f};subst m;have p:∃c,At W b=some c:=by{unfold World.cell? at f;unfold At;split at f;{rename_i c _ _ l;exact⟨c,by simp[l]⟩};cases f};obtain⟨c,p⟩:=p;refine⟨?_,_,d,⟨⟨_,rfl,?_⟩,by simp only[dm]⟩,rfl⟩;{unfold At at d;cases t:W.heap[g]? with|none=>rw[t]at d;cases d|some o=>exact(qaK.1 t).1};simp only[aD];exact⟨_,rfl,b,k,c,rfl,v,p,by simp only[dm]⟩
end
section
open Go.ChangeShapes Go.WideShapes Go.RowKit
variable {W:World}
abbrev ik:=Go.Proofs.YtfaccbkibjkfjaaGreatDoor.Rows.messageSmallUptoRow.laid
def nh(H:Type):Dt H:={
 bk:=Go.Proofs.YtfaccbkibjkfjaaGreatDoor.Rows.uptoBulk
 al:=Go.Proofs.YtfaccbkibjkfjaaGreatDoor.Rows.uptoBulkAll
 one d:=by cases d<;>(try(rename_i l;cases l))<;>simp[Go.Proofs.YtfaccbkibjkfjaaGreatDoor.Rows.uptoBulk]
 cons x r:=by simp[Go.Proofs.YtfaccbkibjkfjaaGreatDoor.Rows.uptoBulkAll]
 slice es sp:=by simp[Go.Proofs.YtfaccbkibjkfjaaGreatDoor.Rows.uptoBulk]
 agg ps:=by simp[Go.Proofs.YtfaccbkibjkfjaaGreatDoor.Rows.uptoBulk]
 str s:=by simp[Go.Proofs.YtfaccbkibjkfjaaGreatDoor.Rows.uptoBulk]
 }
theorem Wf:((((begin prog (fun _ _=>0) default).world).heap[3]?).bind Go.Obj.row?)=some (#[.i 0],3):=k_
theorem maxLen(b:W.ShapedOpen prog):∃m,At W 3=some #[.i m]:=by obtain⟨m,e⟩:=Tryz.Ks.s1_3 W b;have f:W.cell? ⟨3,0,none⟩=some (.i m):=e;obtain⟨-,-,c,a,g⟩:=vS f;obtain⟨d,g1,g2,-⟩:=b.1 3 #[.i 0] 3 (qaZ k_) Wf;have h:d=c:=by{unfold At at a;rw[g1]at a;exact qa9 a};subst h;refine⟨m,?_⟩;rw[a];have hs:d.size=1:=g2;congr 1;apply qcB;intro i;match i with|0=>simpa using g|i+1=>rw[Array.getElem?_eq_none o_,Array.getElem?_eq_none s_]
theorem at1:∃n d t a m,(n,d)∈ik/\Tryz.prog.globalNamed n=some 1/\(Tryz.prog.globals[1]?).map (·.type)=some t/\mY prog m t=some a/\sV d=g1/\(nh Unit).bk d<=1048576:=⟨"twistlock/slot.quarter",Go.Proofs.YtfaccbkibjkfjaaGreatDoor.Rows.laid_twistlock_slot_quarter (H:=Unit),265,List.replicate 3 (.i .i64),6,.tail _ (.tail _ (.tail _ (.tail _ (.tail _ (.tail _ (.head _)))))),k_,k_,k_,k_,qaZ k_⟩
theorem at2:∃n d t a m,(n,d)∈ik/\Tryz.prog.globalNamed n=some 2/\(Tryz.prog.globals[2]?).map (·.type)=some t/\mY prog m t=some a/\sV d=g2/\(nh Unit).bk d<=1048576:=⟨"twistlock/iso.kinds",Go.Proofs.YtfaccbkibjkfjaaGreatDoor.Rows.laid_twistlock_iso_kinds (H:=Unit),344,[.l [.s,.i .u8,.b,.b]],6,.tail _ (.tail _ (.tail _ (.tail _ (.tail _ (.tail _ (.tail _ (.head _))))))),k_,k_,k_,k_,qaZ k_⟩
theorem at4:∃n d t a m,(n,d)∈ik/\Tryz.prog.globalNamed n=some 4/\(Tryz.prog.globals[4]?).map (·.type)=some t/\mY prog m t=some a/\sV d=g4/\(nh Unit).bk d<=1048576:=⟨"unicode/utf8.first",Go.Proofs.YtfaccbkibjkfjaaGreatDoor.Rows.laid_unicode_utf8_first,354,List.replicate 256 (.i .u8),6,.tail _ (.tail _ (.tail _ (.tail _ (.tail _ (.tail _ (.tail _ (.tail _ (.head _)))))))),k_,k_,k_,k_,qaZ k_⟩
theorem at5:∃n d t a m,(n,d)∈ik/\Tryz.prog.globalNamed n=some 5/\(Tryz.prog.globals[5]?).map (·.type)=some t/\mY prog m t=some a/\sV d=g5/\(nh Unit).bk d<=1048576:=⟨"unicode/utf8.acceptRanges",Go.Proofs.YtfaccbkibjkfjaaGreatDoor.Rows.laid_unicode_utf8_acceptRanges (H:=Unit),357,List.replicate 32 (.i .u8),6,.tail _ (.tail _ (.tail _ (.head _))),k_,k_,k_,k_,qaZ k_⟩
theorem at6:∃n d t a m,(n,d)∈ik/\Tryz.prog.globalNamed n=some 6/\(Tryz.prog.globals[6]?).map (·.type)=some t/\mY prog m t=some a/\sV d=g6/\(nh Unit).bk d<=1048576:=⟨"internal/strconv.uint64pow10",Go.Proofs.YtfaccbkibjkfjaaGreatDoor.Rows.laid_internal_strconv_uint64pow10 (H:=Unit),375,List.replicate 20 (.i .u64),6,.tail _ (.tail _ (.head _)),k_,k_,k_,k_,qaZ k_⟩
theorem at9:∃n d t a m,(n,d)∈ik/\Tryz.prog.globalNamed n=some 9/\(Tryz.prog.globals[9]?).map (·.type)=some t/\mY prog m t=some a/\sV d=g9/\(nh Unit).bk d<=1048576:=⟨"math/bits.deBruijn32tab",Go.Proofs.YtfaccbkibjkfjaaGreatDoor.Rows.laid_math_bits_deBruijn32tab (H:=Unit),410,List.replicate 32 (.i .u8),6,.head _,k_,k_,k_,k_,qaZ k_⟩
theorem at10:∃n d t a m,(n,d)∈ik/\Tryz.prog.globalNamed n=some 10/\(Tryz.prog.globals[10]?).map (·.type)=some t/\mY prog m t=some a/\sV d=g10/\(nh Unit).bk d<=1048576:=⟨"math/bits.deBruijn64tab",Go.Proofs.YtfaccbkibjkfjaaGreatDoor.Rows.laid_math_bits_deBruijn64tab (H:=Unit),411,List.replicate 64 (.i .u8),6,.tail _ (.head _),k_,k_,k_,k_,qaZ k_⟩
def GL(m:Int)(g:Nat):Option (List PV):=if g=3\/g=7\/g=8 then none else GG m g
theorem ab3(j:laidMetH prog ik W)(k:W.ShapedOpen prog):∃m,rh (GG m) (fun b=>b<W.heap.size) W:=by obtain⟨m,c⟩:=maxLen k;refine⟨m,?_⟩;have e:laidMet prog ik W:=by{rw[<-Go.MakeChecks.laidMetH_plain _ _ _ k_];exact j};have f:=e.tail.tail.tail.tail;have l:=f.tail;obtain⟨ps,n,-⟩:=e;have p:=zk (G:=GL m) (nh Unit) 1048576 n (by intro g row a;unfold GL at a;split at a;{cases a};rename_i d;unfold GG at a;split at a;{cases a;exact at1};{cases a;exact at2};{exact absurd (.inl rfl) d};{cases a;exact at4};{cases a;exact at5};{cases a;exact at6};{exact absurd (.inr (.inl rfl)) d};{exact absurd (.inr (.inr rfl)) d};{cases a;exact at9};{cases a;exact at10};cases a);intro g row a;by_cases h:g=3\/g=7\/g=8;{rcases h with rfl|rfl|rfl;{cases a;refine⟨?_,_,c,⟨⟨_,r_,by simp only[aD];rfl⟩,by simp only[dm]⟩,rfl⟩;unfold At at c;cases i:W.heap[3]? with|none=>rw[i]at c;cases c|some o=>exact(qaK.1 i).1};{cases a;exact ahE l k_ k_};cases a;exact ahE f k_ k_};exact p g row (by unfold GL;rw[qai h];exact a)
theorem akp{H:Type}{enc:TypeId×Value->H}{f:Nat}{a:Array Value}{k l:List (DataW H)}{d:List MemPlace}{s:ChangeSpec}{apart:Bool}(hs:s=Go.Proofs.YtfaccbkibjkfjaaGreatDoor.Rows.messageSmallSpec)(g:∀(j:Nat) t v,Tryz.f6.params[j]? =some t->a[j]? =some v->Value.okWide prog W .any f t v)(n:DataW.Whole enc prog Tryz.f6.params.toList s.vars apart W a.toList k l d)(D:Go.Proofs.YtfaccbkibjkfjaaGreatDoor.Rows.uptoBulkAll (k++l)<=1048576)(r:laidMetH prog ik W)(u:W.ShapedOpen prog){fresh c again:Bool}: Calls prog 6 a W fun e w=>∃v,e=.returned v/\s.post enc prog Tryz.f6 apart fresh c again W a v w:=by subst hs;obtain⟨m,x⟩:=ab3 r u;have i:=n;obtain⟨p,q,o,y,rfl,z,A⟩:=n;rw[Tryz.params6]at o g;obtain⟨h,rfl,rfl⟩:=trodAll_nil o;obtain rfl:a=#[]:=by{cases a;simp_all};obtain⟨rfl,rfl⟩:=trodVars_none y;have B:=law6 (mx:=m);have C:aM (fun b=>b<W.heap.size) W [] []:=by{rw[aM]};refine IV (tb:=4) k_ Tryz.func6 rfl k_ B x C i k_ rfl rfl Tryz.underlying4 rfl
end
open Go.ChangeShapes Go.WideShapes Go.ChangeAt Go.RowKit
open Go.Proofs.YtfaccbkibjkfjaaGreatDoor
theorem own:ownKnob Tryz.prog.godebug=none:=k_
noncomputable abbrev N0:Nat:=(World.settled prog default).heap.size
def EC:PV->Value
 |.int k n=>.int k n
 |.bool b=>.bool b
 |.str s=>.string ⟨s.toArray⟩
 |_=>.nilIface
noncomputable def pW(a:Os):World:=
 let w0:=World.holding prog a ⟨#[.cells #[.string ⟨#[118,97,108,117,101,32,111,117,116,32,111,102,32,114,97,110,103,101]⟩] 405,.cells #[.string ⟨#[105,110,118,97,108,105,100,32,115,121,110,116,97,120]⟩] 405,.cells (Bu.flatten.map EC).toArray 345],#[],[]⟩
 let put (h:Array Go.Obj) (g:Nat) (b:Array Value):Array Go.Obj:=h.modify g fun
  |.cells _ t frozen=>.cells b t frozen
  |o=>o
 let c:=put w0.heap 8 #[.iface 403 (.pointer (some ⟨N0,0,none⟩))]
 let d:=put c 7 #[.iface 403 (.pointer (some ⟨N0+1,0,none⟩))]
 let e:=put d 2 #[.slice (some ⟨N0+2,0,none⟩) 6 6]
 let f:=put e 1 (g1.map EC).toArray
 let i:=put f 4 (g4.map EC).toArray
 let j:=put i 5 (g5.map EC).toArray
 let k:=put j 6 (g6.map EC).toArray
 let l:=put k 9 (g9.map EC).toArray
 let m:=put l 10 (g10.map EC).toArray
 {w0 with heap:=m}
theorem KV(b:Os)(a:Array Value):laidMet prog ik ((pW b).forCall (fun _ _=>0) ⟨#[],a,[]⟩).memory:=(LaidIn.of_run [9,10,6,5,8,N0,7,N0+1,1,2,N0+2,4] 8 k_ k_ k_ k_).met
def CJ:Array Value:=#[]
theorem CK(a:Os){H:Type}(enc:TypeId×Value->H): (Rows.OpenSpec.upto Rows.messageSmallSpec).preRow enc prog Tryz.f6 Rows.messageSmallUptoRow.domain false Rows.messageSmallUptoRow.laid ((pW a).forCall (fun _ _=>0) ⟨#[],CJ,[]⟩).memory CJ:=by have c:(DataW.whole enc prog ((pW a).forCall (fun _ _=>0) ⟨#[],CJ,[]⟩).memory Tryz.f6.params.toList Rows.messageSmallSpec.vars false CJ.toList 8).map (fun x=>(x.1,x.2.1))= some ([],[]):=k_;obtain⟨⟨f,g,h⟩,d,b⟩:=qah.1 c;simp only[qas]at b;obtain⟨rfl,rfl⟩:=b;exact OpenSpec.preRow_of_cond 8 d k_ (fun k e=>by cases e;kernel_rfl) k_ (KV a _)
set_option maxHeartbeats 2000000 in
theorem lifted(c:Os)(a:c.Started)(H:Type)(enc:TypeId×Value->H)(F:Stop.Interp): ReturnsInHanded {} Tryz.checked c 6 .any ((Rows.OpenSpec.upto Rows.messageSmallSpec).preRow enc prog Tryz.f6 Rows.messageSmallUptoRow.domain false Rows.messageSmallUptoRow.laid) (((Rows.OpenSpec.upto Rows.messageSmallSpec).at F).post enc prog Tryz.f6 false true false false):=by refine returnsInHanded_of_row (C:=Tryz.checked) (s:=Rows.OpenSpec.upto Rows.messageSmallSpec) own a k_ Tryz.func6 (witness_row_atRef (enc:=enc) (C:=Tryz.checked) false (pW c) CJ rfl k_ k_ k_ (CK c enc)) ?_;intro W e f k l d b g _ h _ i j _;exact akp rfl b g (qaZ (h _ rfl)) i j
theorem plain(f:FuncId)(a:Func)(c:Tryz.pinned.checked.prog.funcNamed "twistlock/twistlocklaw39.MessageSmall" =some f)(d:Tryz.pinned.checked.prog.funcs[f]? =some a): true=Tryz.pinned.checked.prog.looks []/\∀(j:Nat) t,a.params[j]? =some t->Tryz.pinned.checked.prog.wantsStandIn t=false:=by obtain rfl:f=6:=qa9 ((show Tryz.prog.funcNamed "twistlock/twistlocklaw39.MessageSmall" =some 6 by kernel_rfl).symm.trans c)|>.symm;obtain rfl:a=Tryz.f6:=(qa9 (Tryz.func6.symm.trans d)).symm;refine⟨k_,fun j t b=>?_⟩;rw[Tryz.params6]at b;simp at b
end Go.aA
