import Derived.Deep.DeepWitnessRowRef
import Derived.Lib.LaidIn
import Derived.Test.YtjclmfaodngbfaaGreatDoorT42
set_option linter.all false
set_option maxRecDepth 100000
set_option maxHeartbeats 1000000
namespace Go.bt
open Go Go.Am Go.Proofs
open Go.ChangeShapes Go.WideShapes Go.ChangeAt Go.RowKit
open Go.Proofs.YtjclmfaodngbfaaGreatDoor
theorem own:ownKnob Tryz.prog.godebug=none:=by kernel_rfl
noncomputable abbrev N0:Nat:=(World.settled Tryz.prog default).heap.size
def EC:PV->Value
 |.int k n=>.int k n
 |.bool b=>.bool b
 |.str s=>.string ⟨s.toArray⟩
 |_=>.nilIface
noncomputable def pW(a:Os):World:=
 let w0:=World.holding Tryz.prog a ⟨#[.cells #[.string ⟨#[118,97,108,117,101,32,111,117,116,32,111,102,32,114,97,110,103,101]⟩] 390,.cells #[.string ⟨#[105,110,118,97,108,105,100,32,115,121,110,116,97,120]⟩] 390],#[],[]⟩
 let put (h:Array Go.Obj) (g:Nat) (b:Array Value):Array Go.Obj:=h.modify g fun
  |.cells _ t frozen=>.cells b t frozen
  |o=>o
 let c:=put w0.heap 6 #[.iface 388 (.pointer (some ⟨N0,0,none⟩))]
 let d:=put c 5 #[.iface 388 (.pointer (some ⟨N0+1,0,none⟩))]
 let e:=put d 3 (g4.map EC).toArray
 let f:=put e 4 (g5.map EC).toArray
 let i:=put f 7 (g6.map EC).toArray
 let j:=put i 8 (g9.map EC).toArray
 let k:=put j 9 (g10.map EC).toArray
 {w0 with heap:=k}
theorem KV(b:Os)(a:Array Value):laidMet Tryz.prog ik ((pW b).forCall (fun _ _=>0) ⟨#[],a,[]⟩).memory:=(LaidIn.of_run [8,9,7,4,6,N0,5,N0+1,3] 8 (by kernel_rfl) (by kernel_rfl) (by kernel_rfl) (by kernel_rfl)).met
def CJ:Array Value:=#[.slice none 0 0,.int .u32 0,.slice none 0 0,.int .u8 0,.int .u8 0]
theorem CK(a:Os){H:Type}(enc:TypeId×Value->H): (Rows.OpenSpec.upto Rows.drawAloneSpec).preRow enc Tryz.prog Tryz.f4 Rows.drawAloneUptoRow.domain false Rows.drawAloneUptoRow.laid ((pW a).forCall (fun _ _=>0) ⟨#[],CJ,[]⟩).memory CJ:=by have c:(DataW.whole enc Tryz.prog ((pW a).forCall (fun _ _=>0) ⟨#[],CJ,[]⟩).memory Tryz.f4.params.toList Rows.drawAloneSpec.vars false CJ.toList 8).map (fun x=>(x.1,x.2.1))= some ([.nil,.lit (.int .u32 0),.nil,.lit (.int .u8 0),.lit (.int .u8 0)],[]):=by{kernel_rfl};obtain⟨⟨f,g,h⟩,d,b⟩:=Option.map_eq_some_iff.1 c;simp only[Prod.mk.injEq]at b;obtain⟨rfl,rfl⟩:=b;exact OpenSpec.preRow_of_cond 8 d (by kernel_rfl) (fun k e=>by cases e;kernel_rfl) (by kernel_rfl) (KV a _)
set_option maxHeartbeats 2000000 in
theorem lifted(c:Os)(a:c.Started)(H:Type)(enc:TypeId×Value->H)(F:Stop.Interp): ReturnsInHanded {} Tryz.checked c 4 .any ((Rows.OpenSpec.upto Rows.drawAloneSpec).preRow enc Tryz.prog Tryz.f4 Rows.drawAloneUptoRow.domain false Rows.drawAloneUptoRow.laid) (((Rows.OpenSpec.upto Rows.drawAloneSpec).at F).post enc Tryz.prog Tryz.f4 false true false false):=by refine returnsInHanded_of_row (C:=Tryz.checked) (s:=Rows.OpenSpec.upto Rows.drawAloneSpec) own a (by kernel_rfl) Tryz.func4 (witness_row_atRef (enc:=enc) (C:=Tryz.checked) false (pW c) CJ rfl (by kernel_rfl) (by kernel_rfl) (by kernel_rfl) (CK c enc)) ?_;intro W e f k l d b g _ h _ i j _;exact akp rfl b g (of_decide_eq_true (h _ rfl)) i j
theorem plain(f:FuncId)(a:Func)(c:Tryz.pinned.checked.prog.funcNamed "twistlock/twistlocklaw41.DrawAlone" =some f)(d:Tryz.pinned.checked.prog.funcs[f]? =some a): true=Tryz.pinned.checked.prog.looks []/\∀(j:Nat) t,a.params[j]? =some t->Tryz.pinned.checked.prog.wantsStandIn t=false:=by obtain rfl:f=4:=Option.some.inj ((show Tryz.prog.funcNamed "twistlock/twistlocklaw41.DrawAlone" =some 4 by kernel_rfl).symm.trans c)|>.symm;obtain rfl:a=Tryz.f4:=(Option.some.inj (Tryz.func4.symm.trans d)).symm;refine⟨by kernel_rfl,fun j t b=>?_⟩;rw[Tryz.params4]at b;have:t=45\/t=46\/t=47\/t=5:=by{simpa using Array.mem_of_getElem? b};rcases this with rfl|rfl|rfl|rfl;{exact(show Tryz.prog.wantsStandIn 45=false by kernel_rfl)};{exact(show Tryz.prog.wantsStandIn 46=false by kernel_rfl)};{exact(show Tryz.prog.wantsStandIn 47=false by kernel_rfl)};exact(show Tryz.prog.wantsStandIn 5=false by kernel_rfl)
end Go.bt
