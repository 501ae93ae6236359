import Derived.Test.YtfaccbkibjkfjaaGreatDoorCards
import Derived.Test.YtfaccbkibjkfjaaGreatDoorTie
import Derived.WalkKit
import Derived.ProofKit
import Derived.OpenShut
import Derived.Deep.DeepHandedRow
import Derived.Lib.LaidTab
import Derived.MakeChecks
import Derived.WideShapes
import Derived.ChangeMaps5
import Derived.Shelf.LaysM
import Derived.Deep.DeepWitnessRowRef
import Derived.Lib.LaidIn
import Derived.Test.YtfaccbkibjkfjaaGreatDoorT21
import Derived.Test.YtfaccbkibjkfjaaGreatDoorT07
import Derived.Test.YtfaccbkibjkfjaaGreatDoorT47
import Derived.Test.YtfaccbkibjkfjaaGreatDoorT22
import Derived.Test.YtfaccbkibjkfjaaGreatDoorT41
set_option linter.all false
set_option maxRecDepth 100000
set_option maxHeartbeats 1000000
section
open Go Go.Am Go.Proofs
namespace Go.Proofs
open Go.Shelf
end Go.Proofs
namespace Go.bW
open Go.ChangeShapes Go.WideShapes Go.RowKit
abbrev iA:=Go.Proofs.YtfaccbkibjkfjaaGreatDoor.Rows.messageWritesUptoRow.laid
def rT (H:Type):EI H:={
 bk:=Go.Proofs.YtfaccbkibjkfjaaGreatDoor.Rows.uptoBulk
 al:=Go.Proofs.YtfaccbkibjkfjaaGreatDoor.Rows.uptoBulkAll
 one d:=by cases d<;>(try(rename_i l;cases l))<;>simp[Go.Proofs.YtfaccbkibjkfjaaGreatDoor.Rows.uptoBulk]
 cons x r:=by simp[Go.Proofs.YtfaccbkibjkfjaaGreatDoor.Rows.uptoBulkAll]
 slice es sp:=by simp[Go.Proofs.YtfaccbkibjkfjaaGreatDoor.Rows.uptoBulk]
 agg ps:=by simp[Go.Proofs.YtfaccbkibjkfjaaGreatDoor.Rows.uptoBulk]
 str s:=by simp[Go.Proofs.YtfaccbkibjkfjaaGreatDoor.Rows.uptoBulk]
 }
theorem sh32:pD Tryz.prog 6 32=some EW:=by kernel_rfl
theorem sh36:pD Tryz.prog 6 36=some Bv:=by kernel_rfl
theorem sh9:pD Tryz.prog 6 9=some [.s]:=by kernel_rfl
theorem WA:((((begin Tryz.prog (fun _ _=>0) default).world).heap[3]?).bind Go.Obj.row?)=some (#[.int .i64 0],3):=by kernel_rfl
theorem maxLen {W:World} (py:W.ShapedOpen Tryz.prog):∃m,ag W 3=some #[.int .i64 m]:=by
 obtain⟨m,hm⟩:=Tryz.LB.s1_3 W py;have zG:W.cell? ⟨3,0,none⟩=some (.int .i64 m):=hm;obtain⟨-,-,c,h1,h2⟩:=xx zG;obtain⟨cs,g1,g2,-⟩:=py.1 3 #[.int .i64 0] 3 (of_decide_eq_true (by kernel_rfl)) WA
 have hc:cs=c:=by
  unfold ag at h1;rw[g1]at h1;exact Option.some.inj h1
 subst hc;refine⟨m,?_⟩;rw[h1];have hs:cs.size=1:=g2
 congr 1
 apply Array.ext_getElem?
 intro i
 match i with
 |0=>simpa using h2
 |i+1=>rw[Array.getElem?_eq_none (by omega),Array.getElem?_eq_none (by simp)]
theorem at1:∃n d t sh m,(n,d)∈iA∧Tryz.prog.globalNamed n=some 1∧(Tryz.prog.globals[1]?).map (·.type)=some t∧pD Tryz.prog m t=some sh∧uz d=g1∧(rT Unit).bk d≤1048576:=
 ⟨"twistlock/slot.quarter",Go.Proofs.YtfaccbkibjkfjaaGreatDoor.Rows.laid_twistlock_slot_quarter (H:=Unit),265,List.replicate 3 (.i .i64),6,.tail _ (.tail _ (.tail _ (.tail _ (.tail _ (.tail _ (.head _)))))),by kernel_rfl,by kernel_rfl,by kernel_rfl,by kernel_rfl,of_decide_eq_true (by kernel_rfl)⟩
theorem at2:∃n d t sh m,(n,d)∈iA∧Tryz.prog.globalNamed n=some 2∧(Tryz.prog.globals[2]?).map (·.type)=some t∧pD Tryz.prog m t=some sh∧uz d=g2∧(rT Unit).bk d≤1048576:=
 ⟨"twistlock/iso.kinds",Go.Proofs.YtfaccbkibjkfjaaGreatDoor.Rows.laid_twistlock_iso_kinds (H:=Unit),344,[.l [.s,.i .u8,.b,.b]],6,.tail _ (.tail _ (.tail _ (.tail _ (.tail _ (.tail _ (.tail _ (.head _))))))),by kernel_rfl,by kernel_rfl,by kernel_rfl,by kernel_rfl,of_decide_eq_true (by kernel_rfl)⟩
theorem at4:∃n d t sh m,(n,d)∈iA∧Tryz.prog.globalNamed n=some 4∧(Tryz.prog.globals[4]?).map (·.type)=some t∧pD Tryz.prog m t=some sh∧uz d=g4∧(rT Unit).bk d≤1048576:=
 ⟨"unicode/utf8.first",Go.Proofs.YtfaccbkibjkfjaaGreatDoor.Rows.laid_unicode_utf8_first,354,List.replicate 256 (.i .u8),6,.tail _ (.tail _ (.tail _ (.tail _ (.tail _ (.tail _ (.tail _ (.tail _ (.head _)))))))),by kernel_rfl,by kernel_rfl,by kernel_rfl,by kernel_rfl,of_decide_eq_true (by kernel_rfl)⟩
theorem at5:∃n d t sh m,(n,d)∈iA∧Tryz.prog.globalNamed n=some 5∧(Tryz.prog.globals[5]?).map (·.type)=some t∧pD Tryz.prog m t=some sh∧uz d=g5∧(rT Unit).bk d≤1048576:=
 ⟨"unicode/utf8.acceptRanges",Go.Proofs.YtfaccbkibjkfjaaGreatDoor.Rows.laid_unicode_utf8_acceptRanges (H:=Unit),357,List.replicate 32 (.i .u8),6,.tail _ (.tail _ (.tail _ (.head _))),by kernel_rfl,by kernel_rfl,by kernel_rfl,by kernel_rfl,of_decide_eq_true (by kernel_rfl)⟩
theorem at6:∃n d t sh m,(n,d)∈iA∧Tryz.prog.globalNamed n=some 6∧(Tryz.prog.globals[6]?).map (·.type)=some t∧pD Tryz.prog m t=some sh∧uz d=g6∧(rT Unit).bk d≤1048576:=
 ⟨"internal/strconv.uint64pow10",Go.Proofs.YtfaccbkibjkfjaaGreatDoor.Rows.laid_internal_strconv_uint64pow10 (H:=Unit),375,List.replicate 20 (.i .u64),6,.tail _ (.tail _ (.head _)),by kernel_rfl,by kernel_rfl,by kernel_rfl,by kernel_rfl,of_decide_eq_true (by kernel_rfl)⟩
theorem at9:∃n d t sh m,(n,d)∈iA∧Tryz.prog.globalNamed n=some 9∧(Tryz.prog.globals[9]?).map (·.type)=some t∧pD Tryz.prog m t=some sh∧uz d=g9∧(rT Unit).bk d≤1048576:=
 ⟨"math/bits.deBruijn32tab",Go.Proofs.YtfaccbkibjkfjaaGreatDoor.Rows.laid_math_bits_deBruijn32tab (H:=Unit),410,List.replicate 32 (.i .u8),6,.head _,by kernel_rfl,by kernel_rfl,by kernel_rfl,by kernel_rfl,of_decide_eq_true (by kernel_rfl)⟩
theorem at10:∃n d t sh m,(n,d)∈iA∧Tryz.prog.globalNamed n=some 10∧(Tryz.prog.globals[10]?).map (·.type)=some t∧pD Tryz.prog m t=some sh∧uz d=g10∧(rT Unit).bk d≤1048576:=
 ⟨"math/bits.deBruijn64tab",Go.Proofs.YtfaccbkibjkfjaaGreatDoor.Rows.laid_math_bits_deBruijn64tab (H:=Unit),411,List.replicate 64 (.i .u8),6,.tail _ (.head _),by kernel_rfl,by kernel_rfl,by kernel_rfl,by kernel_rfl,of_decide_eq_true (by kernel_rfl)⟩
def GL (m:Int) (g:Nat):Option (List PV):=if g=3 then none else GG m g
theorem abX {W:World} (hL:laidMetH Tryz.prog iA W) (py:W.ShapedOpen Tryz.prog):∃m,uq (GG m) (fun b=>b<W.heap.size) W:=by
 obtain⟨m,hm⟩:=maxLen py;refine⟨m,?_⟩
 have hlm:laidMet Tryz.prog iA W:=by rw[←Go.MakeChecks.laidMetH_plain _ _ _ (by kernel_rfl)];exact hL
 obtain⟨ps,hv,-⟩:=hlm
 have hG:=A4 (G:=GL m) (rT Unit) 1048576 hv (by
  intro g row hg;unfold GL at hg;split at hg
  ·cases hg
  ·unfold GG at hg;split at hg
   ·cases hg;exact at1
   ·cases hg;exact at2
   ·exact absurd rfl (by assumption)
   ·cases hg;exact at4
   ·cases hg;exact at5
   ·cases hg;exact at6
   ·cases hg;exact at9
   ·cases hg;exact at10
   ·cases hg)
 intro g row hg
 by_cases h3:g=3
 ·subst h3
  cases hg
  refine⟨?_,_,hm,⟨⟨_,by rfl,by simp only[aJ];rfl⟩,by simp only[b7]⟩,rfl⟩;unfold ag at hm
  cases hh:W.heap[3]? with
  |none=>rw[hh]at hm;cases hm
  |some o=>exact(Array.getElem?_eq_some_iff.1 hh).1
 ·exact hG g row (by unfold GL;rw[if_neg h3];exact hg)
theorem LC (K3:∀m,ar Tryz.prog (GG m) 12 [] (.bool true)) {H:Type} {enc:TypeId×Value→H} {W:World} {base:Nat} {args:Array Value} {ds gs:List (DataW H)} {before:List MemPlace} {s:ChangeSpec} {apart:Bool}
  (hs:s=Go.Proofs.YtfaccbkibjkfjaaGreatDoor.Rows.messageWritesSpec)
  (DA:∀(j:Nat) t v,Tryz.f3.params[j]? =some t→args[j]? =some v→Value.okWide Tryz.prog W .any base t v)
  (hW:DataW.Whole enc Tryz.prog Tryz.f3.params.toList s.vars apart W args.toList ds gs before) (hk:Go.Proofs.YtfaccbkibjkfjaaGreatDoor.Rows.uptoBulkAll (ds++gs)≤1048576) (hL:laidMetH Tryz.prog iA W) (py:W.ShapedOpen Tryz.prog) {fresh handsOn again:Bool}:
  Calls Tryz.prog 3 args W fun e W'=>∃v,e=.returned v∧s.post enc Tryz.prog Tryz.f3 apart fresh handsOn again W args v W':=by
 subst hs;obtain⟨m,hg⟩:=abX hL py;have hW':=hW;obtain⟨p,q,hA,hV,rfl,hfz,hnd⟩:=hW;rw[Tryz.params3]at hA DA;obtain⟨v1,vs1,d1,ds1,p1,q1,jV,rfl,rfl,h1,r1⟩:=trodAll_cons hA;obtain⟨v2,vs2,d2,ds2,p2,q2,rfl,rfl,rfl,h2,r2⟩:=trodAll_cons r1;obtain⟨v3,vs3,d3,ds3,p3,q3,rfl,rfl,rfl,h3,r3⟩:=trodAll_cons r2;obtain⟨rfl,rfl,rfl⟩:=trodAll_nil r3
 obtain rfl:args=#[v1,v2,v3]:=by cases args;simp_all
 obtain⟨rfl,rfl⟩:=trodVars_none hV;obtain⟨f1,h1⟩:=h1;obtain⟨f3,h3⟩:=h3;obtain⟨c1,rfl,-⟩:=okWide_struct Tryz.underlying32 (DA 0 32 v1 rfl rfl);obtain⟨c3,rfl,-⟩:=okWide_struct Tryz.underlying36 (DA 2 36 v3 rfl rfl);have hb:=hk;simp only[List.cons_append,List.nil_append,List.append_nil,Go.Proofs.YtfaccbkibjkfjaaGreatDoor.Rows.uptoBulkAll]at hb;obtain⟨abY,ty1⟩:=xy (rT H) 1048576 f1 6 32 EW c1.toList d1 p1 sh32 h1 (by show Go.Proofs.YtfaccbkibjkfjaaGreatDoor.Rows.uptoBulk d1≤_;omega)
 obtain⟨abZ,ty3⟩:=xy (rT H) 1048576 f3 6 36 Bv c3.toList d3 p3 sh36 h3 (by show Go.Proofs.YtfaccbkibjkfjaaGreatDoor.Rows.uptoBulk d3≤_;omega);obtain⟨ref,rfl,rfl,rfl,-⟩:=Go.ChangeMaps.open_string Tryz.underlying9 (DA 1 9 v2 rfl rfl) h2;obtain⟨c,csp,vv,vsp,r,rsp,f,fsp,t,tsp,l1,l2,l3,l4,m1,m2,m3,m4,cl,vl,rl,fl,tl,e1,pj⟩:=Vz ty1;obtain⟨call,port,bF,bsp,rows,sp,boxes,l,e3,lI,gN,cq,oC,bL⟩:=OE ty3;have hp:=VW (csp:=csp) (vsp:=vsp) (rsp:=rsp) (fsp:=fsp) (tsp:=tsp) (l1:=l1) (l2:=l2) (l3:=l3) (l4:=l4) (m1:=m1) (m2:=m2) (m3:=m3) (m4:=m4) (bsp:=bsp) (sp:=sp) (port:=port) (ref:=ref.data.toList) Wz (K3 m) pj cq gN oC bL lI
 have jV:a7 (fun b=>b<W.heap.size) W [.agg [.sl c csp,.sl vv vsp,.int .i64 l1,.int .i64 l2,.int .i64 l3,.int .i64 l4,.sl r rsp,.sl f fsp,.sl t tsp,.int .i64 m1,.int .i64 m2,.int .i64 m3,.int .i64 m4],.str ref.data.toList,.agg [.int .i64 call,.str port,.sl bF bsp,.sl rows sp]] [Value.agg c1,Value.string ref,Value.agg c3]:=by
  rw[e1]at abY;rw[e3]at abZ;rw[a7];refine⟨_,_,rfl,?_,?_⟩
  ·rw[aJ];exact⟨_,by rw[Array.toArray_toList],abY⟩
  rw[a7];refine⟨_,_,rfl,?_,?_⟩
  ·rw[aJ]
  rw[a7];refine⟨_,_,rfl,?_,?_⟩
  ·rw[aJ];exact⟨_,by rw[Array.toArray_toList],abZ⟩
  ·rw[a7]
 refine Kh (tb:=4) (by kernel_rfl) Tryz.func3 rfl (by kernel_rfl) hp hg jV hW' (by kernel_rfl) rfl rfl Tryz.underlying4 rfl
end Go.bW
end
section
open Go Go.Am Go.Proofs
namespace Go.bW
open Go.ChangeShapes Go.WideShapes Go.ChangeAt Go.RowKit
open Go.Proofs.YtfaccbkibjkfjaaGreatDoor
theorem own:ownKnob Tryz.prog.godebug=none:=by kernel_rfl
noncomputable abbrev N0:Nat:=(World.settled Tryz.prog default).heap.size
def FD:PV→Value
 |.int k n=>.int k n
 |.bool b=>.bool b
 |.str s=>.string ⟨s.toArray⟩
 |_=>.nilIface
noncomputable def q8 (os:Os):World:=
 let w0:=World.holding Tryz.prog os ⟨#[.cells #[.string ⟨#[118,97,108,117,101,32,111,117,116,32,111,102,32,114,97,110,103,101]⟩] 405,.cells #[.string ⟨#[105,110,118,97,108,105,100,32,115,121,110,116,97,120]⟩] 405,.cells (CW.flatten.map FD).toArray 345],#[],[]⟩
 let put (h:Array Go.Obj) (g:Nat) (cs:Array Value):Array Go.Obj:=h.modify g fun
  |.cells _ t frozen=>.cells cs t frozen
  |o=>o
 let h1:=put w0.heap 8 #[.iface 403 (.pointer (some ⟨N0,0,none⟩))]
 let h2:=put h1 7 #[.iface 403 (.pointer (some ⟨N0+1,0,none⟩))]
 let h3:=put h2 2 #[.slice (some ⟨N0+2,0,none⟩) 6 6]
 let h4:=put h3 1 (g1.map FD).toArray
 let h5:=put h4 4 (g4.map FD).toArray
 let h6:=put h5 5 (g5.map FD).toArray
 let h7:=put h6 6 (g6.map FD).toArray
 let h8:=put h7 9 (g9.map FD).toArray
 let h9:=put h8 10 (g10.map FD).toArray
 {w0 with heap:=h9}
theorem LD (os:Os) (args:Array Value):laidMet Tryz.prog iA ((q8 os).forCall (fun _ _=>0) ⟨#[],args,[]⟩).memory:=
 (LaidIn.of_run [9,10,6,5,8,N0,7,N0+1,1,2,N0+2,4] 8 (by kernel_rfl) (by kernel_rfl) (by kernel_rfl) (by kernel_rfl)).met
def DG:Array Value:=#[.agg #[.slice none 0 0,.slice none 0 0,.int .i64 0,.int .i64 0,.int .i64 0,.int .i64 0,.slice none 0 0,.slice none 0 0,.slice none 0 0,.int .i64 0,.int .i64 0,.int .i64 0,.int .i64 0],.string ⟨#[]⟩,.agg #[.int .i64 0,.string ⟨#[]⟩,.slice none 0 0,.slice none 0 0]]
theorem DH (os:Os) {H:Type} (enc:TypeId×Value→H):
  (Rows.OpenSpec.upto Rows.messageWritesSpec).preRow enc Tryz.prog Tryz.f3 Rows.messageWritesUptoRow.domain false Rows.messageWritesUptoRow.laid ((q8 os).forCall (fun _ _=>0) ⟨#[],DG,[]⟩).memory DG:=by
 have hw:(DataW.whole enc Tryz.prog ((q8 os).forCall (fun _ _=>0) ⟨#[],DG,[]⟩).memory Tryz.f3.params.toList Rows.messageWritesSpec.vars false DG.toList 8).map (fun x=>(x.1,x.2.1))=
   some ([.agg [.nil,.nil,.agg [.lit (.int .i64 0),.lit (.int .i64 0),.lit (.int .i64 0),.lit (.int .i64 0)],.nil,.nil,.nil,.agg [.lit (.int .i64 0),.lit (.int .i64 0),.lit (.int .i64 0),.lit (.int .i64 0)]],.lit (.string []),.agg [.lit (.int .i64 0),.lit (.string []),.nil,.nil]],[]):=by kernel_rfl
 obtain⟨⟨x1,x2,x3⟩,hx,Yd⟩:=Option.map_eq_some_iff.1 hw;simp only[Prod.mk.injEq]at Yd;obtain⟨rfl,rfl⟩:=Yd;exact OpenSpec.preRow_of_cond 8 hx (by kernel_rfl) (fun k hk=>by cases hk;kernel_rfl) (by kernel_rfl) (LD os _)
set_option maxHeartbeats 2000000 in
theorem lifted (K3:∀m,ar Tryz.prog (GG m) 12 [] (.bool true)) (os:Os) (started:os.Started) (H:Type) (enc:TypeId×Value→H) (F:Stop.Interp):
  ReturnsInHanded {} Tryz.checked os 3 .any ((Rows.OpenSpec.upto Rows.messageWritesSpec).preRow enc Tryz.prog Tryz.f3 Rows.messageWritesUptoRow.domain false Rows.messageWritesUptoRow.laid) (((Rows.OpenSpec.upto Rows.messageWritesSpec).at F).post enc Tryz.prog Tryz.f3 false true false false):=by
 refine returnsInHanded_of_row (C:=Tryz.checked) (s:=Rows.OpenSpec.upto Rows.messageWritesSpec) own started (by kernel_rfl) Tryz.func3
  (witness_row_atRef (enc:=enc) (C:=Tryz.checked) false (q8 os) DG rfl (by kernel_rfl) (by kernel_rfl) (by kernel_rfl) (DH os enc)) ?_
 intro W base args ds gs before DA hW _ mY _ hL py _;exact LC K3 rfl DA hW (of_decide_eq_true (mY _ rfl)) hL py
theorem plain (f:FuncId) (fn:Func) (hf:Tryz.pinned.checked.prog.funcNamed "twistlock/twistlocklaw39.MessageWrites" =some f) (RA:Tryz.pinned.checked.prog.funcs[f]? =some fn):
  true=Tryz.pinned.checked.prog.looks []∧∀(j:Nat) t,fn.params[j]? =some t→Tryz.pinned.checked.prog.wantsStandIn t=false:=by
 obtain rfl:f=3:=Option.some.inj ((show Tryz.prog.funcNamed "twistlock/twistlocklaw39.MessageWrites" =some 3 by kernel_rfl).symm.trans hf)|>.symm;obtain rfl:fn=Tryz.f3:=(Option.some.inj (Tryz.func3.symm.trans RA)).symm;refine⟨by kernel_rfl,fun j t ht=>?_⟩;rw[Tryz.params3]at ht
 have:t=32∨t=9∨t=36:=by simpa using Array.mem_of_getElem? ht
 rcases this with rfl|rfl|rfl
 ·exact(show Tryz.prog.wantsStandIn 32=false by kernel_rfl)
 ·exact(show Tryz.prog.wantsStandIn 9=false by kernel_rfl)
 ·exact(show Tryz.prog.wantsStandIn 36=false by kernel_rfl)
end Go.bW
end
