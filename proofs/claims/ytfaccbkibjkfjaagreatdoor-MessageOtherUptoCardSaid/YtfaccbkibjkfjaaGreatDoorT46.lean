import Derived.Test.YtfaccbkibjkfjaaGreatDoorCards
import Derived.Test.YtfaccbkibjkfjaaGreatDoorTie
import Derived.WalkKit
import Derived.ProofKit
import Derived.OpenShut
import Derived.Deep.DeepHandedRow
import Derived.Lib.LaidTab
import Derived.MakeChecks
import Derived.WideShapes
import Derived.ChangeMaps5
import Derived.Shelf.LaysM
import Derived.Deep.DeepWitnessRowRef
import Derived.Lib.LaidIn
import Derived.Test.YtfaccbkibjkfjaaGreatDoorT14
import Derived.Test.YtfaccbkibjkfjaaGreatDoorT07
import Derived.Test.YtfaccbkibjkfjaaGreatDoorT23
import Derived.Test.YtfaccbkibjkfjaaGreatDoorT28
set_option linter.all false
set_option maxRecDepth 100000
set_option maxHeartbeats 1000000
section
open Go Go.Am Go.Proofs
namespace Go.Proofs
open Go.Shelf
end Go.Proofs
namespace Go.bt
open Go.ChangeShapes Go.WideShapes Go.RowKit
abbrev ik:=Go.Proofs.YtfaccbkibjkfjaaGreatDoor.Rows.messageOtherUptoRow.laid
def nh (H:Type):Dt H:={
 bk:=Go.Proofs.YtfaccbkibjkfjaaGreatDoor.Rows.uptoBulk
 al:=Go.Proofs.YtfaccbkibjkfjaaGreatDoor.Rows.uptoBulkAll
 one d:=by cases d<;>(try(rename_i l;cases l))<;>simp[Go.Proofs.YtfaccbkibjkfjaaGreatDoor.Rows.uptoBulk]
 cons x r:=by simp[Go.Proofs.YtfaccbkibjkfjaaGreatDoor.Rows.uptoBulkAll]
 slice es sp:=by simp[Go.Proofs.YtfaccbkibjkfjaaGreatDoor.Rows.uptoBulk]
 agg ps:=by simp[Go.Proofs.YtfaccbkibjkfjaaGreatDoor.Rows.uptoBulk]
 str s:=by simp[Go.Proofs.YtfaccbkibjkfjaaGreatDoor.Rows.uptoBulk]
 }
theorem sh5:mY Tryz.prog 6 5=some [.i .u8]:=by kernel_rfl
theorem sh77:mY Tryz.prog 6 77=some [.l Cl]:=by kernel_rfl
theorem ajZ:mY Tryz.prog 6 78=some [.l Kv]:=by kernel_rfl
theorem sh81:mY Tryz.prog 6 81=some [.i .u32]:=by kernel_rfl
theorem sh82:mY Tryz.prog 6 82=some [.l [.i .u8]]:=by kernel_rfl
theorem Wf:((((begin Tryz.prog (fun _ _=>0) default).world).heap[3]?).bind Go.Obj.row?)=some (#[.int .i64 0],3):=by kernel_rfl
theorem maxLen {W:World} (ou:W.ShapedOpen Tryz.prog):∃m,At W 3=some #[.int .i64 m]:=by
 obtain⟨m,hm⟩:=Tryz.Ks.s1_3 W ou;have yi:W.cell? ⟨3,0,none⟩=some (.int .i64 m):=hm;obtain⟨-,-,c,h1,h2⟩:=vS yi;obtain⟨cs,g1,g2,-⟩:=ou.1 3 #[.int .i64 0] 3 (qaZ (by kernel_rfl)) Wf
 have hc:cs=c:=by
  unfold At at h1;rw[g1]at h1;exact qa9 h1
 subst hc;refine⟨m,?_⟩;rw[h1];have hs:cs.size=1:=g2
 congr 1
 apply qcB
 intro i
 match i with
 |0=>simpa using h2
 |i+1=>rw[qb2 (by omega),qb2 (by simp)]
theorem at0:∃n d t sh m,(n,d)∈ik∧Tryz.prog.globalNamed n=some 0∧(Tryz.prog.globals[0]?).map (·.type)=some t∧mY Tryz.prog m t=some sh∧sV d=g0∧(nh Unit).bk d≤1048576:=
 ⟨"twistlock/twistlocklaw24.ports",Go.Proofs.YtfaccbkibjkfjaaGreatDoor.Rows.laid_twistlock_twistlocklaw24_ports (H:=Unit),151,List.replicate 6 .s,6,.tail _ (.tail _ (.tail _ (.tail _ (.tail _ (.tail _ (.tail _ (.tail _ (.head _)))))))),by kernel_rfl,by kernel_rfl,by kernel_rfl,by kernel_rfl,qaZ (by kernel_rfl)⟩
theorem at1:∃n d t sh m,(n,d)∈ik∧Tryz.prog.globalNamed n=some 1∧(Tryz.prog.globals[1]?).map (·.type)=some t∧mY Tryz.prog m t=some sh∧sV d=g1∧(nh Unit).bk d≤1048576:=
 ⟨"twistlock/slot.quarter",Go.Proofs.YtfaccbkibjkfjaaGreatDoor.Rows.laid_twistlock_slot_quarter (H:=Unit),265,List.replicate 3 (.i .i64),6,.tail _ (.tail _ (.tail _ (.tail _ (.tail _ (.tail _ (.head _)))))),by kernel_rfl,by kernel_rfl,by kernel_rfl,by kernel_rfl,qaZ (by kernel_rfl)⟩
theorem at2:∃n d t sh m,(n,d)∈ik∧Tryz.prog.globalNamed n=some 2∧(Tryz.prog.globals[2]?).map (·.type)=some t∧mY Tryz.prog m t=some sh∧sV d=g2∧(nh Unit).bk d≤1048576:=
 ⟨"twistlock/iso.kinds",Go.Proofs.YtfaccbkibjkfjaaGreatDoor.Rows.laid_twistlock_iso_kinds (H:=Unit),344,[.l [.s,.i .u8,.b,.b]],6,.tail _ (.tail _ (.tail _ (.tail _ (.tail _ (.tail _ (.tail _ (.head _))))))),by kernel_rfl,by kernel_rfl,by kernel_rfl,by kernel_rfl,qaZ (by kernel_rfl)⟩
theorem at4:∃n d t sh m,(n,d)∈ik∧Tryz.prog.globalNamed n=some 4∧(Tryz.prog.globals[4]?).map (·.type)=some t∧mY Tryz.prog m t=some sh∧sV d=g4∧(nh Unit).bk d≤1048576:=
 ⟨"unicode/utf8.first",Go.Proofs.YtfaccbkibjkfjaaGreatDoor.Rows.laid_unicode_utf8_first,354,List.replicate 256 (.i .u8),6,.tail _ (.tail _ (.tail _ (.tail _ (.tail _ (.tail _ (.tail _ (.tail _ (.tail _ (.head _))))))))),by kernel_rfl,by kernel_rfl,by kernel_rfl,by kernel_rfl,qaZ (by kernel_rfl)⟩
theorem at5:∃n d t sh m,(n,d)∈ik∧Tryz.prog.globalNamed n=some 5∧(Tryz.prog.globals[5]?).map (·.type)=some t∧mY Tryz.prog m t=some sh∧sV d=g5∧(nh Unit).bk d≤1048576:=
 ⟨"unicode/utf8.acceptRanges",Go.Proofs.YtfaccbkibjkfjaaGreatDoor.Rows.laid_unicode_utf8_acceptRanges (H:=Unit),357,List.replicate 32 (.i .u8),6,.tail _ (.tail _ (.tail _ (.head _))),by kernel_rfl,by kernel_rfl,by kernel_rfl,by kernel_rfl,qaZ (by kernel_rfl)⟩
theorem at6:∃n d t sh m,(n,d)∈ik∧Tryz.prog.globalNamed n=some 6∧(Tryz.prog.globals[6]?).map (·.type)=some t∧mY Tryz.prog m t=some sh∧sV d=g6∧(nh Unit).bk d≤1048576:=
 ⟨"internal/strconv.uint64pow10",Go.Proofs.YtfaccbkibjkfjaaGreatDoor.Rows.laid_internal_strconv_uint64pow10 (H:=Unit),375,List.replicate 20 (.i .u64),6,.tail _ (.tail _ (.head _)),by kernel_rfl,by kernel_rfl,by kernel_rfl,by kernel_rfl,qaZ (by kernel_rfl)⟩
theorem at9:∃n d t sh m,(n,d)∈ik∧Tryz.prog.globalNamed n=some 9∧(Tryz.prog.globals[9]?).map (·.type)=some t∧mY Tryz.prog m t=some sh∧sV d=g9∧(nh Unit).bk d≤1048576:=
 ⟨"math/bits.deBruijn32tab",Go.Proofs.YtfaccbkibjkfjaaGreatDoor.Rows.laid_math_bits_deBruijn32tab (H:=Unit),410,List.replicate 32 (.i .u8),6,.head _,by kernel_rfl,by kernel_rfl,by kernel_rfl,by kernel_rfl,qaZ (by kernel_rfl)⟩
theorem at10:∃n d t sh m,(n,d)∈ik∧Tryz.prog.globalNamed n=some 10∧(Tryz.prog.globals[10]?).map (·.type)=some t∧mY Tryz.prog m t=some sh∧sV d=g10∧(nh Unit).bk d≤1048576:=
 ⟨"math/bits.deBruijn64tab",Go.Proofs.YtfaccbkibjkfjaaGreatDoor.Rows.laid_math_bits_deBruijn64tab (H:=Unit),411,List.replicate 64 (.i .u8),6,.tail _ (.head _),by kernel_rfl,by kernel_rfl,by kernel_rfl,by kernel_rfl,qaZ (by kernel_rfl)⟩
def GL (m:Int) (g:Nat):Option (List PV):=if g=3 then none else GG m g
theorem ab3 {W:World} (hL:laidMetH Tryz.prog ik W) (ou:W.ShapedOpen Tryz.prog):∃m,rh (GG m) (fun b=>b<W.heap.size) W:=by
 obtain⟨m,hm⟩:=maxLen ou;refine⟨m,?_⟩
 have hlm:laidMet Tryz.prog ik W:=by rw[←Go.MakeChecks.laidMetH_plain _ _ _ (by kernel_rfl)];exact hL
 obtain⟨ps,hv,-⟩:=hlm
 have hG:=zk (G:=GL m) (nh Unit) 1048576 hv (by
  intro g row hg;unfold GL at hg;split at hg
  ·cases hg
  ·unfold GG at hg;split at hg
   ·cases hg;exact at0
   ·cases hg;exact at1
   ·cases hg;exact at2
   ·exact absurd rfl (by assumption)
   ·cases hg;exact at4
   ·cases hg;exact at5
   ·cases hg;exact at6
   ·cases hg;exact at9
   ·cases hg;exact at10
   ·cases hg)
 intro g row hg
 by_cases h3:g=3
 ·subst h3
  cases hg
  refine⟨?_,_,hm,⟨⟨_,by rfl,by simp only[aD];rfl⟩,by simp only[dm]⟩,rfl⟩;unfold At at hm
  cases hh:W.heap[3]? with
  |none=>rw[hh]at hm;cases hm
  |some o=>exact(qaK.1 hh).1
 ·exact hG g row (by unfold GL;rw[qai h3];exact hg)
theorem KR (HB:∀m,bE Tryz.prog (GG m) 12 [] (.bool true)) {H:Type} {enc:TypeId×Value→H} {W:World} {base:Nat} {args:Array Value} {ds gs:List (DataW H)} {before:List MemPlace} {s:ChangeSpec} {apart:Bool}
  (hs:s=Go.Proofs.YtfaccbkibjkfjaaGreatDoor.Rows.messageOtherSpec)
  (hval:∀(j:Nat) t v,Tryz.f8.params[j]? =some t→args[j]? =some v→Value.okWide Tryz.prog W .any base t v)
  (hW:DataW.Whole enc Tryz.prog Tryz.f8.params.toList s.vars apart W args.toList ds gs before) (hk:Go.Proofs.YtfaccbkibjkfjaaGreatDoor.Rows.uptoBulkAll (ds++gs)≤1048576) (hL:laidMetH Tryz.prog ik W) (ou:W.ShapedOpen Tryz.prog) {fresh handsOn again:Bool}:
  Calls Tryz.prog 8 args W fun e W'=>∃v,e=.returned v∧s.post enc Tryz.prog Tryz.f8 apart fresh handsOn again W args v W':=by
 subst hs;obtain⟨m,hg⟩:=ab3 hL ou;have hW':=hW;obtain⟨p,q,hA,hV,rfl,hfz,hnd⟩:=hW;rw[Tryz.params8]at hA hval;obtain⟨v1,vs1,d1,ds1,p1,q1,eQ,rfl,rfl,h1,r1⟩:=trodAll_cons hA;obtain⟨v2,vs2,d2,ds2,p2,q2,rfl,rfl,rfl,h2,r2⟩:=trodAll_cons r1;obtain⟨v3,vs3,d3,ds3,p3,q3,rfl,rfl,rfl,h3,r3⟩:=trodAll_cons r2;obtain⟨v4,vs4,d4,ds4,p4,q4,rfl,rfl,rfl,h4,r4⟩:=trodAll_cons r3;obtain⟨v5,vs5,d5,ds5,p5,q5,rfl,rfl,rfl,h5,r5⟩:=trodAll_cons r4
 obtain⟨v6,vs6,d6,ds6,p6,q6,rfl,rfl,rfl,h6,r6⟩:=trodAll_cons r5;obtain⟨rfl,rfl,rfl⟩:=trodAll_nil r6
 obtain rfl:args=#[v1,v2,v3,v4,v5,v6]:=by cases args;simp_all
 obtain⟨rfl,rfl⟩:=trodVars_none hV;obtain⟨f1,h1⟩:=h1;obtain⟨f2,h2⟩:=h2;obtain⟨f3,h3⟩:=h3;obtain⟨f4,h4⟩:=h4;obtain⟨f5,h5⟩:=h5;obtain⟨f6,h6⟩:=h6;obtain⟨a1,n1,k1,rfl⟩:=okWide_slice Tryz.underlying77 (hval 0 77 v1 rfl rfl);obtain⟨n2,rfl⟩:=okWide_int Tryz.underlying81 (hval 1 81 v2 rfl rfl);obtain⟨a3,n3,k3,rfl⟩:=okWide_slice Tryz.underlying78 (hval 2 78 v3 rfl rfl);obtain⟨a4,n4,k4,rfl⟩:=okWide_slice Tryz.underlying78 (hval 3 78 v4 rfl rfl)
 obtain⟨n5,rfl⟩:=okWide_int Tryz.underlying5 (hval 4 5 v5 rfl rfl);obtain⟨a6,n6,k6,rfl⟩:=okWide_slice Tryz.underlying82 (hval 5 82 v6 rfl rfl);have hb:=hk;simp only[qaN,qbi,qbw,Go.Proofs.YtfaccbkibjkfjaaGreatDoor.Rows.uptoBulkAll]at hb;obtain⟨ab4,ty1⟩:=mZ (nh H) 1048576 f1 6 77 [.l Cl] _ d1 p1 sh77 h1 (by show Go.Proofs.YtfaccbkibjkfjaaGreatDoor.Rows.uptoBulk d1≤_;omega)
 obtain⟨KS,ty2⟩:=mZ (nh H) 1048576 f2 6 81 [.i .u32] _ d2 p2 sh81 h2 (by show Go.Proofs.YtfaccbkibjkfjaaGreatDoor.Rows.uptoBulk d2≤_;omega);obtain⟨KT,ty3⟩:=mZ (nh H) 1048576 f3 6 78 [.l Kv] _ d3 p3 ajZ h3 (by show Go.Proofs.YtfaccbkibjkfjaaGreatDoor.Rows.uptoBulk d3≤_;omega);obtain⟨ab5,ty4⟩:=mZ (nh H) 1048576 f4 6 78 [.l Kv] _ d4 p4 ajZ h4 (by show Go.Proofs.YtfaccbkibjkfjaaGreatDoor.Rows.uptoBulk d4≤_;omega)
 obtain⟨KU,ty5⟩:=mZ (nh H) 1048576 f5 6 5 [.i .u8] _ d5 p5 sh5 h5 (by show Go.Proofs.YtfaccbkibjkfjaaGreatDoor.Rows.uptoBulk d5≤_;omega);obtain⟨ahB,ty6⟩:=mZ (nh H) 1048576 f6 6 82 [.l [.i .u8]] _ d6 p6 sh82 h6 (by show Go.Proofs.YtfaccbkibjkfjaaGreatDoor.Rows.uptoBulk d6≤_;omega);obtain⟨s1,z1,l1,g1,e1,b1,t1⟩:=placesOf ty1;obtain⟨x2,g2,t2⟩:=Zy ty2;obtain⟨s3,z3,l3,g3,e3,b3,t3⟩:=UW ty3;obtain⟨s4,z4,l4,g4,e4,b4,t4⟩:=UW ty4
 obtain⟨x5,g5,t5⟩:=Zz ty5;obtain⟨s6,z6,l6,g6,e6,b6,t6⟩:=ajg ty6;have hp:=ahV (mx:=m) (psp:=z1) (isp:=z3) (jsp:=z4) (msp:=z6) (HB m) e1 t1 b1 t2 e3 t3 b3 e4 t4 b4 t5 e6 t6 b6
 have eQ:aM (fun b=>b<W.heap.size) W [.sl s1 z1,.int .u32 x2,.sl s3 z3,.sl s4 z4,.int .u8 x5,.sl s6 z6] [Value.slice a1 n1 k1,Value.int .u32 n2,Value.slice a3 n3 k3,Value.slice a4 n4 k4,Value.int .u8 n5,Value.slice a6 n6 k6]:=by
  rw[g1]at ab4
  replace ab4:aM (fun b=>b<W.heap.size) W [.sl s1 z1] [Value.slice a1 n1 k1]:=ab4
  rw[g2]at KS
  replace KS:aM (fun b=>b<W.heap.size) W [.int .u32 x2] [Value.int .u32 n2]:=KS
  rw[g3]at KT
  replace KT:aM (fun b=>b<W.heap.size) W [.sl s3 z3] [Value.slice a3 n3 k3]:=KT
  rw[g4]at ab5
  replace ab5:aM (fun b=>b<W.heap.size) W [.sl s4 z4] [Value.slice a4 n4 k4]:=ab5
  rw[g5]at KU
  replace KU:aM (fun b=>b<W.heap.size) W [.int .u8 x5] [Value.int .u8 n5]:=KU
  rw[g6]at ahB
  replace ahB:aM (fun b=>b<W.heap.size) W [.sl s6 z6] [Value.slice a6 n6 k6]:=ahB
  rw[aM]at ab4;obtain⟨u1,rr1,qq1,ss1,-⟩:=ab4;obtain⟨rfl,rfl⟩:=qbq qq1;rw[aM]at KS;obtain⟨u2,rr2,qq2,ss2,-⟩:=KS;obtain⟨rfl,rfl⟩:=qbq qq2;rw[aM]at KT;obtain⟨u3,rr3,qq3,ss3,-⟩:=KT;obtain⟨rfl,rfl⟩:=qbq qq3;rw[aM]at ab5;obtain⟨u4,rr4,qq4,ss4,-⟩:=ab5;obtain⟨rfl,rfl⟩:=qbq qq4;rw[aM]at KU;obtain⟨u5,rr5,qq5,ss5,-⟩:=KU;obtain⟨rfl,rfl⟩:=qbq qq5;rw[aM]at ahB;obtain⟨u6,rr6,qq6,ss6,-⟩:=ahB
  obtain⟨rfl,rfl⟩:=qbq qq6;rw[aM];refine⟨_,_,rfl,ss1,?_⟩;rw[aM];refine⟨_,_,rfl,ss2,?_⟩;rw[aM];refine⟨_,_,rfl,ss3,?_⟩;rw[aM];refine⟨_,_,rfl,ss4,?_⟩;rw[aM];refine⟨_,_,rfl,ss5,?_⟩;rw[aM];refine⟨_,_,rfl,ss6,?_⟩;rw[aM]
 refine IV (tb:=4) (by kernel_rfl) Tryz.func8 rfl (by kernel_rfl) hp hg eQ hW' (by kernel_rfl) rfl rfl Tryz.underlying4 rfl
end Go.bt
end
section
open Go Go.Am Go.Proofs
namespace Go.bt
open Go.ChangeShapes Go.WideShapes Go.ChangeAt Go.RowKit
open Go.Proofs.YtfaccbkibjkfjaaGreatDoor
theorem own:ownKnob Tryz.prog.godebug=none:=by kernel_rfl
noncomputable abbrev N0:Nat:=(World.settled Tryz.prog default).heap.size
def EC:PV→Value
 |.int k n=>.int k n
 |.bool b=>.bool b
 |.str s=>.string ⟨s.toArray⟩
 |_=>.nilIface
noncomputable def pW (os:Os):World:=
 let w0:=World.holding Tryz.prog os ⟨#[.cells #[.string ⟨#[118,97,108,117,101,32,111,117,116,32,111,102,32,114,97,110,103,101]⟩] 405,.cells #[.string ⟨#[105,110,118,97,108,105,100,32,115,121,110,116,97,120]⟩] 405,.cells (Bu.flatten.map EC).toArray 345],#[],[]⟩
 let put (h:Array Go.Obj) (g:Nat) (cs:Array Value):Array Go.Obj:=h.modify g fun
  |.cells _ t frozen=>.cells cs t frozen
  |o=>o
 let h1:=put w0.heap 8 #[.iface 403 (.pointer (some ⟨N0,0,none⟩))]
 let h2:=put h1 7 #[.iface 403 (.pointer (some ⟨N0+1,0,none⟩))]
 let h3:=put h2 2 #[.slice (some ⟨N0+2,0,none⟩) 6 6]
 let h4:=put h3 1 (g1.map EC).toArray
 let h5:=put h4 4 (g4.map EC).toArray
 let h6:=put h5 5 (g5.map EC).toArray
 let h7:=put h6 6 (g6.map EC).toArray
 let h8:=put h7 9 (g9.map EC).toArray
 let h9:=put h8 10 (g10.map EC).toArray
 let UF:=put h9 0 (g0.map EC).toArray
 {w0 with heap:=UF}
theorem KV (os:Os) (args:Array Value):laidMet Tryz.prog ik ((pW os).forCall (fun _ _=>0) ⟨#[],args,[]⟩).memory:=
 (LaidIn.of_run [9,10,6,5,8,N0,7,N0+1,1,2,N0+2,0,4] 8 (by kernel_rfl) (by kernel_rfl) (by kernel_rfl) (by kernel_rfl)).met
def CJ:Array Value:=#[.slice none 0 0,.int .u32 0,.slice none 0 0,.slice none 0 0,.int .u8 0,.slice none 0 0]
theorem CK (os:Os) {H:Type} (enc:TypeId×Value→H):
  (Rows.OpenSpec.upto Rows.messageOtherSpec).preRow enc Tryz.prog Tryz.f8 Rows.messageOtherUptoRow.domain false Rows.messageOtherUptoRow.laid ((pW os).forCall (fun _ _=>0) ⟨#[],CJ,[]⟩).memory CJ:=by
 have hw:(DataW.whole enc Tryz.prog ((pW os).forCall (fun _ _=>0) ⟨#[],CJ,[]⟩).memory Tryz.f8.params.toList Rows.messageOtherSpec.vars false CJ.toList 8).map (fun x=>(x.1,x.2.1))=
   some ([.nil,.lit (.int .u32 0),.nil,.nil,.lit (.int .u8 0),.nil],[]):=by kernel_rfl
 obtain⟨⟨x1,x2,x3⟩,hx,LH⟩:=qah.1 hw;simp only[qas]at LH;obtain⟨rfl,rfl⟩:=LH;exact OpenSpec.preRow_of_cond 8 hx (by kernel_rfl) (fun k hk=>by cases hk;kernel_rfl) (by kernel_rfl) (KV os _)
set_option maxHeartbeats 2000000 in
theorem lifted (HB:∀m,bE Tryz.prog (GG m) 12 [] (.bool true)) (os:Os) (started:os.Started) (H:Type) (enc:TypeId×Value→H) (F:Stop.Interp):
  ReturnsInHanded {} Tryz.checked os 8 .any ((Rows.OpenSpec.upto Rows.messageOtherSpec).preRow enc Tryz.prog Tryz.f8 Rows.messageOtherUptoRow.domain false Rows.messageOtherUptoRow.laid) (((Rows.OpenSpec.upto Rows.messageOtherSpec).at F).post enc Tryz.prog Tryz.f8 false true false false):=by
 refine returnsInHanded_of_row (C:=Tryz.checked) (s:=Rows.OpenSpec.upto Rows.messageOtherSpec) own started (by kernel_rfl) Tryz.func8
  (witness_row_atRef (enc:=enc) (C:=Tryz.checked) false (pW os) CJ rfl (by kernel_rfl) (by kernel_rfl) (by kernel_rfl) (CK os enc)) ?_
 intro W base args ds gs before hval hW _ lY _ hL ou _;exact KR HB rfl hval hW (qaZ (lY _ rfl)) hL ou
theorem plain (f:FuncId) (fn:Func) (hf:Tryz.pinned.checked.prog.funcNamed "twistlock/twistlocklaw39.MessageOther" =some f) (HL:Tryz.pinned.checked.prog.funcs[f]? =some fn):
  true=Tryz.pinned.checked.prog.looks []∧∀(j:Nat) t,fn.params[j]? =some t→Tryz.pinned.checked.prog.wantsStandIn t=false:=by
 obtain rfl:f=8:=qa9 ((show Tryz.prog.funcNamed "twistlock/twistlocklaw39.MessageOther" =some 8 by kernel_rfl).symm.trans hf)|>.symm;obtain rfl:fn=Tryz.f8:=(qa9 (Tryz.func8.symm.trans HL)).symm;refine⟨by kernel_rfl,fun j t ht=>?_⟩;rw[Tryz.params8]at ht
 have:t=77∨t=81∨t=78∨t=5∨t=82:=by simpa using Array.mem_of_getElem? ht
 rcases this with rfl|rfl|rfl|rfl|rfl
 ·exact(show Tryz.prog.wantsStandIn 77=false by kernel_rfl)
 ·exact(show Tryz.prog.wantsStandIn 81=false by kernel_rfl)
 ·exact(show Tryz.prog.wantsStandIn 78=false by kernel_rfl)
 ·exact(show Tryz.prog.wantsStandIn 5=false by kernel_rfl)
 ·exact(show Tryz.prog.wantsStandIn 82=false by kernel_rfl)
end Go.bt
end
