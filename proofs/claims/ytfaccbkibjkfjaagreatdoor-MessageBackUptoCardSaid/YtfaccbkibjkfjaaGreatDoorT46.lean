import Derived.Test.YtfaccbkibjkfjaaGreatDoorCards
import Derived.Test.YtfaccbkibjkfjaaGreatDoorTie
import Derived.ProofKit
import Derived.Deep.DeepHandedRow
import Derived.Lib.LaidTab
import Derived.MakeChecks
import Derived.WideShapes
import Derived.ChangeMaps5
import Derived.Deep.DeepWitnessRowRef
import Derived.Lib.LaidIn
import Derived.Test.YtfaccbkibjkfjaaGreatDoorT43
import Derived.Test.YtfaccbkibjkfjaaGreatDoorT45
set_option linter.all false
set_option maxRecDepth 100000
set_option maxHeartbeats 1000000
namespace Go.bt
open Go Go.Am Go.Proofs
open Tryz (prog)
section
open Go.ChangeShapes Go.WideShapes Go.RowKit
variable {W:World}
abbrev ik:=Go.Proofs.YtfaccbkibjkfjaaGreatDoor.Rows.messageBackUptoRow.laid
def nh(H:Type):Dt H:={
 bk:=Go.Proofs.YtfaccbkibjkfjaaGreatDoor.Rows.uptoBulk
 al:=Go.Proofs.YtfaccbkibjkfjaaGreatDoor.Rows.uptoBulkAll
 one d:=by cases d<;>(try(rename_i l;cases l))<;>simp[Go.Proofs.YtfaccbkibjkfjaaGreatDoor.Rows.uptoBulk]
 cons x r:=by simp[Go.Proofs.YtfaccbkibjkfjaaGreatDoor.Rows.uptoBulkAll]
 slice es sp:=by simp[Go.Proofs.YtfaccbkibjkfjaaGreatDoor.Rows.uptoBulk]
 agg ps:=by simp[Go.Proofs.YtfaccbkibjkfjaaGreatDoor.Rows.uptoBulk]
 str s:=by simp[Go.Proofs.YtfaccbkibjkfjaaGreatDoor.Rows.uptoBulk]
 }
theorem sh3:mY prog 6 3=some [shI]:=k_
theorem sh5:mY prog 6 5=some [.i .u8]:=k_
theorem sh77:mY prog 6 77=some [.l Cl]:=k_
theorem ajZ:mY prog 6 78=some [.l Kv]:=k_
theorem sh81:mY prog 6 81=some [.i .u32]:=k_
theorem sh82:mY prog 6 82=some [.l [.i .u8]]:=k_
theorem Wf:((((begin prog (fun _ _=>0) default).world).heap[3]?).bind Go.Obj.row?)=some (#[.i 0],3):=k_
theorem maxLen(b:W.ShapedOpen prog):∃m,At W 3=some #[.i m]:=by obtain⟨m,e⟩:=Tryz.Ks.s1_3 W b;have f:W.cell? ⟨3,0,none⟩=some (.i m):=e;obtain⟨-,-,c,a,g⟩:=vS f;obtain⟨d,g1,g2,-⟩:=b.1 3 #[.i 0] 3 (qaZ k_) Wf;have h:d=c:=by{unfold At at a;rw[g1]at a;exact qa9 a};subst h;refine⟨m,?_⟩;rw[a];have hs:d.size=1:=g2;congr 1;apply qcB;intro i;match i with|0=>simpa using g|i+1=>rw[qb2 o_,qb2 s_]
theorem at0:∃n d t a m,(n,d)∈ik/\Tryz.prog.globalNamed n=some 0/\(Tryz.prog.globals[0]?).map (·.type)=some t/\mY prog m t=some a/\sV d=g0/\(nh Unit).bk d<=1048576:=⟨"twistlock/twistlocklaw24.ports",Go.Proofs.YtfaccbkibjkfjaaGreatDoor.Rows.laid_twistlock_twistlocklaw24_ports (H:=Unit),151,List.replicate 6 .s,6,.tail _ (.tail _ (.tail _ (.tail _ (.tail _ (.tail _ (.tail _ (.tail _ (.head _)))))))),k_,k_,k_,k_,qaZ k_⟩
theorem at1:∃n d t a m,(n,d)∈ik/\Tryz.prog.globalNamed n=some 1/\(Tryz.prog.globals[1]?).map (·.type)=some t/\mY prog m t=some a/\sV d=g1/\(nh Unit).bk d<=1048576:=⟨"twistlock/slot.quarter",Go.Proofs.YtfaccbkibjkfjaaGreatDoor.Rows.laid_twistlock_slot_quarter (H:=Unit),265,List.replicate 3 (.i .i64),6,.tail _ (.tail _ (.tail _ (.tail _ (.tail _ (.tail _ (.head _)))))),k_,k_,k_,k_,qaZ k_⟩
theorem at2:∃n d t a m,(n,d)∈ik/\Tryz.prog.globalNamed n=some 2/\(Tryz.prog.globals[2]?).map (·.type)=some t/\mY prog m t=some a/\sV d=g2/\(nh Unit).bk d<=1048576:=⟨"twistlock/iso.kinds",Go.Proofs.YtfaccbkibjkfjaaGreatDoor.Rows.laid_twistlock_iso_kinds (H:=Unit),344,[.l [.s,.i .u8,.b,.b]],6,.tail _ (.tail _ (.tail _ (.tail _ (.tail _ (.tail _ (.tail _ (.head _))))))),k_,k_,k_,k_,qaZ k_⟩
theorem at4:∃n d t a m,(n,d)∈ik/\Tryz.prog.globalNamed n=some 4/\(Tryz.prog.globals[4]?).map (·.type)=some t/\mY prog m t=some a/\sV d=g4/\(nh Unit).bk d<=1048576:=⟨"unicode/utf8.first",Go.Proofs.YtfaccbkibjkfjaaGreatDoor.Rows.laid_unicode_utf8_first,354,List.replicate 256 (.i .u8),6,.tail _ (.tail _ (.tail _ (.tail _ (.tail _ (.tail _ (.tail _ (.tail _ (.tail _ (.head _))))))))),k_,k_,k_,k_,qaZ k_⟩
theorem at5:∃n d t a m,(n,d)∈ik/\Tryz.prog.globalNamed n=some 5/\(Tryz.prog.globals[5]?).map (·.type)=some t/\mY prog m t=some a/\sV d=g5/\(nh Unit).bk d<=1048576:=⟨"unicode/utf8.acceptRanges",Go.Proofs.YtfaccbkibjkfjaaGreatDoor.Rows.laid_unicode_utf8_acceptRanges (H:=Unit),357,List.replicate 32 (.i .u8),6,.tail _ (.tail _ (.tail _ (.head _))),k_,k_,k_,k_,qaZ k_⟩
theorem at6:∃n d t a m,(n,d)∈ik/\Tryz.prog.globalNamed n=some 6/\(Tryz.prog.globals[6]?).map (·.type)=some t/\mY prog m t=some a/\sV d=g6/\(nh Unit).bk d<=1048576:=⟨"internal/strconv.uint64pow10",Go.Proofs.YtfaccbkibjkfjaaGreatDoor.Rows.laid_internal_strconv_uint64pow10 (H:=Unit),375,List.replicate 20 (.i .u64),6,.tail _ (.tail _ (.head _)),k_,k_,k_,k_,qaZ k_⟩
theorem at9:∃n d t a m,(n,d)∈ik/\Tryz.prog.globalNamed n=some 9/\(Tryz.prog.globals[9]?).map (·.type)=some t/\mY prog m t=some a/\sV d=g9/\(nh Unit).bk d<=1048576:=⟨"math/bits.deBruijn32tab",Go.Proofs.YtfaccbkibjkfjaaGreatDoor.Rows.laid_math_bits_deBruijn32tab (H:=Unit),410,List.replicate 32 (.i .u8),6,.head _,k_,k_,k_,k_,qaZ k_⟩
theorem at10:∃n d t a m,(n,d)∈ik/\Tryz.prog.globalNamed n=some 10/\(Tryz.prog.globals[10]?).map (·.type)=some t/\mY prog m t=some a/\sV d=g10/\(nh Unit).bk d<=1048576:=⟨"math/bits.deBruijn64tab",Go.Proofs.YtfaccbkibjkfjaaGreatDoor.Rows.laid_math_bits_deBruijn64tab (H:=Unit),411,List.replicate 64 (.i .u8),6,.tail _ (.head _),k_,k_,k_,k_,qaZ k_⟩
def GL(m:Int)(g:Nat):Option (List PV):=if g=3\/g=7\/g=8 then none else GG m g
theorem ab3(j:laidMetH prog ik W)(k:W.ShapedOpen prog):∃m,rh (GG m) (fun b=>b<W.heap.size) W:=by obtain⟨m,c⟩:=maxLen k;refine⟨m,?_⟩;have e:laidMet prog ik W:=by{rw[<-Go.MakeChecks.laidMetH_plain _ _ _ k_];exact j};have f:=e.tail.tail.tail.tail;have l:=f.tail;obtain⟨ps,n,-⟩:=e;have p:=zk (G:=GL m) (nh Unit) 1048576 n (by intro g row a;unfold GL at a;split at a;{cases a};rename_i d;unfold GG at a;split at a;{cases a;exact at0};{cases a;exact at1};{cases a;exact at2};{exact absurd (.inl rfl) d};{cases a;exact at4};{cases a;exact at5};{cases a;exact at6};{exact absurd (.inr (.inl rfl)) d};{exact absurd (.inr (.inr rfl)) d};{cases a;exact at9};{cases a;exact at10};cases a);intro g row a;by_cases h:g=3\/g=7\/g=8;{rcases h with rfl|rfl|rfl;{cases a;refine⟨?_,_,c,⟨⟨_,r_,by simp only[aD];rfl⟩,by simp only[dm]⟩,rfl⟩;unfold At at c;cases i:W.heap[3]? with|none=>rw[i]at c;cases c|some o=>exact(qaK.1 i).1};{cases a;exact ahE l k_ k_};cases a;exact ahE f k_ k_};exact p g row (by unfold GL;rw[qai h];exact a)
theorem akp(HB:∀m,bE prog (GG m) 12 [] (.bool true)){H:Type}{enc:TypeId×Value->H}{o:Nat}{c:Array Value}{ds gs:List (DataW H)}{k:List MemPlace}{s:ChangeSpec}{apart:Bool}(hs:s=Go.Proofs.YtfaccbkibjkfjaaGreatDoor.Rows.messageBackSpec)(a:∀(j:Nat) t v,Tryz.f10.params[j]? =some t->c[j]? =some v->Value.okWide prog W .any o t v)(hW:DataW.Whole enc prog Tryz.f10.params.toList s.vars apart W c.toList ds gs k)(hk:Go.Proofs.YtfaccbkibjkfjaaGreatDoor.Rows.uptoBulkAll (ds++gs)<=1048576)(hL:laidMetH prog ik W)(ou:W.ShapedOpen prog){fresh d n:Bool}: Calls prog 10 c W fun e W'=>∃v,e=.returned v/\s.post enc prog Tryz.f10 apart fresh d n W c v W':=by subst hs;obtain⟨m,hg⟩:=ab3 hL ou;have x:=hW;obtain⟨p,q,hA,hV,rfl,af,ag⟩:=hW;rw[Tryz.params10]at hA a;obtain⟨v1,ah,d1,ai,p1,q1,eQ,rfl,rfl,y,r1⟩:=trodAll_cons hA;obtain⟨v2,aj,d2,ak,p2,q2,rfl,rfl,rfl,z,r2⟩:=trodAll_cons r1;obtain⟨v3,ao,d3,aq,p3,q3,rfl,rfl,rfl,A,r3⟩:=trodAll_cons r2;obtain⟨v4,ar,d4,au,p4,q4,rfl,rfl,rfl,B,r4⟩:=trodAll_cons r3;obtain⟨v5,av,d5,aw,p5,q5,rfl,rfl,rfl,C,r5⟩:=trodAll_cons r4;obtain⟨v6,ax,d6,ay,p6,q6,rfl,rfl,rfl,D,r6⟩:=trodAll_cons r5;obtain⟨rfl,rfl,rfl⟩:=trodAll_nil r6;obtain rfl:c=#[v1,v2,v3,v4,v5,v6]:=by{cases c;simp_all};obtain⟨rfl,rfl⟩:=trodVars_none hV;obtain⟨f1,y⟩:=y;obtain⟨f2,z⟩:=z;obtain⟨f3,A⟩:=A;obtain⟨f4,B⟩:=B;obtain⟨f5,C⟩:=C;obtain⟨f6,D⟩:=D;obtain⟨a1,n1,k1,rfl⟩:=okWide_slice Tryz.underlying77 (a 0 77 v1 rfl rfl);obtain⟨n2,rfl⟩:=okWide_int Tryz.underlying81 (a 1 81 v2 rfl rfl);obtain⟨a3,n3,k3,rfl⟩:=okWide_slice Tryz.underlying78 (a 2 78 v3 rfl rfl);obtain⟨n4,rfl⟩:=okWide_int Tryz.underlying5 (a 3 5 v4 rfl rfl);obtain⟨a5,n5,k5,rfl⟩:=okWide_slice Tryz.underlying82 (a 4 82 v5 rfl rfl);obtain⟨n6,rfl⟩:=okWide_int Tryz.underlying3 (a 5 3 v6 rfl rfl);have hb:=hk;simp only[qaN,qbi,qbw,Go.Proofs.YtfaccbkibjkfjaaGreatDoor.Rows.uptoBulkAll]at hb;obtain⟨f,E⟩:=mZ (nh H) 1048576 f1 6 77 [.l Cl] _ d1 p1 sh77 y (by show Go.Proofs.YtfaccbkibjkfjaaGreatDoor.Rows.uptoBulk d1<=_;omega);obtain⟨r,F⟩:=mZ (nh H) 1048576 f2 6 81 [.i .u32] _ d2 p2 sh81 z (by show Go.Proofs.YtfaccbkibjkfjaaGreatDoor.Rows.uptoBulk d2<=_;omega);obtain⟨u,G⟩:=mZ (nh H) 1048576 f3 6 78 [.l Kv] _ d3 p3 ajZ A (by show Go.Proofs.YtfaccbkibjkfjaaGreatDoor.Rows.uptoBulk d3<=_;omega);obtain⟨g,I⟩:=mZ (nh H) 1048576 f4 6 5 [.i .u8] _ d4 p4 sh5 B (by show Go.Proofs.YtfaccbkibjkfjaaGreatDoor.Rows.uptoBulk d4<=_;omega);obtain⟨w,J⟩:=mZ (nh H) 1048576 f5 6 82 [.l [.i .u8]] _ d5 p5 sh82 C (by show Go.Proofs.YtfaccbkibjkfjaaGreatDoor.Rows.uptoBulk d5<=_;omega);obtain⟨h,K⟩:=mZ (nh H) 1048576 f6 6 3 [shI] _ d6 p6 sh3 D (by show Go.Proofs.YtfaccbkibjkfjaaGreatDoor.Rows.uptoBulk d6<=_;omega);obtain⟨s1,L,l1,g1,e1,b1,t1⟩:=placesOf E;obtain⟨x2,g2,t2⟩:=anB F;obtain⟨s3,M,l3,g3,e3,b3,t3⟩:=UW G;obtain⟨x4,g4,t4⟩:=Zz I;obtain⟨s5,N,l5,g5,e5,b5,t5⟩:=anC J;obtain⟨O,g6⟩:=anN K;have hp:=akr (mx:=m) (psp:=L) (isp:=M) (msp:=N) (at0:=O) (HB m) e1 t1 b1 t2 e3 t3 b3 t4 e5 t5 b5;have eQ:aM (fun b=>b<W.heap.size) W [.sl s1 L,.int .u32 x2,.sl s3 M,.u x4,.sl s5 N,.i O] [Value.slice a1 n1 k1,Value.int .u32 n2,Value.slice a3 n3 k3,Value.int .u8 n4,Value.slice a5 n5 k5,Value.int .i64 n6]:=by{rw[g1]at f;replace f:aM (fun b=>b<W.heap.size) W [.sl s1 L] [Value.slice a1 n1 k1]:=f;rw[g2]at r;replace r:aM (fun b=>b<W.heap.size) W [.int .u32 x2] [Value.int .u32 n2]:=r;rw[g3]at u;replace u:aM (fun b=>b<W.heap.size) W [.sl s3 M] [Value.slice a3 n3 k3]:=u;rw[g4]at g;replace g:aM (fun b=>b<W.heap.size) W [.u x4] [Value.int .u8 n4]:=g;rw[g5]at w;replace w:aM (fun b=>b<W.heap.size) W [.sl s5 N] [Value.slice a5 n5 k5]:=w;rw[g6]at h;replace h:aM (fun b=>b<W.heap.size) W [.i O] [Value.int .i64 n6]:=h;rw[aM]at f;obtain⟨u1,aB,P,Q,-⟩:=f;obtain⟨rfl,rfl⟩:=qbq P;rw[aM]at r;obtain⟨u2,aC,R,S,-⟩:=r;obtain⟨rfl,rfl⟩:=qbq R;rw[aM]at u;obtain⟨u3,aD,T,U,-⟩:=u;obtain⟨rfl,rfl⟩:=qbq T;rw[aM]at g;obtain⟨u4,aE,V,X,-⟩:=g;obtain⟨rfl,rfl⟩:=qbq V;rw[aM]at w;obtain⟨u5,aF,Y,Z,-⟩:=w;obtain⟨rfl,rfl⟩:=qbq Y;rw[aM]at h;obtain⟨u6,aG,ad,ae,-⟩:=h;obtain⟨rfl,rfl⟩:=qbq ad;rw[aM];refine⟨_,_,rfl,Q,?_⟩;rw[aM];refine⟨_,_,rfl,S,?_⟩;rw[aM];refine⟨_,_,rfl,U,?_⟩;rw[aM];refine⟨_,_,rfl,X,?_⟩;rw[aM];refine⟨_,_,rfl,Z,?_⟩;rw[aM];refine⟨_,_,rfl,ae,?_⟩;rw[aM]};refine IV (tb:=4) k_ Tryz.func10 rfl k_ hp hg eQ x k_ rfl rfl Tryz.underlying4 rfl
end
open Go.ChangeShapes Go.WideShapes Go.ChangeAt Go.RowKit
open Go.Proofs.YtfaccbkibjkfjaaGreatDoor
theorem own:ownKnob Tryz.prog.godebug=none:=k_
noncomputable abbrev N0:Nat:=(World.settled prog default).heap.size
def EC:PV->Value
 |.int k n=>.int k n
 |.bool b=>.bool b
 |.str s=>.string ⟨s.toArray⟩
 |_=>.nilIface
noncomputable def pW(a:Os):World:=
 let w0:=World.holding prog a ⟨#[.cells #[.string ⟨#[118,97,108,117,101,32,111,117,116,32,111,102,32,114,97,110,103,101]⟩] 405,.cells #[.string ⟨#[105,110,118,97,108,105,100,32,115,121,110,116,97,120]⟩] 405,.cells (Bu.flatten.map EC).toArray 345],#[],[]⟩
 let put (h:Array Go.Obj) (g:Nat) (b:Array Value):Array Go.Obj:=h.modify g fun
  |.cells _ t frozen=>.cells b t frozen
  |o=>o
 let c:=put w0.heap 8 #[.iface 403 (.pointer (some ⟨N0,0,none⟩))]
 let d:=put c 7 #[.iface 403 (.pointer (some ⟨N0+1,0,none⟩))]
 let e:=put d 2 #[.slice (some ⟨N0+2,0,none⟩) 6 6]
 let f:=put e 1 (g1.map EC).toArray
 let i:=put f 4 (g4.map EC).toArray
 let j:=put i 5 (g5.map EC).toArray
 let k:=put j 6 (g6.map EC).toArray
 let l:=put k 9 (g9.map EC).toArray
 let m:=put l 10 (g10.map EC).toArray
 let n:=put m 0 (g0.map EC).toArray
 {w0 with heap:=n}
theorem KV(b:Os)(a:Array Value):laidMet prog ik ((pW b).forCall (fun _ _=>0) ⟨#[],a,[]⟩).memory:=(LaidIn.of_run [9,10,6,5,8,N0,7,N0+1,1,2,N0+2,0,4] 8 k_ k_ k_ k_).met
def CJ:Array Value:=#[.slice none 0 0,.int .u32 0,.slice none 0 0,.u 0,.slice none 0 0,.i 0]
theorem CK(a:Os){H:Type}(enc:TypeId×Value->H): (Rows.OpenSpec.upto Rows.messageBackSpec).preRow enc prog Tryz.f10 Rows.messageBackUptoRow.domain false Rows.messageBackUptoRow.laid ((pW a).forCall (fun _ _=>0) ⟨#[],CJ,[]⟩).memory CJ:=by have c:(DataW.whole enc prog ((pW a).forCall (fun _ _=>0) ⟨#[],CJ,[]⟩).memory Tryz.f10.params.toList Rows.messageBackSpec.vars false CJ.toList 8).map (fun x=>(x.1,x.2.1))= some ([.nil,.lit (.int .u32 0),.nil,.lit (.int .u8 0),.nil,.lit (.int .i64 0)],[]):=k_;obtain⟨⟨f,g,h⟩,d,b⟩:=qah.1 c;simp only[qas]at b;obtain⟨rfl,rfl⟩:=b;exact OpenSpec.preRow_of_cond 8 d k_ (fun k e=>by cases e;kernel_rfl) k_ (KV a _)
set_option maxHeartbeats 2000000 in
theorem lifted(g:∀m,bE prog (GG m) 12 [] (.bool true))(c:Os)(a:c.Started)(H:Type)(enc:TypeId×Value->H)(F:Stop.Interp): ReturnsInHanded {} Tryz.checked c 10 .any ((Rows.OpenSpec.upto Rows.messageBackSpec).preRow enc prog Tryz.f10 Rows.messageBackUptoRow.domain false Rows.messageBackUptoRow.laid) (((Rows.OpenSpec.upto Rows.messageBackSpec).at F).post enc prog Tryz.f10 false true false false):=by refine returnsInHanded_of_row (C:=Tryz.checked) (s:=Rows.OpenSpec.upto Rows.messageBackSpec) own a k_ Tryz.func10 (witness_row_atRef (enc:=enc) (C:=Tryz.checked) false (pW c) CJ rfl k_ k_ k_ (CK c enc)) ?_;intro W e f l n d b h _ i _ j k _;exact akp g rfl b h (qaZ (i _ rfl)) j k
theorem plain(f:FuncId)(a:Func)(c:Tryz.pinned.checked.prog.funcNamed "twistlock/twistlocklaw39.MessageBack" =some f)(d:Tryz.pinned.checked.prog.funcs[f]? =some a): true=Tryz.pinned.checked.prog.looks []/\∀(j:Nat) t,a.params[j]? =some t->Tryz.pinned.checked.prog.wantsStandIn t=false:=by obtain rfl:f=10:=qa9 ((show Tryz.prog.funcNamed "twistlock/twistlocklaw39.MessageBack" =some 10 by kernel_rfl).symm.trans c)|>.symm;obtain rfl:a=Tryz.f10:=(qa9 (Tryz.func10.symm.trans d)).symm;refine⟨k_,fun j t b=>?_⟩;rw[Tryz.params10]at b;have:t=77\/t=81\/t=78\/t=5\/t=82\/t=3:=by{simpa using Array.mem_of_getElem? b};rcases this with rfl|rfl|rfl|rfl|rfl|rfl;{exact(show Tryz.prog.wantsStandIn 77=false by kernel_rfl)};{exact(show Tryz.prog.wantsStandIn 81=false by kernel_rfl)};{exact(show Tryz.prog.wantsStandIn 78=false by kernel_rfl)};{exact(show Tryz.prog.wantsStandIn 5=false by kernel_rfl)};{exact(show Tryz.prog.wantsStandIn 82=false by kernel_rfl)};exact(show Tryz.prog.wantsStandIn 3=false by kernel_rfl)
end Go.bt
