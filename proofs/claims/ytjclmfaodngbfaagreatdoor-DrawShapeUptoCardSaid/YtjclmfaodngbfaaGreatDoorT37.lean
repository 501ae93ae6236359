import Derived.Test.YtjclmfaodngbfaaGreatDoorCards
import Derived.Test.YtjclmfaodngbfaaGreatDoorTie
import Derived.WalkKit
import Derived.ProofKit
import Derived.OpenShut
import Derived.Deep.DeepHandedRow
import Derived.Lib.LaidTab
import Derived.MakeChecks
import Derived.WideShapes
import Derived.ChangeMaps5
import Derived.Shelf.LaysM
import Derived.Deep.DeepWitnessRowRef
import Derived.Lib.LaidIn
import Derived.Test.YtjclmfaodngbfaaGreatDoorT12
import Derived.Test.YtjclmfaodngbfaaGreatDoorT07
import Derived.Test.YtjclmfaodngbfaaGreatDoorT36
import Derived.Test.YtjclmfaodngbfaaGreatDoorT35
import Derived.Test.YtjclmfaodngbfaaGreatDoorT09
set_option linter.all false
set_option maxRecDepth 100000
set_option maxHeartbeats 1000000
namespace Go.bt
open Go Go.Am Go.Proofs
section
open Go.ChangeShapes Go.WideShapes Go.RowKit
variable {W:World}
abbrev ik:=Go.Proofs.YtjclmfaodngbfaaGreatDoor.Rows.drawShapeUptoRow.laid
def nh(H:Type):Dt H:={
 bk:=Go.Proofs.YtjclmfaodngbfaaGreatDoor.Rows.uptoBulk
 al:=Go.Proofs.YtjclmfaodngbfaaGreatDoor.Rows.uptoBulkAll
 one d:=by cases d<;>(try(rename_i l;cases l))<;>simp[Go.Proofs.YtjclmfaodngbfaaGreatDoor.Rows.uptoBulk]
 cons x r:=by simp[Go.Proofs.YtjclmfaodngbfaaGreatDoor.Rows.uptoBulkAll]
 slice es sp:=by simp[Go.Proofs.YtjclmfaodngbfaaGreatDoor.Rows.uptoBulk]
 agg ps:=by simp[Go.Proofs.YtjclmfaodngbfaaGreatDoor.Rows.uptoBulk]
 str s:=by simp[Go.Proofs.YtjclmfaodngbfaaGreatDoor.Rows.uptoBulk]
 }
theorem sh45:mY Tryz.prog 6 45=some [.l Cl]:=by kernel_rfl
theorem sh46:mY Tryz.prog 6 46=some [.i .u32]:=by kernel_rfl
theorem sh47:mY Tryz.prog 6 47=some [.l [.i .u8]]:=by kernel_rfl
theorem sh5:mY Tryz.prog 6 5=some [.i .u8]:=by kernel_rfl
theorem Wf:((((begin Tryz.prog (fun _ _=>0) default).world).heap[2]?).bind Go.Obj.row?)=some (#[.int .i64 0],3):=by kernel_rfl
theorem maxLen(b:W.ShapedOpen Tryz.prog):∃m,ah W 2=some #[.int .i64 m]:=by have e:∃n,W.cell? ⟨2,0,none⟩=some (.int .i64 n):=Go.Proofs.cell_of_shapedOpen_int (zero:=#[.int .i64 0]) (t:=3) b (of_decide_eq_true (by kernel_rfl)) (by kernel_rfl) rfl (by kernel_rfl) (by kernel_rfl) Tryz.underlying3;obtain⟨m,f⟩:=e;obtain⟨-,-,c,a,g⟩:=vS f;obtain⟨d,h,j,-⟩:=b.1 2 #[.int .i64 0] 3 (of_decide_eq_true (by kernel_rfl)) Wf;have k:d=c:=by{unfold ah at a;rw[h]at a;exact Option.some.inj a};subst k;refine⟨m,?_⟩;rw[a];have l:d.size=1:=j;congr 1;apply Array.ext_getElem?;intro i;match i with|0=>simpa using g|i+1=>rw[Array.getElem?_eq_none (by omega),Array.getElem?_eq_none (by simp)]
theorem at0:∃n d t a m,(n,d)∈ik/\Tryz.prog.globalNamed n=some 0/\(Tryz.prog.globals[0]?).map (·.type)=some t/\mY Tryz.prog m t=some a/\sV d=g0/\(nh Unit).bk d<=1048576:=⟨"strings.asciiSpace",Go.Proofs.YtjclmfaodngbfaaGreatDoor.Rows.laid_strings_asciiSpace (H:=Unit),128,List.replicate 256 (.i .u8),6,.tail _ (.tail _ (.tail _ (.tail _ (.tail _ (.tail _ (.tail _ (.head _))))))),by kernel_rfl,by kernel_rfl,by kernel_rfl,by kernel_rfl,of_decide_eq_true (by kernel_rfl)⟩
theorem at3:∃n d t a m,(n,d)∈ik/\Tryz.prog.globalNamed n=some 3/\(Tryz.prog.globals[3]?).map (·.type)=some t/\mY Tryz.prog m t=some a/\sV d=g4/\(nh Unit).bk d<=1048576:=⟨"unicode/utf8.first",Go.Proofs.YtjclmfaodngbfaaGreatDoor.Rows.laid_unicode_utf8_first,128,List.replicate 256 (.i .u8),6,.tail _ (.tail _ (.tail _ (.tail _ (.tail _ (.tail _ (.tail _ (.tail _ (.head _)))))))),by kernel_rfl,by kernel_rfl,by kernel_rfl,by kernel_rfl,of_decide_eq_true (by kernel_rfl)⟩
theorem at4:∃n d t a m,(n,d)∈ik/\Tryz.prog.globalNamed n=some 4/\(Tryz.prog.globals[4]?).map (·.type)=some t/\mY Tryz.prog m t=some a/\sV d=g5/\(nh Unit).bk d<=1048576:=⟨"unicode/utf8.acceptRanges",Go.Proofs.YtjclmfaodngbfaaGreatDoor.Rows.laid_unicode_utf8_acceptRanges (H:=Unit),370,List.replicate 32 (.i .u8),6,.tail _ (.tail _ (.tail _ (.head _))),by kernel_rfl,by kernel_rfl,by kernel_rfl,by kernel_rfl,of_decide_eq_true (by kernel_rfl)⟩
theorem at7:∃n d t a m,(n,d)∈ik/\Tryz.prog.globalNamed n=some 7/\(Tryz.prog.globals[7]?).map (·.type)=some t/\mY Tryz.prog m t=some a/\sV d=g6/\(nh Unit).bk d<=1048576:=⟨"internal/strconv.uint64pow10",Go.Proofs.YtjclmfaodngbfaaGreatDoor.Rows.laid_internal_strconv_uint64pow10 (H:=Unit),385,List.replicate 20 (.i .u64),6,.tail _ (.tail _ (.head _)),by kernel_rfl,by kernel_rfl,by kernel_rfl,by kernel_rfl,of_decide_eq_true (by kernel_rfl)⟩
theorem at8:∃n d t a m,(n,d)∈ik/\Tryz.prog.globalNamed n=some 8/\(Tryz.prog.globals[8]?).map (·.type)=some t/\mY Tryz.prog m t=some a/\sV d=g9/\(nh Unit).bk d<=1048576:=⟨"math/bits.deBruijn32tab",Go.Proofs.YtjclmfaodngbfaaGreatDoor.Rows.laid_math_bits_deBruijn32tab (H:=Unit),391,List.replicate 32 (.i .u8),6,.head _,by kernel_rfl,by kernel_rfl,by kernel_rfl,by kernel_rfl,of_decide_eq_true (by kernel_rfl)⟩
theorem at9:∃n d t a m,(n,d)∈ik/\Tryz.prog.globalNamed n=some 9/\(Tryz.prog.globals[9]?).map (·.type)=some t/\mY Tryz.prog m t=some a/\sV d=g10/\(nh Unit).bk d<=1048576:=⟨"math/bits.deBruijn64tab",Go.Proofs.YtjclmfaodngbfaaGreatDoor.Rows.laid_math_bits_deBruijn64tab (H:=Unit),392,List.replicate 64 (.i .u8),6,.tail _ (.head _),by kernel_rfl,by kernel_rfl,by kernel_rfl,by kernel_rfl,of_decide_eq_true (by kernel_rfl)⟩
def GL(m:Int)(g:Nat):Option (List PV):=if g=2\/g=5\/g=6 then none else GG m g
theorem ab3(j:laidMetH Tryz.prog ik W)(k:W.ShapedOpen Tryz.prog):∃m,rh (GG m) (fun b=>b<W.heap.size) W:=by obtain⟨m,c⟩:=maxLen k;refine⟨m,?_⟩;have e:laidMet Tryz.prog ik W:=by{rw[<-Go.MakeChecks.laidMetH_plain _ _ _ (by kernel_rfl)];exact j};have f:=e.tail.tail.tail.tail;have l:=f.tail;obtain⟨q,n,-⟩:=e;have p:=zk (G:=GL m) (nh Unit) 1048576 n (by intro g row a;unfold GL at a;split at a;{cases a};rename_i d;unfold GG at a;split at a;{cases a;exact at0};{exact absurd (.inl rfl) d};{cases a;exact at3};{cases a;exact at4};{exact absurd (.inr (.inl rfl)) d};{exact absurd (.inr (.inr rfl)) d};{cases a;exact at7};{cases a;exact at8};{cases a;exact at9};cases a);intro g row a;by_cases h:g=2\/g=5\/g=6;{rcases h with rfl|rfl|rfl;{cases a;refine⟨?_,_,c,⟨⟨_,by rfl,by simp only[aD];rfl⟩,by simp only[dm]⟩,rfl⟩;unfold ah at c;cases i:W.heap[2]? with|none=>rw[i]at c;cases c|some o=>exact(Array.getElem?_eq_some_iff.1 i).1};{cases a;exact ahE l (by kernel_rfl) (by kernel_rfl)};cases a;exact ahE f (by kernel_rfl) (by kernel_rfl)};exact p g row (by unfold GL;rw[if_neg h];exact a)
theorem akp{H:Type}{enc:TypeId×Value->H}{k:Nat}{a:Array Value}{P Q:List (DataW H)}{g:List MemPlace}{s:ChangeSpec}{apart:Bool}(hs:s=Go.Proofs.YtjclmfaodngbfaaGreatDoor.Rows.drawShapeSpec)(c:∀(j:Nat) t v,Tryz.f7.params[j]? =some t->a[j]? =some v->Value.okWide Tryz.prog W .any k t v)(R:DataW.Whole enc Tryz.prog Tryz.f7.params.toList s.vars apart W a.toList P Q g)(hk:Go.Proofs.YtjclmfaodngbfaaGreatDoor.Rows.uptoBulkAll (P++Q)<=1048576)(hL:laidMetH Tryz.prog ik W)(ou:W.ShapedOpen Tryz.prog){fresh d h:Bool}: Calls Tryz.prog 7 a W fun e W'=>∃v,e=.returned v/\s.post enc Tryz.prog Tryz.f7 apart fresh d h W a v W':=by subst hs;obtain⟨m,hg⟩:=ab3 hL ou;have u:=R;obtain⟨p,q,S,hV,rfl,OL,ad⟩:=R;rw[Tryz.params7]at S c;obtain⟨T,ae,U,af,p1,q1,V,rfl,rfl,w,r1⟩:=trodAll_cons S;obtain⟨X,ag,Y,ah,p2,q2,rfl,rfl,rfl,x,r2⟩:=trodAll_cons r1;obtain⟨Z,ai,d3,aj,p3,q3,rfl,rfl,rfl,y,r3⟩:=trodAll_cons r2;obtain⟨v4,ak,d4,ao,p4,q4,rfl,rfl,rfl,z,r4⟩:=trodAll_cons r3;obtain⟨rfl,rfl,rfl⟩:=trodAll_nil r4;obtain rfl:a=#[T,X,Z,v4]:=by{cases a;simp_all};obtain⟨rfl,rfl⟩:=trodVars_none hV;obtain⟨f1,w⟩:=w;obtain⟨f2,x⟩:=x;obtain⟨f3,y⟩:=y;obtain⟨f4,z⟩:=z;obtain⟨a1,n1,k1,rfl⟩:=okWide_slice Tryz.underlying45 (c 0 45 T rfl rfl);obtain⟨n2,rfl⟩:=okWide_int Tryz.underlying46 (c 1 46 X rfl rfl);obtain⟨a3,n3,k3,rfl⟩:=okWide_slice Tryz.underlying47 (c 2 47 Z rfl rfl);obtain⟨n4,rfl⟩:=okWide_int Tryz.underlying5 (c 3 5 v4 rfl rfl);have hb:=hk;simp only[List.cons_append,List.nil_append,List.append_nil,Go.Proofs.YtjclmfaodngbfaaGreatDoor.Rows.uptoBulkAll]at hb;obtain⟨f,A⟩:=mZ (nh H) 1048576 f1 6 45 [.l Cl] _ U p1 sh45 w (by show Go.Proofs.YtjclmfaodngbfaaGreatDoor.Rows.uptoBulk U<=_;omega);obtain⟨n,B⟩:=mZ (nh H) 1048576 f2 6 46 [.i .u32] _ Y p2 sh46 x (by show Go.Proofs.YtjclmfaodngbfaaGreatDoor.Rows.uptoBulk Y<=_;omega);obtain⟨o,C⟩:=mZ (nh H) 1048576 f3 6 47 [.l [.i .u8]] _ d3 p3 sh47 y (by show Go.Proofs.YtjclmfaodngbfaaGreatDoor.Rows.uptoBulk d3<=_;omega);obtain⟨r,D⟩:=mZ (nh H) 1048576 f4 6 5 [.i .u8] _ d4 p4 sh5 z (by show Go.Proofs.YtjclmfaodngbfaaGreatDoor.Rows.uptoBulk d4<=_;omega);obtain⟨s1,E,l1,g1,e1,b1,t1⟩:=placesOf A;obtain⟨x2,g2,t2⟩:=u32Of B;obtain⟨s3,F,l3,g3,e3,b3,t3⟩:=anC C;obtain⟨x4,g4,t4⟩:=u8Of D;have hp:=R6 (mx:=m) (psp:=E) (lsp:=F) e1 t1 b1 t2 e3 t3 b3 t4;have V:aM (fun b=>b<W.heap.size) W [.sl s1 E,.int .u32 x2,.sl s3 F,.int .u8 x4] [Value.slice a1 n1 k1,Value.int .u32 n2,Value.slice a3 n3 k3,Value.int .u8 n4]:=by{rw[g1]at f;replace f:aM (fun b=>b<W.heap.size) W [.sl s1 E] [Value.slice a1 n1 k1]:=f;rw[g2]at n;replace n:aM (fun b=>b<W.heap.size) W [.int .u32 x2] [Value.int .u32 n2]:=n;rw[g3]at o;replace o:aM (fun b=>b<W.heap.size) W [.sl s3 F] [Value.slice a3 n3 k3]:=o;rw[g4]at r;replace r:aM (fun b=>b<W.heap.size) W [.int .u8 x4] [Value.int .u8 n4]:=r;rw[aM]at f;obtain⟨u1,ar,G,I,-⟩:=f;obtain⟨rfl,rfl⟩:=List.cons.inj G;rw[aM]at n;obtain⟨u2,au,J,K,-⟩:=n;obtain⟨rfl,rfl⟩:=List.cons.inj J;rw[aM]at o;obtain⟨u3,av,L,M,-⟩:=o;obtain⟨rfl,rfl⟩:=List.cons.inj L;rw[aM]at r;obtain⟨u4,aw,N,O,-⟩:=r;obtain⟨rfl,rfl⟩:=List.cons.inj N;rw[aM];refine⟨_,_,rfl,I,?_⟩;rw[aM];refine⟨_,_,rfl,K,?_⟩;rw[aM];refine⟨_,_,rfl,M,?_⟩;rw[aM];refine⟨_,_,rfl,O,?_⟩;rw[aM]};refine IV (tb:=4) (by kernel_rfl) Tryz.func7 rfl (by kernel_rfl) hp hg V u (by kernel_rfl) rfl rfl Tryz.underlying4 rfl
end
open Go.ChangeShapes Go.WideShapes Go.ChangeAt Go.RowKit
open Go.Proofs.YtjclmfaodngbfaaGreatDoor
theorem own:ownKnob Tryz.prog.godebug=none:=by kernel_rfl
noncomputable abbrev N0:Nat:=(World.settled Tryz.prog default).heap.size
def EC:PV->Value
 |.int k n=>.int k n
 |.bool b=>.bool b
 |.str s=>.string ⟨s.toArray⟩
 |_=>.nilIface
noncomputable def pW(a:Os):World:=
 let w0:=World.holding Tryz.prog a ⟨#[.cells #[.string ⟨#[118,97,108,117,101,32,111,117,116,32,111,102,32,114,97,110,103,101]⟩] 390,.cells #[.string ⟨#[105,110,118,97,108,105,100,32,115,121,110,116,97,120]⟩] 390,.cells #[.slice (some ⟨N0+3,0,none⟩) 7 7,.slice none 0 0,.int .i64 2] 299,.cells (([9,13,1,32,133,101,160,5760,5600,8192,8202,1,8232,8233,1,8239,8287,48,12288,12288,1]:List Int).map (Value.int .u16)).toArray 301],#[],[]⟩
 let put (h:Array Go.Obj) (g:Nat) (b:Array Value):Array Go.Obj:=h.modify g fun
  |.cells _ t frozen=>.cells b t frozen
  |o=>o
 let c:=put w0.heap 6 #[.iface 388 (.pointer (some ⟨N0,0,none⟩))]
 let d:=put c 5 #[.iface 388 (.pointer (some ⟨N0+1,0,none⟩))]
 let e:=put d 3 (g4.map EC).toArray
 let f:=put e 4 (g5.map EC).toArray
 let i:=put f 7 (g6.map EC).toArray
 let j:=put i 8 (g9.map EC).toArray
 let k:=put j 9 (g10.map EC).toArray
 let l:=put k 1 #[.pointer (some ⟨N0+2,0,none⟩)]
 let m:=put l 0 (g0.map EC).toArray
 {w0 with heap:=m}
theorem KV(b:Os)(a:Array Value):laidMet Tryz.prog ik ((pW b).forCall (fun _ _=>0) ⟨#[],a,[]⟩).memory:=(LaidIn.of_run [8,9,7,4,6,N0,5,N0+1,1,N0+2,N0+3,0,3] 8 (by kernel_rfl) (by kernel_rfl) (by kernel_rfl) (by kernel_rfl)).met
def CJ:Array Value:=#[.slice none 0 0,.int .u32 0,.slice none 0 0,.int .u8 0]
theorem CK(a:Os){H:Type}(enc:TypeId×Value->H): (Rows.OpenSpec.upto Rows.drawShapeSpec).preRow enc Tryz.prog Tryz.f7 Rows.drawShapeUptoRow.domain false Rows.drawShapeUptoRow.laid ((pW a).forCall (fun _ _=>0) ⟨#[],CJ,[]⟩).memory CJ:=by have c:(DataW.whole enc Tryz.prog ((pW a).forCall (fun _ _=>0) ⟨#[],CJ,[]⟩).memory Tryz.f7.params.toList Rows.drawShapeSpec.vars false CJ.toList 8).map (fun x=>(x.1,x.2.1))= some ([.nil,.lit (.int .u32 0),.nil,.lit (.int .u8 0)],[]):=by{kernel_rfl};obtain⟨⟨f,g,h⟩,d,b⟩:=Option.map_eq_some_iff.1 c;simp only[Prod.mk.injEq]at b;obtain⟨rfl,rfl⟩:=b;exact OpenSpec.preRow_of_cond 8 d (by kernel_rfl) (fun k e=>by cases e;kernel_rfl) (by kernel_rfl) (KV a _)
set_option maxHeartbeats 2000000 in
theorem lifted(c:Os)(a:c.Started)(H:Type)(enc:TypeId×Value->H)(F:Stop.Interp): ReturnsInHanded {} Tryz.checked c 7 .any ((Rows.OpenSpec.upto Rows.drawShapeSpec).preRow enc Tryz.prog Tryz.f7 Rows.drawShapeUptoRow.domain false Rows.drawShapeUptoRow.laid) (((Rows.OpenSpec.upto Rows.drawShapeSpec).at F).post enc Tryz.prog Tryz.f7 false true false false):=by refine returnsInHanded_of_row (C:=Tryz.checked) (s:=Rows.OpenSpec.upto Rows.drawShapeSpec) own a (by kernel_rfl) Tryz.func7 (witness_row_atRef (enc:=enc) (C:=Tryz.checked) false (pW c) CJ rfl (by kernel_rfl) (by kernel_rfl) (by kernel_rfl) (CK c enc)) ?_;intro W e f k l d b g _ h _ i j _;exact akp rfl b g (of_decide_eq_true (h _ rfl)) i j
theorem plain(f:FuncId)(a:Func)(c:Tryz.pinned.checked.prog.funcNamed "twistlock/twistlocklaw41.DrawShape" =some f)(d:Tryz.pinned.checked.prog.funcs[f]? =some a): true=Tryz.pinned.checked.prog.looks []/\∀(j:Nat) t,a.params[j]? =some t->Tryz.pinned.checked.prog.wantsStandIn t=false:=by obtain rfl:f=7:=Option.some.inj ((show Tryz.prog.funcNamed "twistlock/twistlocklaw41.DrawShape" =some 7 by kernel_rfl).symm.trans c)|>.symm;obtain rfl:a=Tryz.f7:=(Option.some.inj (Tryz.func7.symm.trans d)).symm;refine⟨by kernel_rfl,fun j t b=>?_⟩;rw[Tryz.params7]at b;have:t=45\/t=46\/t=47\/t=5:=by{simpa using Array.mem_of_getElem? b};rcases this with rfl|rfl|rfl|rfl;{exact(show Tryz.prog.wantsStandIn 45=false by kernel_rfl)};{exact(show Tryz.prog.wantsStandIn 46=false by kernel_rfl)};{exact(show Tryz.prog.wantsStandIn 47=false by kernel_rfl)};exact(show Tryz.prog.wantsStandIn 5=false by kernel_rfl)
end Go.bt
