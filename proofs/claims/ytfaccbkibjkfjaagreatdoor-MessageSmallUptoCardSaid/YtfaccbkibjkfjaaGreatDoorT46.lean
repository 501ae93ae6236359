import Derived.Shelf.Strings.Split
import Derived.Shelf.Strings.OnBuilder
import Derived.Lib.Split
import Derived.Lib.SplitLaws
import Derived.Lib.IndexBytes
import Derived.Lib.Join
import Derived.Test.YtfaccbkibjkfjaaGreatDoorT22
import Derived.Test.YtfaccbkibjkfjaaGreatDoorT16
set_option linter.all false
set_option maxRecDepth 100000
set_option maxHeartbeats 1000000
namespace Go.aA
section
open Go Go.Am Go.Proofs
open Classical
attribute [local irreducible] Am.bp.holds bH fw bP ek
variable {mx:Int}
theorem Mr{s x t:B_}(b:t=s++x)(hl:t.length<2^32):pC mx 156 [.str t,.str x] (.bool true):=by have l:t.length=s.length+x.length:=by{rw[b,qal]};refine pZ agW ?_;intro _ _ _ _ d _ _ _ _ _ _ _ a _ _ e;(iterate 74 intro _);intro c f g;(iterate 26 intro _);intro h i _ _ j k _ _ _ _ zI aU aV bC bA ag aC;refine gK ?_;rw[show d (a x) (a t)=true by rw[<-bC,<-zI];subst b;simp;omega];refine aY ?_;rw[show a t=(t.length:Int) by rw[<-zI];rfl,show a x=(x.length:Int) by rw[<-zI];rfl];rw[show j .i64 (h (t.length:Int) (x.length:Int))=(s.length:Int) by rw[<-k,<-i];simp only[n9,iQ];rw[dy o_ o_];omega];rw[show f t (s.length:Int) (t.length:Int)=x by rw[<-g,b];simp[aF];exact qbI o_];refine ae (by rw[<-c];simp[aF];omega) ?_;refine gK ?_;rw[show e x x=true by rw[<-aU];simp];refine aX ?_;rfl
theorem acn{s x t:B_}(a:t=s++x)(hl:t.length<2^32):pC mx 77 [.str t,.str x] (.str s):=by have j:t.length=s.length+x.length:=by{rw[a,qal]};refine pZ amB ?_;(iterate 12 intro _);intro c;(iterate 77 intro _);intro b d e;(iterate 26 intro _);intro f g _ _ h i _ _ _ _ zI aU aV bC bA ag aC;refine gK ?_;refine pO (Mr a hl) ?_;rw[show c t=(t.length:Int) by rw[<-zI];rfl,show c x=(x.length:Int) by rw[<-zI];rfl];rw[show h .i64 (f (t.length:Int) (x.length:Int))=(s.length:Int) by rw[<-i,<-g];simp only[n9,iQ];rw[dy o_ o_];omega];rw[show d t 0 (s.length:Int)=s by rw[<-e,a];simp[aF]];refine ae (by rw[<-b];simp[aF];omega) ?_;refine gK ?_;refine aX ?_;rfl
theorem N7{s x t:B_}(a:t=s++x)(hl:t.length<2^32):pC mx 29 [.str t,.str x] (.str s):=by refine pZ amx ?_;(iterate 129 intro _);intro zI aU aV bC bA ag aC;refine gK ?_;refine pO (acn a hl) ?_;refine aX ?_;rfl
end
section
open Go Go.Am
open Classical
variable {X:R_} {l:List B_} {n:Nat}
theorem inS(a:X=l.map fun x=>[PV.str x])(h:n<l.length):aF.tu (Int.ofNat n) X 1:=by grind[aO]
theorem atS(a:X=l.map fun x=>[PV.str x])(h:n<l.length):aF.rat X (Int.ofNat n)=[.str (l.getD n [])]:=by simp_all
theorem ajX{x:B_}(a:X=l.map fun x=>[PV.str x])(h:n<l.length):aF.Gt X (Int.ofNat n) 0 [.str x]=(l.set n x).map fun x=>[PV.str x]:=by subst a;show(l.map fun x=>[PV.str x]).set n (jL 0 [.str x] ((l.map fun x=>[PV.str x]).getD n []))=_;rw[List.map_set,qab,qbO,qag h];rfl
end
end Go.aA
namespace Go.Proofs
section
open Go.Shelf
def Tryz.ag3:Go.Shelf.Ren:=⟨fun|221=>76|268=>155|138=>100|143=>101|195=>200|197=>102|218=>201|219=>202|260=>203|217=>279|225=>280|224=>281|267=>282|266=>314|314=>315|n=>n,fun|9=>9|3=>3|31=>71|4=>4|0=>0|105=>192|21=>21|5=>5|46=>152|119=>354|139=>357|138=>356|146=>393|51=>81|n=>n,fun|1=>3|3=>4|4=>5|n=>n⟩
theorem Tryz.alc:Go.Proofs.Lays.n221 Tryz.prog Tryz.ag3:={mixed:=k_,f138:=Tryz.func100.trans K_,f143:=Tryz.func101.trans K_,f195:=Tryz.func200.trans K_,f197:=Tryz.func102.trans K_,f217:=Tryz.func279.trans K_,f218:=Tryz.func201.trans K_,f219:=Tryz.func202.trans K_,f221:=Tryz.func76.trans K_,f224:=Tryz.func281.trans K_,f225:=Tryz.func280.trans K_,f260:=Tryz.func203.trans K_,f266:=Tryz.func314.trans K_,f267:=Tryz.func282.trans K_,f268:=Tryz.func155.trans K_,f314:=Tryz.func315.trans K_,t0:=Tryz.underlying0,a0:=Tryz.isAgg0,z0:=Tryz.sizeOf0,v0:=Tryz.zeroValue0,t3:=Tryz.underlying3,a3:=Tryz.isAgg3,z3:=Tryz.sizeOf3,v3:=Tryz.zeroValue3,t4:=Tryz.underlying4,a4:=Tryz.isAgg4,z4:=Tryz.sizeOf4,v4:=Tryz.zeroValue4,t5:=Tryz.underlying5,a5:=Tryz.isAgg5,z5:=Tryz.sizeOf5,v5:=Tryz.zeroValue5,t9:=Tryz.underlying9,a9:=Tryz.isAgg9,z9:=Tryz.sizeOf9,v9:=Tryz.zeroValue9,t21:=Tryz.underlying21,a21:=Tryz.isAgg21,z21:=Tryz.sizeOf21,v21:=Tryz.zeroValue21,t31:=Tryz.underlying71,a31:=Tryz.isAgg71,z31:=Tryz.sizeOf71,v31:=Tryz.zeroValue71,t46:=Tryz.underlying152,a46:=Tryz.isAgg152,z46:=Tryz.sizeOf152,v46:=Tryz.zeroValue152,t51:=Tryz.underlying81,a51:=Tryz.isAgg81,z51:=Tryz.sizeOf81,v51:=Tryz.zeroValue81,t105:=Tryz.underlying192,a105:=Tryz.isAgg192,z105:=Tryz.sizeOf192,v105:=Tryz.zeroValue192,t119:=Tryz.underlying354,a119:=Tryz.isAgg354,z119:=Tryz.sizeOf354,t138:=Tryz.underlying356,a138:=Tryz.isAgg356,z138:=Tryz.sizeOf356,v138:=Tryz.zeroValue356,t139:=Tryz.underlying357,a139:=Tryz.isAgg357,z139:=Tryz.sizeOf357,v139:=Tryz.zeroValue357,t146:=Tryz.underlying393,a146:=Tryz.isAgg393,z146:=Tryz.sizeOf393,v146:=Tryz.zeroValue393,g1:=k_,g3:=k_,g4:=by kernel_rfl}
def Tryz.aeh:Go.Shelf.Ren:=⟨fun|156=>31|165=>78|166=>79|169=>80|240=>157|241=>158|276=>243|277=>244|n=>n,fun|31=>71|9=>9|3=>3|4=>4|0=>0|20=>20|72=>140|76=>144|70=>138|37=>82|75=>143|127=>244|164=>317|5=>5|80=>146|n=>n,fun|n=>n⟩
theorem Tryz.ald:Go.Proofs.Lays.n156 Tryz.prog Tryz.aeh:={mixed:=k_,f156:=Tryz.func31.trans K_,f165:=Tryz.func78.trans K_,f166:=Tryz.func79.trans K_,f169:=Tryz.func80.trans K_,f240:=Tryz.func157.trans K_,f241:=Tryz.func158.trans K_,f276:=Tryz.func243.trans K_,f277:=Tryz.func244.trans K_,t0:=Tryz.underlying0,a0:=Tryz.isAgg0,z0:=Tryz.sizeOf0,v0:=Tryz.zeroValue0,t3:=Tryz.underlying3,a3:=Tryz.isAgg3,z3:=Tryz.sizeOf3,v3:=Tryz.zeroValue3,t4:=Tryz.underlying4,a4:=Tryz.isAgg4,z4:=Tryz.sizeOf4,v4:=Tryz.zeroValue4,t9:=Tryz.underlying9,a9:=Tryz.isAgg9,z9:=Tryz.sizeOf9,v9:=Tryz.zeroValue9,t20:=Tryz.underlying20,a20:=Tryz.isAgg20,z20:=Tryz.sizeOf20,v20:=Tryz.zeroValue20,t31:=Tryz.underlying71,a31:=Tryz.isAgg71,z31:=Tryz.sizeOf71,v31:=Tryz.zeroValue71,t37:=Tryz.underlying82,a37:=Tryz.isAgg82,z37:=Tryz.sizeOf82,v37:=Tryz.zeroValue82,t70:=Tryz.underlying138,a70:=Tryz.isAgg138,z70:=Tryz.sizeOf138,v70:=Tryz.zeroValue138,t72:=Tryz.underlying140,a72:=Tryz.isAgg140,z72:=Tryz.sizeOf140,v72:=Tryz.zeroValue140,t75:=Tryz.underlying143,a75:=Tryz.isAgg143,z75:=Tryz.sizeOf143,v75:=Tryz.zeroValue143,t76:=Tryz.underlying144,a76:=Tryz.isAgg144,z76:=Tryz.sizeOf144,v76:=Tryz.zeroValue144,t127:=Tryz.underlying244,a127:=Tryz.isAgg244,z127:=Tryz.sizeOf244,v127:=Tryz.zeroValue244,t164:=Tryz.underlying317,a164:=Tryz.isAgg317,z164:=Tryz.sizeOf317,v164:=Tryz.zeroValue317}
end
section
open Go Go.Am Go.Proofs Go.aA
open Go.Shelf Go.RowKit
theorem Tryz.ajo:Builder.Extra Tryz.prog Tryz.aeh:={sizeBuilder:=k_,liesBuilder:=k_,t5:=k_,a5:=Tryz.sA.a5,z5:=Tryz.sA.z5,v5:=Tryz.sA.v5,infoByte:=k_,cellsByte:=k_,sizeByte:=k_,neB5:=d_}
end
end Go.Proofs
namespace Go.aA
section
open Go Go.Am Go.Proofs Go.aA
open Go.RowKit
variable {l:List B_} {t:B_} {mx:Int}
theorem ahU{S:Nat->Prop}{w:World}(a:rh (GG mx) S w):w.cell? ⟨3,0,none⟩=some (.i mx):=by obtain⟨b,c,d,e,f⟩:=a 3 [.i mx] rfl;grind[dm,aD,At,World.cell?]
theorem Ku{s:B_}{c:UInt8}{P:List B_}{sv:Nat}{k:Int}(m:sv<=1)(d:k=(sv:Int))(hs:s.length<4294967281)(h:Lib.splitK [c] sv (s.count c) s=P)(f:P.length=s.count c+1): pC mx 76 [.str s,.str [c],.i k,.i (-1)] (.sl (P.map fun x=>[.str x]) []):=by subst d;intro S w n o g hvs;obtain⟨u,l,rfl,rfl,p,q,rfl,rfl,t,v,rfl,rfl,y,z,rfl,rfl,rfl⟩:=hvs;have A:Lib.countB ⟨s.toArray⟩ ⟨[c].toArray⟩=s.count c:=by{grind[Lib.count_one]};have i:((Lib.splitB ⟨[c].toArray⟩ sv (s.count c) ⟨s.toArray⟩).map (·.data.toList))=P:=by{grind[Lib.splitB_data]};have a:(Lib.splitB ⟨[c].toArray⟩ sv (s.count c) ⟨s.toArray⟩).length=s.count c+1:=by{grind};refine(Any.strings_genSplit Tryz.alc k_ ⟨s.toArray⟩ ⟨[c].toArray⟩ sv (-1) (s.count c+1) mx w (by grind[ByteArray.size]) (ahU g) (by simp[ByteArray.size]) (by grind[ByteArray.size]) d_ d_ (by grind[ByteArray.size])).mono ?_;rintro e w' ⟨rfl,rfl⟩;rw[qbp,a];refine⟨_,rfl,(Below.refl _ _).alloc (qak _) _,?_⟩;refine⟨_,_,by rw[qap,f],a_,.inr ⟨w.heap.size,0,_,1,rfl,.inr ⟨qak _,s_⟩,ez,fun r b=>g_,(fun r b=>by cases b),?_,trivial⟩⟩;refine bM.lV (sz:=1) (fun r b=>g_) fun j C=>?_;have e:Lib.cellsOf (Lib.splitB ⟨[c].toArray⟩ sv (s.count c) ⟨s.toArray⟩) (s.count c+1)=(P.map fun s=>Value.string ⟨s.toArray⟩).toArray:=by{rw[<-a,Lib.cellsOf_full,<-i,qcA];rfl};simp_all[dm,aD]
theorem join_nil:∀{l:List B_},Lib.join l []=l.flatten
|[]=>rfl
|x::r=>by simp_all[Lib.join_cons,Lib.joinTail]
theorem N6{rows sp:R_}{sep:B_}(G:rows=l.map fun x=>[PV.str x])(i:l≠[])(hl:l.length<2^32)(k:Lib.join l sep=t)(H:t.length<2^32): pC mx 31 [.sl rows sp,.str sep] (.str t):=by intro S w I m K hvs;obtain⟨u,L,rfl,⟨a,e,rfl,M,f⟩,N,O,rfl,rfl,rfl⟩:=hvs;have P:rows.length=l.length:=a_;have n:0<l.length:=qbm.2 i;rcases f with⟨f,-⟩|⟨b,d,c,o,rfl,p,Q,g,-,q,-⟩;{simp_all};have R:o=1:=by{have:=g (rows[0]' o_) (qaf _);simp_all};have r:rows.length=(l.map fun s=>(⟨s.toArray⟩:ByteArray)).length:=a_;have v:(Lib.join ((l.map fun s=>(⟨s.toArray⟩:ByteArray)).map (·.data.toList)) ((⟨sep.toArray⟩:ByteArray).data.toList))=t:=by{rw[qcA,<-k];have:((fun x:ByteArray=>x.data.toList)∘fun s:B_=>(⟨s.toArray⟩:ByteArray))=id:=r_;simp_all};have J:=fun z A B C D=>Any.strings_Join Tryz.ald Tryz.ajo b d e (l.map fun s=>(⟨s.toArray⟩:ByteArray)) ⟨sep.toArray⟩ w z A B C D;rw[v,<-r]at J;have E:∀(j:Nat) x,(l.map fun s=>(⟨s.toArray⟩:ByteArray))[j]? =some x->w.cell? ⟨b,d+j,none⟩=some (.string x):=by{intro j x h;rw[qbO]at h;obtain⟨y,F,rfl⟩:=qah.1 h;obtain⟨T,rfl⟩:=qat.1 F;have:=bM.rows g q (j:=j) o_;grind[dm,aD,At,World.cell?]};refine(J E (m b p) o_ o_ o_).mono ?_;grind[aD]
theorem aiW{rows a:R_}(b:rows=l.map fun x=>[PV.str x])(c:l≠[])(hl:l.length<2^32)(d:l.flatten=t)(e:t.length<2^32): pC mx 31 [.sl rows a,.str []] (.str t):=N6 b c hl (join_nil.trans d) e
end
open Go Go.Am Go.Proofs
open Classical
variable {l:List B_}
attribute [local irreducible] Am.bp.holds bH fw bP ek
variable {mx:Int}
theorem Vg{n:Nat}(h:n<100):(digits n).length<=4:=by have:∀n,n<100->(digits n).length<=4:=v_;exact this n h
theorem Eh{B:Nat}:∀{l:List B_},(∀x∈l,x.length<=B)->l.flatten.length<=l.length*B
|[],_=>s_
|x::r,h=>by have h1:=h x s_;have b:=Eh (l:=r) (B:=B) (fun y a=>h y (by simp[a]));rw[List.flatten_cons,qal,qaq,Nat.add_one_mul];omega
theorem join_le{B:Nat}{s:B_}:∀{l:List B_},(∀x∈l,x.length<=B)->(Lib.join l s).length<=l.length*(B+s.length)
|[],_=>by simp[Lib.join]
|x::r,h=>by have h1:=h x s_;have h2:=Eh (l:=r.map (s++·)) (B:=B+s.length) (fun y a=>by obtain⟨z,b,rfl⟩:=qaw.1 a;have:=h z (by simp[b]);rw[qal];omega);rw[qap]at h2;have c:Lib.join (x::r) s=x++(r.map (s++·)).flatten:=by{rw[Lib.join_cons,Lib.joinTail]};rw[c,qal,qaq,Nat.add_one_mul];omega
def tY(l:List B_):B_:=[72,69,68,43,82,49,43,66,65,89,80,76,78,39]++l.flatten++[69,78,68,43]++digits (l.length+2)++[43,82,49,39]
theorem YL(hl:l.length<=20)(hs:l.flatten.length<=2900):(tY l).length<=3000:=by have:=Vg (n:=l.length+2) o_;simp only[tY,qal,qaq,qaD];omega
theorem aco{rows r:R_}{T:B_}(q:rows=l.map fun x=>[PV.str x])(s:l≠[])(hl:l.length<=20)(hs:l.flatten.length<=2900)(hT:T=tY l): pC mx 30 [.sl rows r] (.str T):=by obtain⟨J,k⟩:∃J,l.flatten=J:=⟨_,rfl⟩;obtain⟨f,m⟩:∃t,t=digits (l.length+2):=⟨_,rfl⟩;have D:f.length<=4:=by{rw[m];exact Vg o_};obtain⟨g,c⟩:∃t,t=[72,69,68,43,82,49,43,66,65,89,80,76,78,39]++J:=⟨_,rfl⟩;obtain⟨h,d⟩:∃t,t=g++[69,78,68,43]:=⟨_,rfl⟩;obtain⟨i,e⟩:∃t,t=h++f:=⟨_,rfl⟩;have u:g.length=14+J.length:=by{rw[c];simp;omega};have v:h.length=18+J.length:=by{rw[d,qal,u];simp;omega};have E:i.length<=22+J.length:=by{rw[e,qal,v];omega};have o:i++[43,82,49,39]=T:=by{rw[hT,e,d,c,m,tY,k]};have w:rows.length=l.length:=by{rw[q,qap]};rw[k]at hs;refine pZ amy ?_;(iterate 93 intro _);intro j _ a b;(iterate 18 intro _);intro y _ _ _ _ _ z A B C _ _ _ _ zI aU aV bC bA ag aC;refine gK ?_;refine pO (aiW (t:=J) q s o_ k o_) ?_;refine ae (by rw[<-a,X9];simp;omega) ?_;rw[show j [72,69,68,43,82,49,43,66,65,89,80,76,78,39] J=g by rw[<-b,c];rfl];refine gK ?_;refine ae (by rw[<-a,X9];simp;omega) ?_;rw[show j g [69,78,68,43]=h by rw[<-b,d];rfl];refine gK ?_;have p:B .i64 (z (y rows) 2)=Int.ofNat (l.length+2):=by{rw[<-C,<-A,<-ag];simp only[n9,kT,X5];rw[w,dy o_ o_];rfl};rw[p];refine pO (mg (mx:=mx) (n:=l.length+2) (t:=f) o_ m) ?_;refine ae (by rw[<-a,X9];omega) ?_;rw[show j h f=i by rw[<-b,e];rfl];refine gK ?_;refine ae (by rw[<-a,X9];simp;omega) ?_;rw[show j i [43,82,49,39]=T by rw[<-b,<-o];rfl];refine gK ?_;refine aX ?_;rfl
end Go.aA
