import Derived.RangeFuncNested
import Derived.RangeFuncBound
import Derived.RangeFuncCalls
import Derived.RangeFuncLeaves
import Derived.Shelf.Abstract
import Derived.Shelf.RegionOpen
import Derived.WalkKit
import Derived.OwnWalkIn
import Derived.TacticsInMore
import Derived.LoopNIn
import Derived.LoopIn
import Derived.Test.YtfaccbkibjkfjaaGreatDoorProg
import Derived.Test.YtfaccbkibjkfjaaGreatDoorT08
import Derived.Test.YtfaccbkibjkfjaaGreatDoorT07
import Derived.Test.YtfaccbkibjkfjaaGreatDoorT10
import Derived.Test.YtfaccbkibjkfjaaGreatDoorT12
set_option linter.all false
set_option maxRecDepth 100000
set_option maxHeartbeats 1000000
section
open Go Go.Am Go.Proofs Go.RowKit Go.Shelf
attribute [local go_sem] Oper.semAt_some
namespace Go.bt
variable {mx:Int}
set_option maxHeartbeats 2000000 in
theorem VQ (l Bs b off len cap Kt:Nat) (J:Nat→(Nat→Prop)→World→Prop) (Jx:World→Prop) (S:Nat→Prop) (pt:Nat→ByteArray) (at_ dr:Nat→Int) (hlen:len<2^32) (YA:S b) (hSB:S Bs)
  (hm:Tryz.prog.follows .mixedOrders=true)
  (hY:∀k T W,k+1<len→J k T W→YieldAt Fence.wide 0 Tryz.prog l #[.int .i64 k,.agg #[.string (pt k),.int .i64 (at_ k),.int .i64 (dr k),.string (pt (k+1)),.int .i64 (at_ (k+1)),.int .i64 (dr (k+1))]] W fun e W'=>
   ∃bb,e=.returned (.bool bb)∧((bb=true∧J (k+1) T W'∧W.heap.size≤W'.heap.size∧∀b,T b→W'.heap[b]? =W.heap[b]?)∨(bb=false∧Jx W')))
  (hd:∀k T W,J k T W→J k T W.drew)
  (W:World) (Zb:W.cell? ⟨Bs,Kt,none⟩=some (.slice (some ⟨b,off,none⟩) len cap))
  (hc:∀j,j<len→W.cell? ⟨b,off+j*3,none⟩=some (.string (pt j))∧W.cell? ⟨b,off+j*3+1,none⟩=some (.int .i64 (at_ j))∧W.cell? ⟨b,off+j*3+2,none⟩=some (.int .i64 (dr j))) (h0:J 0 S W):
  CallsIn Fence.wide 0 Tryz.prog 226 (#[.func (.yield l) #[] #[],.pointer (some ⟨Bs,Kt,none⟩)]) W fun e W'=>(∃v,e=.returned v)∧((∃T,J (len-1) T W')∨Jx W'):=by
 refine callsIn_of_wp Tryz.func226 rfl trivial ?_ rfl;simp only[Tryz.ntmps226,qb9,qaq,qaD,Nat.reduceAdd,Nat.reduceSub,Array.replicate_succ,Array.replicate_zero,List.push_toArray,List.append_toArray,qbi,qaN]
 gi_wp2
 gi_loopw [7] (fun i wr=>∃k:Nat,(k=0∨k+1≤len)∧i=.int .i64 k∧J k S wr∧(wr.heap[b]? =W.heap[b]?∧wr.heap[Bs]? =W.heap[Bs]?))
  (fun i _=>len-(intOf i).toNat)
 case atStart=>exact⟨0,.inl rfl,rfl,h0,rfl,rfl⟩
 case round=>
  obtain⟨k,hk,rfl,hJs,WE,oA⟩:=hrel
  have hw:RowKit.wrap64 ((len:Int)-1)=(len:Int)-1:=by simp[RowKit.wrap64];omega
  by_cases bO:k+1<len
  ·obtain⟨fn,tmps,assign,body,hy,hR⟩:=hY k S wr.drew bO (hd _ _ _ hJs)
   have XO:∀o,wr.cell? ⟨b,o,none⟩=W.cell? ⟨b,o,none⟩:=fun o=>by unfold World.cell?;simp only[WE]
   have hBs':wr.cell? ⟨Bs,Kt,none⟩=some (.slice (some ⟨b,off,none⟩) len cap):=by rw[←Zb];unfold World.cell?;simp only[oA]
   obtain⟨GD,pH,YC⟩:=hc k (by omega);obtain⟨Zc,hc5,hc6⟩:=hc (k+1) bO;rw[←XO]at GD pH YC Zc hc5 hc6;have hwk:IntKind.i64.wrap ((k:Int)+1)=(k:Int)+1:=dy (by omega) (by omega)
   have hwk2:RowKit.wrap64 ((k:Int)+1)=(k:Int)+1:=by simp[RowKit.wrap64];omega
   have Zd:(0:Int)≤(k:Int)+1:=by omega
   have AB:(k:Int)+1<(len:Int):=by omega
   gi_wp2
   gi_region_with_o (refine⟨rfl,hR.mono ?_⟩;rintro e W3 ⟨bb,rfl,dD⟩)
   all_goals
    rcases dD with⟨rfl,hJ3,hsz3,hk3⟩|⟨rfl,hJx3⟩
    ·gi_wp2
     go_roundw
     case rel=>exact⟨k+1,.inr (by omega),by simp,hJ3,(hk3 b YA).trans WE,(hk3 Bs hSB).trans oA⟩
     case measure=>simp[intOf];omega
    ·gi_wp2
     refine bodyPost_ret (results_none rfl _ _ _) rfl ?_;exact⟨⟨_,rfl⟩,.inr hJx3⟩
  ·gi_wp2
   go_end0
   exact⟨⟨_,rfl⟩,.inl ⟨S,by rw[show len-1=k by omega];exact hJs⟩⟩
end Go.bt
end
section
open Go Go.Am Go.Proofs Go.RowKit
namespace Go.bt
variable {mx:Int}
theorem VR:Tryz.prog.follows .mixedOrders=true:=by kernel_rfl
theorem Cw {S:Nat→Prop} {w:World}:∀{rs:List (List PV)} {c:Array Value} {o sz j:Nat},aK sz rs→bM S w rs c o→j<rs.length→dm S w (rs.getD j []) c (o+j*sz)
 |[],_,_,_,j,_,_,hj=>by simp at hj
 |r::rs,c,o,sz,0,_,h,_=>by simp only[bM]at h;simpa using h.1
 |r::rs,c,o,sz,j+1,ha,h,hj=>by
  simp only[bM]at h;have hr:r.length=sz:=ha r (by simp);have:=Cw (fun x hx=>ha x (by simp[hx])) h.2 (j:=j) (by simpa using hj);rw[hr]at this;rw[show o+(j+1)*sz=o+sz+j*sz by rw[qaS];omega];simpa using this
def lI (l:List cT):List (List PV):=(List.range (l.length-1)).map fun k:Nat=>[.int .i64 (k:Int),.agg ((l.getD k ⟨[],0,0⟩).enc++(l.getD (k+1) ⟨[],0,0⟩).enc)]
theorem Ku {rows sp:List (List PV)} {l:List cT} (hr:rows=l.map cT.enc) (hl:l.length<2^32) (h0:rows≠[]):ItC Tryz.prog (GG mx) 226 [.ptr [.sl rows sp]] (lI l):=by
 refine⟨fun args w=>?_,?_⟩
 ·have e:=enters_of Tryz.func226 (by kernel_rfl) rfl;exact e args w
 intro S w vs hS hG Fo lp J Jx hJ ZJ hY hJ0
 have Gd:rows.length=l.length:=by rw[hr];simp
 simp only[aM,aD]at Fo;obtain⟨v,r,rfl,⟨Bs,Kt,cB,rfl,hSB,hcB,⟨sv,CR,Tk⟩,-⟩,rfl⟩:=Fo;obtain⟨a,cap,rfl,fF,YD⟩:=Tk
 rcases YD with⟨h,-⟩|⟨b,off,c,sz,rfl,YA,hc,bS,-,hR,-⟩
 ·exact absurd h h0
 have dH:sz=3:=by
  cases l with
  |nil=>simp at hr;exact absurd hr h0
  |cons x l'=>rw[hr]at bS;have:=bS _ (qaz ..);simpa[cT.enc]using this.symm
 subst dH
 have hcell:∀j,j<l.length→w.cell? ⟨b,off+j*3,none⟩=some (.string ⟨(l.getD j ⟨[],0,0⟩).port.toArray⟩)∧w.cell? ⟨b,off+j*3+1,none⟩=some (.int .i64 (l.getD j ⟨[],0,0⟩).at_)∧w.cell? ⟨b,off+j*3+2,none⟩=some (.int .i64 (l.getD j ⟨[],0,0⟩).dr):=by
  intro j hj;have h1:=Cw bS hR (j:=j) (by omega)
  have h2:rows.getD j []=[.str (l.getD j ⟨[],0,0⟩).port,.int .i64 (l.getD j ⟨[],0,0⟩).at_,.int .i64 (l.getD j ⟨[],0,0⟩).dr]:=by
   rw[hr];simp[qab,hj,cT.enc]
  rw[h2]at h1;simp only[dm,aD]at h1;obtain⟨⟨v1,h1,rfl⟩,⟨v2,h2,rfl⟩,⟨v3,h3,rfl⟩,-⟩:=h1;exact⟨by rw[cell_of hc];exact h1,by rw[cell_of hc];exact h2,by rw[cell_of hc];exact h3⟩
 have Ih:∀k T W,J k T W→J k T W.drew:=fun k T W h=>by
  have:=hJ k T W W.drew h ⟨rfl,rfl,rfl,qak _,fun _ _=>rfl⟩
  have e:(fun b=>T b∨(W.heap.size≤b∧b<W.drew.heap.size))=T:=by
   funext b
   have:W.drew.heap.size=W.heap.size:=rfl;rw[this];exact propext ⟨fun h=>h.elim id (fun h=>absurd h.2 (by omega)),.inl⟩
  rw[e]at this;exact this
 have hN:(lI l).length=l.length-1:=by simp[lI]
 refine CallsIn.mono (VQ lp Bs b off rows.length cap Kt J Jx S (fun j=>⟨(l.getD j ⟨[],0,0⟩).port.toArray⟩) (fun j=>(l.getD j ⟨[],0,0⟩).at_) (fun j=>(l.getD j ⟨[],0,0⟩).dr) (by omega) YA hSB VR ?_ ?_ w ?_ ?_ hJ0) ?_
 ·intro k T W hk hj
  have eR:k<(lI l).length:=by omega
  have hy:=hY k eR T W [.int .i64 k,.agg #[.string ⟨(l.getD k ⟨[],0,0⟩).port.toArray⟩,.int .i64 (l.getD k ⟨[],0,0⟩).at_,.int .i64 (l.getD k ⟨[],0,0⟩).dr,.string ⟨(l.getD (k+1) ⟨[],0,0⟩).port.toArray⟩,.int .i64 (l.getD (k+1) ⟨[],0,0⟩).at_,.int .i64 (l.getD (k+1) ⟨[],0,0⟩).dr]] hj (by
   simp only[lI,qcf,List.getElem_range,aM,aD];refine⟨_,_,rfl,rfl,_,_,rfl,⟨_,rfl,?_⟩,rfl⟩
   simp[cT.enc,aM,aD])
  obtain⟨fn,tmps,Za,bd,h1,h2⟩:=hy;refine⟨fn,tmps,Za,bd,h1,h2.mono ?_⟩;rintro e W' (⟨rfl,h3,h4,h5⟩|⟨rfl,h3⟩)
  ·exact⟨true,rfl,.inl ⟨rfl,h3,h4,h5⟩⟩
  ·exact⟨false,rfl,.inr ⟨rfl,h3⟩⟩
 ·exact Ih
 ·rw[cell_of hcB];simpa using CR
 ·intro j hj;exact hcell j (by omega)
 ·rintro e W' ⟨h1,⟨T,h2⟩|h2⟩
  ·exact⟨h1,.inl ⟨T,by rw[hN,←Gd];exact h2⟩⟩
  ·exact⟨h1,.inr h2⟩
end Go.bt
end
section
open Go Go.Am Go.Proofs Go.RowKit Go.Shelf
attribute [local go_sem] Oper.semAt_some
namespace Go.bt
variable {mx:Int}
set_option maxHeartbeats 4000000 in
theorem YE (W:World) (l Cs UX Zs Oc b off n cap H:Nat) (size:Int) (J:Nat→(Nat→Prop)→World→Prop) (Jx:World→Prop) (S:Nat→Prop) (F:Nat→Nat→Int) (D:Nat→Bool) (P:Nat→Option Addr) (L C:Nat→Nat) (base tn:Nat→Nat) (hv:Nat→Int) (xP:∀c,c<n→W.cell? ⟨b,off+c*12,none⟩=some (.int .i64 (F c 0))∧W.cell? ⟨b,off+c*12+1,none⟩=some (.int .i64 (F c 1))∧W.cell? ⟨b,off+c*12+2,none⟩=some (.bool (D c))∧W.cell? ⟨b,off+c*12+3,none⟩=some (.int .i64 (F c 3))∧W.cell? ⟨b,off+c*12+4,none⟩=some (.int .i64 (F c 4))∧W.cell? ⟨b,off+c*12+5,none⟩=some (.int .i64 (F c 5))∧W.cell? ⟨b,off+c*12+6,none⟩=some (.int .i64 (F c 6))∧W.cell? ⟨b,off+c*12+7,none⟩=some (.int .i64 (F c 7))∧W.cell? ⟨b,off+c*12+8,none⟩=some (.slice (P c) (L c) (C c))∧W.cell? ⟨b,off+c*12+9,none⟩=some (.int .i64 (F c 9))∧W.cell? ⟨b,off+c*12+10,none⟩=some (.int .i64 (F c 10))∧W.cell? ⟨b,off+c*12+11,none⟩=some (.int .i64 (F c 11))) (hlen:n<2^32) (ZA:∀c,c<n→tn c<2^32) (hH32:H<2^32)
  (htn:∀c,tn c=(F c 3).toNat) (YF:base 0=0) (Y5:∀c,base (c+1)=base c+tn c*H) (hm:Tryz.prog.follows .mixedOrders=true) (YA:S b) (hSC:S Cs) (hSZ:S Zs) (aah:∀x,S x→x<W.heap.size)
  (hd:∀k T W W',J k T W→RowKit.Below W.heap.size W W'→J k (fun b=>T b∨(W.heap.size≤b∧b<W'.heap.size)) W')
  (hY:∀c t h T W,c<n→t<tn c→h<H→J (base c+t*H+h) T W→YieldAt Fence.wide 0 Tryz.prog l #[.agg #[.int .i64 c,.int .i64 t,.int .u8 (hv h)]] W fun e W'=>
   ∃bb,e=.returned (.bool bb)∧((bb=true∧J (base c+t*H+h+1) T W'∧W.heap.size≤W'.heap.size∧∀b,T b→W'.heap[b]? =W.heap[b]?)∨(bb=false∧Jx W')))
  (hC:∀w,(∀x,S x→w.heap[x]? =W.heap[x]?)→W.heap.size≤w.heap.size→Calls Tryz.prog 271 #[.int .u8 size] w fun e w'=>RowKit.Below w.heap.size w w'∧∃a cap,e=.returned (.slice a H cap)∧(H≠0→∃b2 o2,a=some ⟨b2,o2,none⟩∧(S b2∨(w.heap.size≤b2∧b2<w'.heap.size))∧∀h,h<H→w'.cell? ⟨b2,o2+h,none⟩=some (.int .u8 (hv h))))
  (Zb:W.cell? ⟨Cs,UX,none⟩=some (.slice (some ⟨b,off,none⟩) n cap)) (hZ:W.cell? ⟨Zs,Oc,none⟩=some (.int .u8 size)) (h0:J 0 S W):
  CallsIn Fence.wide 0 Tryz.prog 323 (#[.func (.yield l) #[] #[],.pointer (some ⟨Cs,UX,none⟩),.pointer (some ⟨Zs,Oc,none⟩)]) W fun e W'=>(∃v,e=.returned v)∧((∃T,J (base n) T W')∨Jx W'):=by
 refine callsIn_of_wp Tryz.func323 rfl trivial ?_ rfl;simp only[Tryz.ntmps323,qb9,qaq,qaD,Nat.reduceAdd,Nat.reduceSub,Array.replicate_succ,Array.replicate_zero,List.push_toArray,List.append_toArray,qbi,qaN]
 gi_wp2
 gi_loopw [12] (fun i wr=>∃c:Nat,c≤n∧i=.int .i64 c∧Hid (∃T,J (base c) T wr∧(∀x,S x→T x)∧(∀x,S x→wr.heap[x]? =W.heap[x]?)∧W.heap.size≤wr.heap.size))
  (fun i _=>n-(intOf i).toNat)
 case atStart=>exact⟨0,by omega,rfl,S,by rw[YF];exact h0,fun _ h=>h,fun _ _=>rfl,qak _⟩
 case round=>
  obtain⟨c,hc,rfl,T,hJ,MQ,Mz,dH⟩:=hrel
  by_cases bO:c<n
  ·have XO:∀o,wr.cell? ⟨b,o,none⟩=W.cell? ⟨b,o,none⟩:=fun o=>by unfold World.cell?;simp only[Mz b YA]
   obtain⟨q0,q1,q2,q3,q4,q5,q6,q7,q8,q9,q10,q11⟩:=xP c bO;rw[←XO]at q0 q1 q2 q3 q4 q5 q6 q7 q8 q9 q10 q11
   clear XO
   have htc:=htn c;have hbc:=ZA c bO;have HJ:Hid (J (base c) T wr∧(∀x,S x→T x)∧(∀x,S x→wr.heap[x]? =W.heap[x]?)∧W.heap.size≤wr.heap.size):=⟨hJ,MQ,Mz,dH⟩
   have HQ:Hid ((∀w,(∀x,S x→w.heap[x]? =W.heap[x]?)→W.heap.size≤w.heap.size→Calls Tryz.prog 271 #[.int .u8 size] w fun e w'=>RowKit.Below w.heap.size w w'∧∃a cap,e=.returned (.slice a H cap)∧(H≠0→∃b2 o2,a=some ⟨b2,o2,none⟩∧(S b2∨(w.heap.size≤b2∧b2<w'.heap.size))∧∀h,h<H→w'.cell? ⟨b2,o2+h,none⟩=some (.int .u8 (hv h))))∧
    (∀c t h T W,c<n→t<tn c→h<H→J (base c+t*H+h) T W→YieldAt Fence.wide 0 Tryz.prog l #[.agg #[.int .i64 c,.int .i64 t,.int .u8 (hv h)]] W fun e W'=>
   ∃bb,e=.returned (.bool bb)∧((bb=true∧J (base c+t*H+h+1) T W'∧W.heap.size≤W'.heap.size∧∀b,T b→W'.heap[b]? =W.heap[b]?)∨(bb=false∧Jx W')))∧(∀k T W W',J k T W→RowKit.Below W.heap.size W W'→J k (fun b=>T b∨(W.heap.size≤b∧b<W'.heap.size)) W')∧(∀c,base (c+1)=base c+tn c*H)∧(∀x,S x→x<W.heap.size)∧W.cell? ⟨Zs,Oc,none⟩=some (.int .u8 size)):=⟨hC,hY,hd,Y5,aah,hZ⟩
   clear hC hY hd Y5 aah xP hJ MQ Mz htn ZA h0 YF
   generalize F c 3=x3 at q3 htc
   gi_wp2
   all_goals
    obtain⟨W2,hW2⟩:∃W2,W2=wr.alloc (Go.Obj.cells #[.int .i64 (F c 0),.int .i64 (F c 1),.bool (D c),.int .i64 x3,.int .i64 (F c 4),.int .i64 (F c 5),.int .i64 (F c 6),.int .i64 (F c 7),.slice (P c) (L c) (C c),.int .i64 (F c 9),.int .i64 (F c 10),.int .i64 (F c 11)] 99):=⟨_,rfl⟩
    try rw[←hW2]
    have Wc:RowKit.Below wr.heap.size wr W2:=by rw[hW2];exact(RowKit.Below.refl _ _).alloc (qak _) _
    have HJ2:Hid (∃T,J (base c) T W2∧(∀x,S x→T x)∧(∀x,S x→W2.heap[x]? =W.heap[x]?)∧W.heap.size≤W2.heap.size):=⟨_,HQ.2.2.1 _ _ _ _ HJ.1 Wc,fun x h=>.inl (HJ.2.1 x h),fun x h=>(Wc.block x (qde (HQ.2.2.2.2.1 x h) HJ.2.2.2)).trans (HJ.2.2.1 x h),qbr HJ.2.2.2 Wc.size⟩
    clear q0 q1 q2 q3 q4 q5 q6 q7 q8 q9 q10 q11 HJ
   all_goals
    gi_loopw [20] (fun i wr=>∃t:Nat,t≤tn c∧i=.int .i64 t∧Hid (∃T,J (base c+t*H) T wr∧(∀x,S x→T x)∧(∀x,S x→wr.heap[x]? =W.heap[x]?)∧W.heap.size≤wr.heap.size))
     (fun i _=>tn c-(intOf i).toNat)
    case atStart=>exact⟨0,by omega,rfl,by simpa using HJ2⟩
    case round=>
     clear HJ2 Wc hW2
     obtain⟨t,ht,rfl,T,hJ,MQ,Mz,dH⟩:=hrel
     have hZ':wr.cell? ⟨Zs,Oc,none⟩=some (.int .u8 size):=by rw[←HQ.2.2.2.2.2];unfold World.cell?;simp only[Mz Zs hSZ]
     by_cases LG:t<tn c
     ·gi_wp2
      all_goals
       refine⟨trivial,rfl,CallsIn.mono (callsIn_wide.2 (HQ.1 wr Mz dH)) ?_⟩;rintro e W3 ⟨hB3,a,cap3,rfl,oa⟩;dsimp only
       go_at_K
       have HJ3:Hid (∃T,J (base c+t*H) T W3∧(∀x,S x→T x)∧(∀x,S x→W3.heap[x]? =W.heap[x]?)∧W.heap.size≤W3.heap.size∧(H≠0→∃b2 o2,a=some ⟨b2,o2,none⟩∧T b2∧∀h,h<H→W3.cell? ⟨b2,o2+h,none⟩=some (.int .u8 (hv h)))):=
        ⟨_,HQ.2.2.1 _ _ _ _ hJ hB3,fun x h=>.inl (MQ x h),fun x h=>(hB3.block x (qde (HQ.2.2.2.2.1 x h) dH)).trans (Mz x h),qbr dH hB3.size,fun h=>by
         obtain⟨b2,o2,h1,h2,h3⟩:=oa h
         exact⟨b2,o2,h1,h2.imp (MQ b2) id,h3⟩⟩
       clear oa hJ Mz hB3 dH hZ'
       gi_wp2
       gi_loopw [26] (fun i wr=>∃h:Nat,h≤H∧i=.int .i64 h∧Hid (∃T,J (base c+t*H+h) T wr∧(∀x,S x→T x)∧(∀x,S x→wr.heap[x]? =W.heap[x]?)∧W.heap.size≤wr.heap.size∧(H≠0→∃b2 o2,a=some ⟨b2,o2,none⟩∧T b2∧∀h,h<H→wr.cell? ⟨b2,o2+h,none⟩=some (.int .u8 (hv h)))))
        (fun i _=>H-(intOf i).toNat)
       case atStart=>exact⟨0,by omega,rfl,by simpa using HJ3⟩
       case round=>
        clear HJ3
        obtain⟨h,hh,rfl,T,hJ,MQ,Mz,dH,oa⟩:=hrel
        by_cases aai:h<H
        ·obtain⟨b2,o2,rfl,hTb,uy⟩:=oa (by omega);have hci:=uy h aai;obtain⟨fn,tmps,assign,body,hy,hR⟩:=HQ.2.1 c t h T wr bO LG aai hJ
         clear hJ
         gi_wp2
         all_goals
          refine⟨rfl,hR.mono ?_⟩;rintro e W4 ⟨bb,rfl,dD⟩;dsimp only
          go_at_K
          rcases dD with⟨rfl,hJ4,aal,hk4⟩|⟨rfl,hJx4⟩
          ·have HJ4:Hid (∃T,J (base c+t*H+(h+1)) T W4∧(∀x,S x→T x)∧(∀x,S x→W4.heap[x]? =W.heap[x]?)∧W.heap.size≤W4.heap.size∧(H≠0→∃b2' o2',some (⟨b2,o2,none⟩:Addr)=some ⟨b2',o2',none⟩∧T b2'∧∀h,h<H→W4.cell? ⟨b2',o2'+h,none⟩=some (.int .u8 (hv h)))):=
            ⟨T,hJ4,MQ,fun x hx=>(hk4 x (MQ x hx)).trans (Mz x hx),qbr dH aal,fun _=>⟨b2,o2,rfl,hTb,fun h hh=>by rw[←uy h hh];unfold World.cell?;simp only[hk4 b2 hTb]⟩⟩
           clear hJ4 aal hk4 Mz MQ dH uy hci oa hTb
           gi_wp2
           exact⟨⟨h+1,by omega,by simp,HJ4⟩,by simp[intOf];omega⟩
          ·gi_wp2
           refine bodyPost_ret (results_none rfl _ _ _) rfl ?_;exact⟨⟨_,rfl⟩,.inr hJx4⟩
        ·have hhH:h=H:=by omega
         have HJ5:Hid (∃T,J (base c+(t+1)*H) T wr∧(∀x,S x→T x)∧(∀x,S x→wr.heap[x]? =W.heap[x]?)∧W.heap.size≤wr.heap.size):=
          ⟨T,by rw[show base c+(t+1)*H=base c+t*H+h by rw[qaS,hhH];omega];exact hJ,MQ,Mz,dH⟩
         clear hJ Mz MQ dH oa
         gi_wp2
         exact⟨⟨t+1,by omega,by simp,HJ5⟩,by simp[intOf];omega⟩
     ·have htH:t=tn c:=by omega
      have HJ6:Hid (∃T,J (base (c+1)) T wr∧(∀x,S x→T x)∧(∀x,S x→wr.heap[x]? =W.heap[x]?)∧W.heap.size≤wr.heap.size):=
       ⟨T,by rw[HQ.2.2.2.1 c,←htH];exact hJ,MQ,Mz,dH⟩
      clear hJ Mz MQ dH
      gi_wp2
      all_goals first
       |(exfalso;omega)
       |exact⟨⟨c+1,by omega,by simp,HJ6⟩,by simp[intOf];omega⟩
  ·have wU:c=n:=by omega
   have HJ7:∃T,J (base n) T wr:=⟨T,by rw[←wU];exact hJ⟩
   clear xP hJ Mz MQ dH
   gi_wp2
   all_goals
    go_end0
    exact⟨⟨_,rfl⟩,.inl HJ7⟩
end Go.bt
end
