import Derived.RangeFuncNested
import Derived.RangeFuncBound
import Derived.RangeFuncCalls
import Derived.RangeFuncLeaves
import Derived.Shelf.Abstract
import Derived.Shelf.RegionOpen
import Derived.WalkKit
import Derived.OwnWalkIn
import Derived.TacticsInMore
import Derived.LoopNIn
import Derived.LoopIn
import Derived.Test.YtfaccbkibjkfjaaGreatDoorT29
import Derived.Test.YtfaccbkibjkfjaaGreatDoorT07
import Derived.Test.YtfaccbkibjkfjaaGreatDoorT41
import Derived.Test.YtfaccbkibjkfjaaGreatDoorT10
import Derived.Test.YtfaccbkibjkfjaaGreatDoorT13
import Derived.Test.YtfaccbkibjkfjaaGreatDoorT17
import Derived.Test.YtfaccbkibjkfjaaGreatDoorT14
set_option linter.all false
set_option maxRecDepth 100000
set_option maxHeartbeats 1000000
section
open Go Go.Am Go.Proofs Go.RowKit Go.Shelf
attribute [local go_sem] Oper.semAt_some
namespace Go.b8
variable {mx:Int}
theorem VP {F:Fence} {n:Nat} {P:Program} {o:Oper} {a:Act} {next:Act→World→Prop} {Q:Exit→Act→World→Prop} {r:Result Next} {l:Nat} {f:FuncId} {tmps:Array Value} {assign body:Code} {w:World} {R:Bool→World→Prop} (hn:F.depth.isSome=true→1≤n)
  (hr:r=.ok (.round l f tmps assign body) w) (hR:RoundIn F (n-1) P l f tmps assign body w fun e W'=>∃bb,e=.returned (.bool bb)∧R bb W') (h:∀bb W',R bb W'→next (a.put o.dst (.bool bb)) W'):o.uponIn F n P a next Q r:=by
 subst hr;exact⟨hn,hR.mono (fun e w' ⟨bb,he,h'⟩=>by subst he;exact h bb w' h')⟩
set_option maxHeartbeats 2000000 in
theorem VQ (l Bs b off len cap Kt:Nat) (J:Nat→(Nat→Prop)→World→Prop) (Jx:World→Prop) (S:Nat→Prop) (pt:Nat→ByteArray) (at_ dr:Nat→Int) (hlen:len<2^32) (hSb:S b) (hSB:S Bs)
  (hm:Tryz.prog.follows .mixedOrders=true)
  (hY:∀k T W,k+1<len→J k T W→YieldAt Fence.wide 0 Tryz.prog l #[.int .i64 k,.agg #[.string (pt k),.int .i64 (at_ k),.int .i64 (dr k),.string (pt (k+1)),.int .i64 (at_ (k+1)),.int .i64 (dr (k+1))]] W fun e W'=>
   ∃bb,e=.returned (.bool bb)∧((bb=true∧J (k+1) T W'∧W.heap.size≤W'.heap.size∧∀b,T b→W'.heap[b]? =W.heap[b]?)∨(bb=false∧Jx W')))
  (hd:∀k T W,J k T W→J k T W.drew)
  (W:World) (hBs:W.cell? ⟨Bs,Kt,none⟩=some (.slice (some ⟨b,off,none⟩) len cap))
  (hc:∀j,j<len→W.cell? ⟨b,off+j*3,none⟩=some (.string (pt j))∧W.cell? ⟨b,off+j*3+1,none⟩=some (.int .i64 (at_ j))∧W.cell? ⟨b,off+j*3+2,none⟩=some (.int .i64 (dr j))) (h0:J 0 S W):
  CallsIn Fence.wide 0 Tryz.prog 226 (#[.func (.yield l) #[] #[],.pointer (some ⟨Bs,Kt,none⟩)]) W fun e W'=>(∃v,e=.returned v)∧((∃T,J (len-1) T W')∨Jx W'):=by
 refine callsIn_of_wp Tryz.func226 rfl trivial ?_ rfl;simp only[Tryz.ntmps226,List.size_toArray,List.length_cons,List.length_nil,Nat.reduceAdd,Nat.reduceSub,Array.replicate_succ,Array.replicate_zero,List.push_toArray,List.append_toArray,List.nil_append,List.cons_append]
 gi_wp2
 gi_loopw [7] (fun i wr=>∃k:Nat,(k=0∨k+1≤len)∧i=.int .i64 k∧J k S wr∧(wr.heap[b]? =W.heap[b]?∧wr.heap[Bs]? =W.heap[Bs]?))
  (fun i _=>len-(intOf i).toNat)
 case atStart=>exact⟨0,.inl rfl,rfl,h0,rfl,rfl⟩
 case round=>
  obtain⟨k,hk,rfl,hJs,WE,oA⟩:=hrel
  have hw:RowKit.wrap64 ((len:Int)-1)=(len:Int)-1:=by simp[RowKit.wrap64];omega
  by_cases bO:k+1<len
  ·obtain⟨fn,tmps,assign,body,hy,hR⟩:=hY k S wr.drew bO (hd _ _ _ hJs)
   have XO:∀o,wr.cell? ⟨b,o,none⟩=W.cell? ⟨b,o,none⟩:=fun o=>by unfold World.cell?;simp only[WE]
   have hBs':wr.cell? ⟨Bs,Kt,none⟩=some (.slice (some ⟨b,off,none⟩) len cap):=by rw[←hBs];unfold World.cell?;simp only[oA]
   obtain⟨GD,pH,hc3⟩:=hc k (by omega);obtain⟨hc4,hc5,hc6⟩:=hc (k+1) bO;rw[←XO]at GD pH hc3 hc4 hc5 hc6;have hwk:IntKind.i64.wrap ((k:Int)+1)=(k:Int)+1:=dy (by omega) (by omega)
   have hwk2:RowKit.wrap64 ((k:Int)+1)=(k:Int)+1:=by simp[RowKit.wrap64];omega
   have hk0:(0:Int)≤(k:Int)+1:=by omega
   have AB:(k:Int)+1<(len:Int):=by omega
   gi_wp2
   gi_region_with_o (refine⟨rfl,hR.mono ?_⟩;rintro e W3 ⟨bb,rfl,dD⟩)
   all_goals
    rcases dD with⟨rfl,hJ3,hsz3,hk3⟩|⟨rfl,hJx3⟩
    ·gi_wp2
     go_roundw
     case rel=>exact⟨k+1,.inr (by omega),by simp,hJ3,(hk3 b hSb).trans WE,(hk3 Bs hSB).trans oA⟩
     case measure=>simp[intOf];omega
    ·gi_wp2
     refine bodyPost_ret (results_none rfl _ _ _) rfl ?_;exact⟨⟨_,rfl⟩,.inr hJx3⟩
  ·gi_wp2
   go_end0
   exact⟨⟨_,rfl⟩,.inl ⟨S,by rw[show len-1=k by omega];exact hJs⟩⟩
end Go.b8
end
section
open Go Go.Am Go.Proofs Go.RowKit
namespace Go.b8
variable {mx:Int}
theorem VR:Tryz.prog.follows .mixedOrders=true:=by kernel_rfl
theorem Cw {S:Nat→Prop} {w:World}:∀{rs:List (List PV)} {c:Array Value} {o sz j:Nat},aK sz rs→bM S w rs c o→j<rs.length→b9 S w (rs.getD j []) c (o+j*sz)
 |[],_,_,_,j,_,_,hj=>by simp at hj
 |r::rs,c,o,sz,0,_,h,_=>by simp only[bM]at h;simpa using h.1
 |r::rs,c,o,sz,j+1,ha,h,hj=>by
  simp only[bM]at h;have hr:r.length=sz:=ha r (by simp);have:=Cw (fun x hx=>ha x (by simp[hx])) h.2 (j:=j) (by simpa using hj);rw[hr]at this;rw[show o+(j+1)*sz=o+sz+j*sz by rw[Nat.add_mul];omega];simpa using this
def lI (l:List cT):List (List PV):=(List.range (l.length-1)).map fun k:Nat=>[.int .i64 (k:Int),.agg ((l.getD k ⟨[],0,0⟩).enc++(l.getD (k+1) ⟨[],0,0⟩).enc)]
theorem Ku {rows sp:List (List PV)} {l:List cT} (hr:rows=l.map cT.enc) (hl:l.length<2^32) (h0:rows≠[]):ItC Tryz.prog (GG mx) 226 [.ptr [.sl rows sp]] (lI l):=by
 refine⟨fun args w=>?_,?_⟩
 ·have e:=enters_of Tryz.func226 (by kernel_rfl) rfl;exact e args w
 intro S w vs hS hG Fo lp J Jx hJ ZJ hY hJ0
 have Gd:rows.length=l.length:=by rw[hr];simp
 simp only[aM,aD]at Fo;obtain⟨v,r,rfl,⟨Bs,Kt,cB,rfl,hSB,hcB,⟨sv,CR,Tk⟩,-⟩,rfl⟩:=Fo;obtain⟨a,cap,rfl,fF,hrr⟩:=Tk
 rcases hrr with⟨h,-⟩|⟨b,off,c,sz,rfl,hSb,hc,bS,-,hR,-⟩
 ·exact absurd h h0
 have dH:sz=3:=by
  cases l with
  |nil=>simp at hr;exact absurd hr h0
  |cons x l'=>rw[hr]at bS;have:=bS _ (List.mem_cons_self ..);simpa[cT.enc]using this.symm
 subst dH
 have hcell:∀j,j<l.length→w.cell? ⟨b,off+j*3,none⟩=some (.string ⟨(l.getD j ⟨[],0,0⟩).port.toArray⟩)∧w.cell? ⟨b,off+j*3+1,none⟩=some (.int .i64 (l.getD j ⟨[],0,0⟩).at_)∧w.cell? ⟨b,off+j*3+2,none⟩=some (.int .i64 (l.getD j ⟨[],0,0⟩).dr):=by
  intro j hj;have h1:=Cw bS hR (j:=j) (by omega)
  have h2:rows.getD j []=[.str (l.getD j ⟨[],0,0⟩).port,.int .i64 (l.getD j ⟨[],0,0⟩).at_,.int .i64 (l.getD j ⟨[],0,0⟩).dr]:=by
   rw[hr];simp[List.getD_eq_getElem?_getD,hj,cT.enc]
  rw[h2]at h1;simp only[b9,aD]at h1;obtain⟨⟨v1,h1,rfl⟩,⟨v2,h2,rfl⟩,⟨v3,h3,rfl⟩,-⟩:=h1;exact⟨by rw[cell_of hc];exact h1,by rw[cell_of hc];exact h2,by rw[cell_of hc];exact h3⟩
 have Ih:∀k T W,J k T W→J k T W.drew:=fun k T W h=>by
  have:=hJ k T W W.drew h ⟨rfl,rfl,rfl,Nat.le_refl _,fun _ _=>rfl⟩
  have e:(fun b=>T b∨(W.heap.size≤b∧b<W.drew.heap.size))=T:=by
   funext b
   have:W.drew.heap.size=W.heap.size:=rfl;rw[this];exact propext ⟨fun h=>h.elim id (fun h=>absurd h.2 (by omega)),.inl⟩
  rw[e]at this;exact this
 have hN:(lI l).length=l.length-1:=by simp[lI]
 refine CallsIn.mono (VQ lp Bs b off rows.length cap Kt J Jx S (fun j=>⟨(l.getD j ⟨[],0,0⟩).port.toArray⟩) (fun j=>(l.getD j ⟨[],0,0⟩).at_) (fun j=>(l.getD j ⟨[],0,0⟩).dr) (by omega) hSb hSB VR ?_ ?_ w ?_ ?_ hJ0) ?_
 ·intro k T W hk hj
  have eR:k<(lI l).length:=by omega
  have hy:=hY k eR T W [.int .i64 k,.agg #[.string ⟨(l.getD k ⟨[],0,0⟩).port.toArray⟩,.int .i64 (l.getD k ⟨[],0,0⟩).at_,.int .i64 (l.getD k ⟨[],0,0⟩).dr,.string ⟨(l.getD (k+1) ⟨[],0,0⟩).port.toArray⟩,.int .i64 (l.getD (k+1) ⟨[],0,0⟩).at_,.int .i64 (l.getD (k+1) ⟨[],0,0⟩).dr]] hj (by
   simp only[lI,List.getElem_map,List.getElem_range,aM,aD];refine⟨_,_,rfl,rfl,_,_,rfl,⟨_,rfl,?_⟩,rfl⟩
   simp[cT.enc,aM,aD])
  obtain⟨fn,tmps,asg,bd,h1,h2⟩:=hy;refine⟨fn,tmps,asg,bd,h1,h2.mono ?_⟩;rintro e W' (⟨rfl,h3,h4,h5⟩|⟨rfl,h3⟩)
  ·exact⟨true,rfl,.inl ⟨rfl,h3,h4,h5⟩⟩
  ·exact⟨false,rfl,.inr ⟨rfl,h3⟩⟩
 ·exact Ih
 ·rw[cell_of hcB];simpa using CR
 ·intro j hj;exact hcell j (by omega)
 ·rintro e W' ⟨h1,⟨T,h2⟩|h2⟩
  ·exact⟨h1,.inl ⟨T,by rw[hN,←Gd];exact h2⟩⟩
  ·exact⟨h1,.inr h2⟩
end Go.b8
end
section
open Go Go.Am Go.Proofs
attribute [local irreducible] Am.bp.holds bH fw bP ek
namespace Go.b8
variable {mx:Int}
open Classical
def kl (l:List cT) (i:Nat):cT:=l.getD i ⟨[],0,0⟩
theorem Cx {l:List cT} {i:Nat} (h:i<l.length):kl l i=l[i]:=by simp[kl,List.getD_eq_getElem?_getD,h]
def wH (l:List cT) (i:Nat):Prop:=¬tc (kl l i).port (kl l i).at_ (kl l i).dr∨(0<i∧((kl l i).at_≤(kl l (i-1)).at_∨(kl l i).port=(kl l (i-1)).port))
def fh (l:List cT) (k e:Int):Prop:=(l.length<2∧k= -1∧e=2)∨(20<l.length∧k= -1∧e=5)∨(2≤l.length∧l.length≤20∧eW (wH l) l.length k∧e=if 0≤k then 200 else 0)
theorem fh.ex (l:List cT):∃k e,fh l k e:=by
 by_cases h1:l.length<2
 ·exact⟨_,_,.inl ⟨h1,rfl,rfl⟩⟩
 ·by_cases h2:20<l.length
  ·exact⟨_,_,.inr (.inl ⟨h2,rfl,rfl⟩)⟩
  ·obtain⟨k,hk⟩:=eW.ex (wH l) l.length;exact⟨k,_,.inr (.inr ⟨by omega,by omega,hk,rfl⟩)⟩
theorem fh.short {l:List cT} {k e:Int} (h:fh l k e) (h1:l.length<2):k= -1∧e=2:=by
 rcases h with h|h|h
 ·exact h.2
 ·omega
 ·omega
theorem fh.long {l:List cT} {k e:Int} (h:fh l k e) (h1:20<l.length):k= -1∧e=5:=by
 rcases h with h|h|h
 ·omega
 ·exact h.2
 ·omega
theorem fh.bad {l:List cT} {k e:Int} (h:fh l k e) (h1:2≤l.length) (h2:l.length≤20) {v:Nat} (hv:v<l.length) (hb:wH l v) (hn:∀j,j<v→¬wH l j):k=Int.ofNat v∧e=200:=by
 rcases h with h|h|h
 ·omega
 ·omega
 ·have:=h.2.2.1.at hv hb hn;refine⟨this,?_⟩;rw[h.2.2.2,this,if_pos (by simp)]
theorem fh.q0 {l:List cT} {k e:Int} (h:fh l k e) (h1:2≤l.length) (h2:l.length≤20) (hn:∀j,j<l.length→¬wH l j):k= -1∧e=0:=by
 rcases h with h|h|h
 ·omega
 ·omega
 ·have:=h.2.2.1.none hn;refine⟨this,?_⟩;rw[h.2.2.2,this,if_neg (by omega)]
theorem Cy {rows sp:List (List PV)} {l:List cT} {k e:Int} (hr:rows=l.map cT.enc) (hl:l.length<2^32) (dD:fh l k e):pC mx 67 [.sl rows sp] (.eN [.int .i64 k,.int .i64 e]):=by
 have hlen:rows.length=l.length:=by simp[hr]
 refine pZ UY ?_
 iterate 119 intro _
 intro cP cY _ aw bu ah aI aQ aJ aP aB aU aV bC bA ag aC;refine gK ?_;refine bp.af (fun h1=>?_) (fun h1=>?_)
 ·replace h1:=eE h1
  refine aY ?_;refine aX ?_;obtain⟨rfl,rfl⟩:=dD.short (by omega);rfl
 ·replace h1:=eE h1
  refine aY ?_;refine bp.af (fun h2=>?_) (fun h2=>?_)
  ·replace h2:=eE h2
   refine aY ?_;refine aX ?_;obtain⟨rfl,rfl⟩:=dD.long (by omega);rfl
  ·replace h2:=eE h2
   refine aY ?_;refine bQ [0,4] [] (fun v σ_=>σ_.put (some 4) (.pv (.int .i64 (Int.ofNat v)))) (l.length) (fun k=>¬wH l k) ?_;intro v hv hk;refine ej ?_;refine bp.af (fun hd=>?_) (fun hd=>?_)
   ·have aT:v<l.length:=by rw[←aC,←ag]at hd;simp at hd;omega
    obtain⟨gI,bj⟩:∃x,l[v]=x:=⟨_,rfl⟩
    have bG:aJ (Int.ofNat v) rows 3:=by rw[←aP,hr];exact aO (enc:=cT.enc) aT rfl
    obtain⟨⟨jd,Ao,Ap⟩,bW⟩:∃y,gI=y:=⟨_,rfl⟩;subst bW
    have aW:aI rows (Int.ofNat v)=[.str jd,.int .i64 Ao,.int .i64 Ap]:=by rw[←aQ,hr,aN (enc:=cT.enc) aT,bj];rfl
    have rj:kl l v=⟨jd,Ao,Ap⟩:=by rw[Cx aT,bj]
    have bad:wH l v→k=Int.ofNat v∧e=200:=fun h=>dD.bad (by omega) (by omega) aT h hk
    refine aY ?_;refine ae bG ?_;rw[aW];refine gK ?_;refine gG (by cbv) (DT rfl) (fun h=>?_) (fun h=>?_)<;>simp only[decide_eq_true_eq,decide_eq_false_iff_not]at h
    ·refine gK ?_;refine bp.af (fun hz=>?_) (fun hz=>?_)
     ·have pN:0<v:=by rw[←aC]at hz;simpa using hz
      obtain⟨w,hw⟩:∃w,w=v-1:=⟨_,rfl⟩
      have xG:w<l.length:=by omega
      obtain⟨Ac,fv⟩:∃x,l[w]=x:=⟨_,rfl⟩
      have gw:aJ (Int.ofNat w) rows 3:=by rw[←aP,hr];exact aO (enc:=cT.enc) xG rfl
      obtain⟨⟨Kv,abz,abA⟩,jF⟩:∃y,Ac=y:=⟨_,rfl⟩;subst jF
      have dV:aI rows (Int.ofNat w)=[.str Kv,.int .i64 abz,.int .i64 abA]:=by rw[←aQ,hr,aN (enc:=cT.enc) xG,fv];rfl
      have hkw:kl l (v-1)=⟨Kv,abz,abA⟩:=by rw[←hw,Cx xG,fv]
      have fu:bu .i64 (cP (Int.ofNat v) 1)=Int.ofNat w:=by rw[←ah,←cY];simp only[di,iQ];rw[dy]<;>simp<;>omega
      refine aY ?_;refine ae bG ?_;rw[aW];refine gK ?_;rw[fu];refine ae gw ?_;rw[dV];refine gK ?_;refine bp.af (fun ht=>?_) (fun ht=>?_)
      ·rw[←bC]at ht;simp at ht;refine aY ?_;refine dS ?_;obtain⟨rfl,rfl⟩:=bad (.inr ⟨pN,.inl (by rw[rj,hkw];exact ht)⟩);rfl
      ·rw[←bC]at ht;simp at ht;refine aY ?_;refine ae bG ?_;rw[aW];refine gK ?_;rw[fu];refine ae gw ?_;rw[dV];refine gK ?_;refine bp.af (fun hq=>?_) (fun hq=>?_)
       ·rw[←aU]at hq;simp at hq;refine aY ?_;refine dS ?_;obtain⟨rfl,rfl⟩:=bad (.inr ⟨pN,.inr (by rw[rj,hkw];exact hq)⟩);rfl
       ·rw[←aU]at hq;simp at hq;refine aY ?_;refine ak ⟨aT,?_,?_⟩
        ·rintro(h'|⟨-,h'|h'⟩)
         ·rw[rj]at h';exact h' h
         ·rw[rj,hkw]at h';dsimp only at h';omega
         ·rw[rj,hkw]at h';exact hq h'
        rw[wS ah aw (v:=v) (by omega)]
        cbv
     ·have pN:v=0:=by rw[←aC]at hz;simp at hz;omega
      refine aY ?_;refine ak ⟨aT,?_,?_⟩
      ·rintro(h'|⟨h',-⟩)
       ·rw[rj]at h';exact h' h
       ·omega
      rw[wS ah aw (v:=v) (by omega)]
      cbv
    ·refine gK ?_;refine dS ?_;obtain⟨rfl,rfl⟩:=bad (.inl (by rw[rj];exact h));rfl
   ·have aT:v=l.length:=by rw[←aC,←ag]at hd;simp at hd;omega
    refine aY ?_;refine ar rfl ?_;refine gK ?_;refine aX ?_;obtain⟨rfl,rfl⟩:=dD.q0 (by omega) (by omega) (fun j hj=>hk j (by omega));rfl
end Go.b8
end
section
open Go Go.Am Go.Proofs
attribute [local irreducible] Am.bp.holds bH fw bP ek
namespace Go.b8
variable {mx:Int}
open Classical
theorem Kw {rows sp:List (List PV)}:pC mx 139 [.sl rows sp] (.gM 226 [.ptr [.sl rows sp]]):=by
 refine pZ N5 ?_
 iterate 129 intro _
 intro aB aU aV bC bA ag aC;refine gK ?_;refine aX ?_;rfl
theorem Kx {rows sp:List (List PV)} {l:List cT} {k e:Int} (hr:rows=l.map cT.enc) (hl:l.length<2^32) (dD:fh l k e):pC mx 62 [.sl rows sp] (.eN [.int .i64 k,.int .i64 e]):=by
 have hlen:rows.length=l.length:=by simp[hr]
 refine DI (rs:=[.int .i64 k,.int .i64 e]) (BS mixed N4 (leT rfl) (az (F:=fun A=>fw (CC Tryz.prog (GG mx)) A (bh Tryz.prog (GG mx)) aap (Am.start 49 [.sl rows sp]) (fun e' s=>match e' with|.normal=>wg Tryz.prog (GG mx) A 1 23 [24,25] RU RV RW (nb [.cell 2 none,.cell 3 none] [] ([.int .i64 k,.int .i64 e].map .pv)) s|e'=>nb [.cell 2 none,.cell 3 none] [] ([.int .i64 k,.int .i64 e].map .pv) e' s)) ?_))
 iterate 32 intro _
 intro Bw
 iterate 45 intro _
 intro Ga vU Gb
 iterate 40 intro _
 intro df aw bu ah aI aQ aJ aP aB aU aV bC bA ag aC;refine ej ?_;refine bp.af (fun h1=>?_) (fun h1=>?_)
 ·replace h1:=eE h1
  refine aY ?_;obtain⟨rfl,rfl⟩:=dD.short (by omega);refine j0 (fg (t:=[]) [] (by cbv) rfl (by cbv) rfl rfl rfl)
 ·replace h1:=eE h1
  refine aY ?_;refine bp.af (fun h2=>?_) (fun h2=>?_)
  ·replace h2:=eE h2
   refine aY ?_;obtain⟨rfl,rfl⟩:=dD.long (by omega);refine j0 (fg (t:=[]) [] (by cbv) rfl (by cbv) rfl rfl rfl)
  ·replace h2:=eE h2
   refine aY ?_
   have h0l:0<l.length:=by omega
   obtain⟨x,hx⟩:∃x,l[0]=x:=⟨_,rfl⟩;obtain⟨jd,Ao,Ap⟩:=x
   have bG:aJ 0 rows 3:=by rw[←aP,hr];exact aO (enc:=cT.enc) (v:=0) h0l rfl
   have aW:aI rows 0=[.str jd,.int .i64 Ao,.int .i64 Ap]:=by rw[←aQ,hr];exact(aN (enc:=cT.enc) (v:=0) h0l).trans (by rw[hx];rfl)
   have hk0:kl l 0=⟨jd,Ao,Ap⟩:=by rw[Cx h0l,hx]
   refine ae bG ?_;rw[aW];refine gK ?_;refine cU (by cbv) (F9 rfl) (fun h=>?_) (fun h=>?_)<;>simp only[decide_eq_true_eq,decide_eq_false_iff_not]at h
   ·refine gK ?_;refine ao (by cbv) Kw (fun h=>by first|rfl|cases h) ?_;refine gK ?_
    have hb0:¬wH l 0:=by
     rintro(h'|⟨h',-⟩)
     ·rw[hk0]at h';exact h' h
     ·omega
    have hN:(lI l).length=l.length-1:=by simp[lI]
    have hx:∀x∈lI l,x.length=2:=by
     intro x hx;obtain⟨j,-,rfl⟩:=List.mem_map.1 hx;rfl
    refine j0 (G5 _ (Fg.ca [2,3,23] ([none,none,some 2,some 3]++List.replicate 45 none) rfl (by cbv)) 226 [.ptr [.sl rows sp]] (lI l) (fun _=>[none,none,some (.cells [.pv (.int .i64 0)]),some (.cells [.pv (.int .i64 0)])]++List.replicate 45 none) (fun j=>¬wH l (j+1)) rfl (Ku hr hl (by intro h';rw[h']at hlen;simp at hlen;omega)) hx rfl ?_ ?_)
    ·intro v hv eL
     have rB:v+1<l.length:=by omega
     have abB:v<l.length:=by omega
     have hk:∀j,j<v+1→¬wH l j:=fun j hj=>by
      rcases j with _|j
      ·exact hb0
      ·exact eL j (by omega)
     obtain⟨⟨pa,aa,da⟩,hxa⟩:∃x,l[v]=x:=⟨_,rfl⟩;obtain⟨⟨pb,ab,db⟩,Yl⟩:∃x,l[v+1]=x:=⟨_,rfl⟩
     have hka:kl l v=⟨pa,aa,da⟩:=by rw[Cx abB,hxa]
     have Qv:kl l (v+1)=⟨pb,ab,db⟩:=by rw[Cx rB,Yl]
     have bad:wH l (v+1)→k=Int.ofNat (v+1)∧e=200:=fun h=>dD.bad (by omega) (by omega) rB h hk
     have hxk:(lI l)[v]=[.int .i64 (Int.ofNat v),.agg [.str pa,.int .i64 aa,.int .i64 da,.str pb,.int .i64 ab,.int .i64 db]]:=by
      simp[lI,List.getD_eq_getElem?_getD,rB,abB,hxa,Yl,cT.enc]
     have ho0:vU 0 3=0:=by rw[←Gb];rfl
     have ho1:vU 1 3=3:=by rw[←Gb];rfl
     have hi0:Bw 0 2:=by rw[←Ga];simp[aF]
     have hi1:Bw 1 2:=by rw[←Ga];simp[aF]
     rw[hxk];refine ej ?_;refine j0 ⟨rfl,?_⟩;refine ej ?_;refine ae hi0 ?_;rw[ho0];refine gK ?_;refine ae hi1 ?_;rw[ho1];refine gK ?_;refine cU (by cbv) (F9 rfl) (fun h2=>?_) (fun h2=>?_)<;>simp only[decide_eq_true_eq,decide_eq_false_iff_not]at h2
     ·refine gK ?_;refine bp.af (fun ht=>?_) (fun ht=>?_)
      ·rw[←bC]at ht;simp at ht;refine aY ?_;obtain⟨rfl,rfl⟩:=bad (.inr ⟨by omega,.inl (by rw[Qv,Nat.add_sub_cancel,hka];exact ht)⟩)
       have hs:bu .i64 (df (Int.ofNat v) 1)=Int.ofNat (v+1):=by rw[←ah,←aw];exact kY (by omega)
       rw[hs];refine j0 ⟨_,Fg.refl _,rfl,fg (t:=[]) [] (by cbv) rfl (by cbv) rfl rfl rfl⟩
      ·rw[←bC]at ht;simp at ht;refine aY ?_;refine bp.af (fun hq=>?_) (fun hq=>?_)
       ·rw[←aU]at hq;simp at hq;refine aY ?_;obtain⟨rfl,rfl⟩:=bad (.inr ⟨by omega,.inr (by rw[Qv,Nat.add_sub_cancel,hka];exact hq)⟩)
        have hs:bu .i64 (df (Int.ofNat v) 1)=Int.ofNat (v+1):=by rw[←ah,←aw];exact kY (by omega)
        rw[hs];refine j0 ⟨_,Fg.refl _,rfl,fg (t:=[]) [] (by cbv) rfl (by cbv) rfl rfl rfl⟩
       ·rw[←aU]at hq;simp at hq;refine aY ?_;refine j0 ⟨_,Fg.ca [] ([none,none,some 2,some 3]++List.replicate 45 none) rfl (by cbv),rfl,?_,rfl⟩;rintro(h'|⟨-,h'|h'⟩)
        ·rw[Qv]at h';exact h' h2
        ·rw[Qv,Nat.add_sub_cancel,hka]at h';dsimp only at h';omega
        ·rw[Qv,Nat.add_sub_cancel,hka]at h';exact hq h'
     ·refine gK ?_;obtain⟨rfl,rfl⟩:=bad (.inl (by rw[Qv];exact h2))
      have hs:bu .i64 (df (Int.ofNat v) 1)=Int.ofNat (v+1):=by rw[←ah,←aw];exact kY (by omega)
      rw[hs];refine j0 ⟨_,Fg.refl _,rfl,fg (t:=[]) [] (by cbv) rfl (by cbv) rfl rfl rfl⟩
    ·intro eL;refine ej ?_
     obtain⟨rfl,rfl⟩:=dD.q0 (by omega) (by omega) (fun j hj=>by
      rcases j with _|j
      ·exact hb0
      ·exact eL j (by omega))
     refine j0 (fg (t:=[]) [] (by cbv) rfl (by cbv) rfl rfl rfl)
   ·refine gK ?_;obtain⟨rfl,rfl⟩:=dD.bad (by omega) (by omega) h0l (.inl (by rw[hk0];exact h)) (fun j hj=>by omega);refine j0 (fg (t:=[]) [] (by cbv) rfl (by cbv) rfl rfl rfl)
end Go.b8
end
