import Derived.Lib.Builder
import Derived.Lib.UnsafeStr
import Derived.Test.YtfaccbkibjkfjaaGreatDoorT04
set_option linter.all false
set_option maxRecDepth 100000
set_option maxHeartbeats 1000000
section
namespace Go.Am
section
variable {P:Program} {w0:World} {own0:Nat→Prop} {hvs:List Value×List Deferred} {G:Nat→Option (List PV)} {S0:Nat→Prop} {accs:List Nat}
 {γ:Nat→Option Nat} {S:Nat→Prop} {st:St} {a:Act} {w:World} {o:Oper} {kn:Nat}
 (h:dW w0 own0 hvs G γ S st a w)
include h
theorem dW.LW {w':World} (hγ:∀i b,γ i=some b→w'.heap[b]? =w.heap[b]?) (hS:∀b,S b→At w' b=At w b∧YB w' b=YB w b) (hk:∀b,b<w0.heap.size→¬own0 b→w'.heap[b]? =w.heap[b]?)
  (dH:w'.heap.size=w.heap.size) (Gx:w'.os=w.os) (Gy:w'.tape=w.tape) (om:w'.output=w.output):
  dW w0 own0 hvs G γ S st a w'∧bf S w S w'∧(∀x v,Ref γ S w st.mem x v→Ref γ S w' st.mem x v):=by
 have hl:bf S w S w':=fun b hb=>⟨hb,hS b hb⟩
 have hρ:=Ref.later (γ:=γ) (γ':=γ) (mem:=st.mem) (mem':=st.mem) hl fun id ob' hm=>⟨hm,rfl,fun b h'=>dC (hγ id b h')⟩
 refine⟨?_,hl,hρ⟩
 exact{
     size:=h.size,slot:=fun i=>lF.later hl hρ _ (h.slot i),held:=au.later hl hρ _ h.held,defers:=h.defers
     mem:=fun id ob' hm=>eK.later hl hρ rfl (hγ id) (h.mem id ob' hm)
     lU:=h.lU,inj:=h.inj,own:=h.own
     bound:=fun b hb=>by rw[dH];exact h.bound b hb
     eJ:=fun i b hb=>by rw[dH];exact h.eJ i b hb
     jn:=fun g row hg=>by
      obtain⟨h1,c,h2,h3,h4⟩:=h.jn g row hg;exact⟨h1,c,((hl g h1).2.1).trans h2,dm.later hl row h3,h4⟩
     kept:=fun b hb hn=>(hk b hb hn).trans (h.kept b hb hn)
     os:=Gx.trans h.os,tape:=Gy.trans h.tape,output:=om.trans h.output
     eY:=by rw[dH];exact h.eY}
omit h in
theorem kh {id:Nat} {t:TypeId} {rs:List (List PV)} {bq:Nat} {b:Nat} (hb:γ id=some b) (ho:eK γ S w (Ref γ S w st.mem) id (.cL t rs bq)):
  ∃c,w.heap[b]? =some (.cells c t (0,0))∧rs.length*1≤c.size∧aK 1 rs∧bM S w rs c 0:=by
 rcases ho with⟨h1,_⟩|⟨b',c,h1,h2,h3,h4,h5⟩
 ·rw[hb]at h1;cases h1
 ·rw[hb]at h1;cases h1;exact⟨c,h2,h3,h4,h5⟩
omit h in
theorem oO {γ':Nat→Option Nat} {S':Nat→Prop} {w':World} {id bq:Nat} {t:TypeId} {rs N3:List (List PV)} (hid:aj st.mem id=some (.cL t rs bq)) (x:AV) (v:Value) (hx:bI x=some id)
  (hr:Ref γ S w st.mem x v):Ref γ' S' w' (st.aq id (.cL t N3 (bq+1))).mem x v:=by
 have bO:=bT hid
 cases x with
 |c8 i2 v2=>
  simp only[bI,qaa]at hx;subst hx;simp only[Ref,hid]at hr;simp only[Ref,St.aq,uQ bO,qax];exact⟨⟨by omega,hr.1.2⟩,fun e=>by omega⟩
 |cR i2 v2 j2 o2=>
  simp only[bI,qaa]at hx;subst hx;simp only[Ref,hid]at hr;simp only[Ref,St.aq,uQ bO,qax];exact⟨⟨by omega,hr.1.2⟩,fun e=>by omega⟩
 |ptr i2 o2=>
  simp only[bI,qaa]at hx;subst hx;simp only[Ref,hid]at hr
 |dt i2=>
  simp only[bI,qaa]at hx;subst hx;simp only[Ref,hid]at hr
 |eT i2 o2=>
  simp only[bI,qaa]at hx;subst hx;simp only[Ref,hid]at hr
 |_=>simp[bI]at hx
variable (bg:∀b,S0 b→S b) (Cy:∀b,S b→S0 b∨w0.heap.size≤b∨own0 b)
include bg Cy
theorem TR {s d e:TypeId} {i:TypeInfo} {x:Operand} {x':bR} (ho:o.op=.convert s d x) (hs:P.underlying s=some (.pointer e)) (hd:P.underlying d=some .unsafePointer) (hi:P.info? e=some i) (hz:i.size≠0) (hx:aZ G x=some x'):
  cj P w0 own0 hvs G S0 o a w st kn γ S (KA aF kn (.WB x') st.ev):=by
 simp only[KA];have h1:=h.fR hx;split
 ·rename_i id off bZ;rw[bZ]at h1;simp only[lF,Ref]at h1;intro ob bL;simp only[bL]at h1
  cases ob with
  |cells cs=>
   simp only;split
   ·rename_i hle
    have Xp:off<cs.length:=by have:=qaH hle;omega
    obtain⟨b,hb,he⟩:=h1;obtain⟨b',c,e',fP,hc,dH,_⟩:=h.mem id _ bL;rw[hb]at fP;cases fP;refine aG h bg Cy (u:=.pointer (some ⟨b,off,none⟩)) ?_ ?_
    ·have hr:=Lib.run_to_unsafe (P:=P) w (src:=s) (dst:=d) ⟨b,off,none⟩ hs hd hi hz (e:=e') (cells:=c.size) (by simp[World.shape?,hc]) (by simp only;omega);simp only[execOp,ho,he,Sem.run_bind,hr,Result.andThen_ok,Sem.run_pure]
    ·simp only[lF,Ref,bL];exact⟨b,hb,rfl⟩
   ·trivial
  |_=>trivial
 ·trivial
theorem TS {s d e:TypeId} {i:TypeInfo} {x:Operand} {x':bR} (ho:o.op=.convert s d x) (hs:P.underlying s=some .unsafePointer) (hd:P.underlying d=some (.pointer e)) (hi:P.info? e=some i) (Iv:liesAt P P.depth e (i.size/P.cellsOf e) 0 e 1=true) (hx:aZ G x=some x'):
  cj P w0 own0 hvs G S0 o a w st kn γ S (KA aF kn (.WC e i.size x') st.ev):=by
 simp only[KA];have h1:=h.fR hx;split
 ·rename_i id bZ;rw[bZ]at h1;simp only[lF,Ref]at h1;intro ob bL;simp only[bL]at h1
  cases ob with
  |cells cs=>
   cases cs with
   |nil=>trivial
   |cons hd r=>
    cases hd with
    |iU t'=>
     obtain⟨b,hb,he⟩:=h1
     by_cases Iw:e=t'
     ·subst Iw
      by_cases hn:r.length+1=i.size
      ·simp only[qau,hn];obtain⟨b',c,e',fP,hc,dH,_,xR⟩:=h.mem id _ bL;rw[hb]at fP;cases fP;have hty':e'=e:=xR _ _ rfl
       have ou:w.shape? b=some (e,c.size):=by rw[←hty'];simp[World.shape?,hc]
       refine aG h bg Cy (u:=.pointer (some ⟨b,0,none⟩)) ?_ ?_
       ·have hr:=Lib.run_from_unsafe (P:=P) w (src:=s) (dst:=d) ⟨b,0,none⟩ hs hd hi (cells:=c.size) ou (by simp only;rw[dH,qaq,hn];exact Iv);simp only[execOp,ho,he,Sem.run_bind,hr,Result.andThen_ok,Sem.run_pure]
       ·simp only[lF,Ref,bL];exact⟨b,hb,rfl⟩
      ·simp only[qau,qar.2 hn];trivial
     ·simp only[qar.2 Iw];trivial
    |_=>trivial
  |_=>trivial
 ·trivial
theorem XL {op:BinOp} {t ty e:TypeId} {i:TypeInfo} {x y:Operand} {x' y':bR} (ho:o.op=.binOp op t x y ty) (ht:P.underlying t=some (.pointer e)) (hi:P.info? e=some i) (hx:aZ G x=some x') (hy:aZ G y=some y'):
  cj P w0 own0 hvs G S0 o a w st kn γ S (KA aF kn (.pp op x' y') st.ev):=by
 have h1:=h.fR hx;have h2:=h.fR hy;simp only[KA];split
 ·rename_i id off bZ;rw[bZ]at h1;simp only[lF]at h1;split
  ·rename_i id2 off2 kG;rw[kG]at h2;simp only[lF]at h2;split
   ·rename_i e1;split
    ·rename_i e2
     have e1:id=id2:=by simpa using e1
     have e2:off=off2:=by simpa using e2
     subst e1 e2
     have key:∃b,a.eval x=.pointer (some ⟨b,off,none⟩)∧a.eval y=.pointer (some ⟨b,off,none⟩):=by
      simp only[Ref]at h1 h2
      cases hm:aj st.mem id with
      |none=>simp only[hm]at h1
      |some ob=>
       simp only[hm]at h1 h2
       cases ob with
       |cells cs=>obtain⟨b,hb,he⟩:=h1;obtain⟨b2,oA,Ix⟩:=h2;rw[hb]at oA;cases oA;exact⟨b,he,Ix⟩
       |fz=>obtain⟨b,hb,he⟩:=h1;obtain⟨b2,oA,Ix⟩:=h2;rw[hb]at oA;cases oA;exact⟨b,he,Ix⟩
       |eu=>obtain⟨b,hb,he⟩:=h1;obtain⟨b2,oA,Ix⟩:=h2;rw[hb]at oA;cases oA;exact⟨b,he,Ix⟩
       |_=>exact h1.elim
     obtain⟨b,hxv,XH⟩:=key
     have gp:∀op,(eqGuard op t x y (.pointer (some ⟨b,off,none⟩)) (.pointer (some ⟨b,off,none⟩))).run P w=.ok () w:=by intro op;simp only[eqGuard];cases op<;>rfl
     exact lu h bg Cy ho hxv XH gp (by
      have:∀d:Nat,(Op.equalIn (d+1) t (.pointer (some ⟨b,off,none⟩)) (.pointer (some ⟨b,off,none⟩))).run P w=.ok true w:=fun d=>by
       simp[Op.equalIn,run_underlying ht,sizeOf,typeInfo,hi,run_sameAddr_same]
      exact this 9999) rfl rfl
    ·trivial
   ·trivial
  ·trivial
 ·trivial
theorem WZ {x:Operand} {x':bR} {c:Call} (ho:o.op=.call c) (hc:c.callee=.builtin .unsafeSliceData) (ha:c.args=#[x]) (hx:aZ G x=some x'):
  cj P w0 own0 hvs G S0 o a w st kn γ S (KA aF kn (.SY x') st.ev):=by
 have h1:=h.fR hx;simp only[KA];split
 ·rename_i id bq bZ;rw[bZ]at h1;simp only[lF,Ref]at h1;intro ob bL;simp only[bL]at h1
  cases ob with
  |cL t rs bm=>
   by_cases hv:bq=bm
   ·subst hv;simp only[qau];rintro⟨tC,kD,mn⟩;obtain⟨a0,cap,he,fF,hd⟩:=h1.2 rfl
    rcases hd with hd|⟨b,c1,hb,ha1,xP,hcs⟩
    ·omega
    ·subst ha1;refine aG h bg Cy (u:=.pointer (some ⟨b,0,none⟩)) ?_ ?_
     ·have hr:=Lib.run_unsafeSliceData_row (P:=P) w c.argTypes o.type ⟨b,0,none⟩ rs.length cap (by omega);simp only[execOp,ho,resolve,hc,ha,Sem.run_bind,Sem.run_pure,Result.andThen_ok,invoke,builtin,qb1,qaj,qaF,he,hr]
     ·simp only[lF,Ref,bL];exact⟨⟨qak _,rfl⟩,fun _=>⟨b,hb,by simp,by simpa using tC,by simpa using kD⟩⟩
   ·simp only[qar.2 hv];trivial
  |_=>trivial
 ·trivial
omit h bg Cy in
theorem lv {P:Program} (w:World):∀(l:List Int) (a:Addr) (acc:ByteArray),(∀j x,l[j]? =some x→w.cell? (a.add j)=some (.int .u8 x))→
  (loadBytes a acc l.length).run P w=.ok ⟨acc.data++(l.map fun n=>n.toNat.toUInt8).toArray⟩ w
 |[],a,acc,_=>by simp[loadBytes]
 |x::l,a,acc,h=>by
  have h0:w.cell? a=some (.int .u8 x):=by
   have:=h 0 x rfl;simpa[Addr.add]using this
  have ih:=lv (P:=P) w l (a.add 1) (acc.push x.toNat.toUInt8) (fun j y hy=>by
   have:=h (j+1) y (by simpa using hy)
   have e:(a.add 1).add j=a.add (j+1):=by
    unfold Addr.add
    by_cases hj:j=0
    ·subst hj;simp
    ·simp[hj];omega
   rw[e];exact this)
  simp only[qaq,loadBytes,Sem.run_bind,run_load,h0,Result.andThen];rw[ih]
  congr 1
  apply qdl;simp[ByteArray.push]
omit h bg Cy in
theorem ov {P:Program} (w:World) (pt it ty e:TypeId) (hp:P.underlying pt=some (.pointer e)) (hc:P.cellsOf e=1) (g cells:Nat) (ou:w.shape? g=some (e,cells)) (l:List Int) (h0:l≠[]) (hn:l.length≤cells) (h63:l.length≤9223372036854775807)
  (hcell:∀j x,l[j]? =some x→w.cell? ((⟨g,0,none⟩:Addr).add j)=some (.int .u8 x)):
  (Builtin.unsafeString_ #[pt,it] ty #[.pointer (some ⟨g,0,none⟩),.int .i64 l.length]).run P w=.ok (.string ⟨(l.map fun n=>n.toNat.toUInt8).toArray⟩) (w.freeze ⟨g,0,none⟩ l.length):=by
 have hl:l.length≠0:=by simpa using h0
 have hlb:=lv (P:=P) w l ⟨g,0,none⟩ .empty hcell;have Iv:=Lib.liesAt_bytes (P:=P) hc (cells/P.cellsOf e) l.length (by rw[hc];simpa using hn)
 have h63':¬(9223372036854775807:Int)<(l.length:Int):=by omega
 have hdef:Builtin.unsafeString_ #[pt,it] ty #[.pointer (some ⟨g,0,none⟩),.int .i64 l.length]=
   (do
    let n←asInt (.int .i64 l.length)
    if n<0 then runtimePanic (.error _)
    if n>IntKind.i64.max then unsupported (.unsafePointer _)
    if n=0 then pure (.string .empty)
    else if←variablesAt ⟨g,0,none⟩ (←elemOf pt) n.toNat then do
     let s←loadBytes ⟨g,0,none⟩ .empty n.toNat
     freeze ⟨g,0,none⟩ n.toNat
     pure (.string s)
    else unsupported (.unsafePointer _)):=rfl
 rw[hdef];have H2:IntKind.i64.max=9223372036854775807:=rfl
 have hneg:¬(l.length:Int)<0:=by omega
 simp[asInt,asIntOf,H2,h63',hneg,hl,variablesAt,ou,elemOf,run_underlying hp,Iv,hlb]
theorem dW.LX {id bq:Nat} {t:TypeId} {rs:List (List PV)} (hid:aj st.mem id=some (.cL t rs bq)):
  ∃S',(∀b,S b→S' b)∧(∀b,S' b→S b∨(∃i,γ i=some b))∧dW w0 own0 hvs G (dp γ id none) S' (st.aq id (.eO rs bq)) a w:=by
 have bO:=bT hid;refine⟨fun b=>S b∨γ id=some b,fun b hb=>.inl hb,fun b hb=>hb.imp (fun h=>h) (fun h=>⟨id,h⟩),?_⟩
 have hl:bf S w (fun b=>S b∨γ id=some b) w:=fun b hb=>⟨.inl hb,rfl,rfl⟩
 have hO:=h.mem id _ hid
 have hρ:∀x v,Ref γ S w st.mem x v→Ref (dp γ id none) (fun b=>S b∨γ id=some b) w (st.aq id (.eO rs bq)).mem x v:=by
  intro x v hx
  by_cases hi:bI x=some id
  ·cases x with
   |c8 i2 v2=>
    simp only[bI,qaa]at hi;subst hi;simp only[Ref,hid]at hx;simp only[Ref,St.aq,uQ bO,qax];refine⟨hx.1,fun e=>?_⟩;obtain⟨a1,cap,q1,q2,q3⟩:=hx.2 e;simp only[aD];refine⟨a1,cap,q1,by simpa using q2,?_⟩
    rcases q3 with q3|⟨b,c,r1,r2,r3,r4⟩
    ·left;exact⟨qa2 (by omega),trivial⟩
    ·right
     obtain⟨c1,t1,t2,t3,t4⟩:=kh r1 hO;refine⟨b,0,c1,1,r2,.inr r1,by simp[At,t1],t3,by simp[aK],bM.later hl _ t4,by simp only[bM]⟩
   |cR i2 v2 j2 o2=>
    simp only[bI,qaa]at hi;subst hi;simp only[Ref,hid]at hx;simp only[Ref,St.aq,uQ bO,qax];refine⟨hx.1,fun e=>?_⟩;obtain⟨b,r1,q1,q2,q3⟩:=hx.2 e;obtain⟨c1,t1,t2,t3,t4⟩:=kh r1 hO;have:=bM.rows (j:=j2.toNat) t3 (bM.later hl _ t4) (by omega);rw[qaA]at this;exact⟨b,j2.toNat*1,c1,q1,.inr r1,by simp[At,t1],this,q2,q3⟩
   |ptr i2 o2=>
    simp only[bI,qaa]at hi;subst hi;simp only[Ref,hid]at hx
   |dt i2=>
    simp only[bI,qaa]at hi;subst hi;simp only[Ref,hid]at hx
   |eT i2 o2=>
    simp only[bI,qaa]at hi;subst hi;simp only[Ref,hid]at hx
   |_=>simp[bI]at hi
  ·refine Ref.sO hl x v (fun mD ob hr hg=>?_) hx
   have MB:mD≠id:=fun e=>hi (e▸hr)
   exact⟨by simp only[St.aq,uQ bO,qai MB,hg],by simp only[dp,qai MB],fun _ _=>⟨rfl,rfl⟩⟩
 exact{
     size:=h.size,slot:=fun i=>lF.later hl hρ _ (h.slot i),held:=au.later hl hρ _ h.held,defers:=h.defers
     mem:=fun mD ob hg=>by
      by_cases hi:mD=id
      ·subst hi;simp only[St.aq,uQ bO,qax,qaa]at hg;subst hg;trivial
      ·simp only[St.aq,uQ bO,qai hi]at hg;exact eK.later hl hρ (by simp only[dp,qai hi]) (fun _ _=>rfl) (h.mem mD ob hg)
     lU:=fun i b hg=>by
      simp only[St.aq,uQ bO]
      by_cases hi:i=id
      ·simp[hi]
      ·simp only[dp,qai hi]at hg ⊢;exact h.lU i b hg
     inj:=fun i j b hi hj=>by
      simp only[dp]at hi hj;split at hi
      ·cases hi
      ·split at hj
       ·cases hj
       ·exact h.inj i j b hi hj
     own:=fun i b hi=>by
      simp only[dp]at hi;split at hi
      ·cases hi
      ·rename_i MB;refine⟨fun hs=>?_,(h.own i b hi).2⟩
       rcases hs with hs|hs
       ·exact(h.own i b hi).1 hs
       ·exact MB (h.inj i id b hi hs)
     bound:=fun b hb=>by
      rcases hb with hb|hb
      ·exact h.bound b hb
      ·exact h.eJ id b hb
     eJ:=fun i b hi=>by
      simp only[dp]at hi;split at hi
      ·cases hi
      ·exact h.eJ i b hi
     jn:=fun g row hg=>by
      obtain⟨h1,c,h2,h3,h4⟩:=h.jn g row hg;exact⟨.inl h1,c,h2,dm.later hl row h3,h4⟩
     kept:=h.kept,os:=h.os,tape:=h.tape,output:=h.output,eY:=h.eY}
theorem EU {t u e:TypeId} {z:List PV} {x y:Operand} {x' y':bR} {c:Call} (ho:o.op=.call c) (hc:c.callee=.builtin .append) (ha:c.args=#[x,y]) (pY:c.argTypes=#[t,u])
  (ht:P.underlying t=some (.slice e)) (dH:dK P e=some 1) (vf:nu P e=some 1) (hzt:gT P e=some z) (GI:z.length=1)
  (hu:(∃e',P.underlying u=some (.slice e'))∨P.underlying u=some .string) (hx:aZ G x=some x') (hy:aZ G y=some y'):
  cj P w0 own0 hvs G S0 o a w st kn γ S (KA aF kn (.AJ e x' y') st.ev):=by
 obtain⟨sz,qa⟩:∃k:Nat,k=1:=⟨_,rfl⟩;obtain⟨bytes,XM⟩:∃k:Nat,k=1:=⟨_,rfl⟩;have hu:(∃e',P.underlying u=some (.slice e'))∨(P.underlying u=some .string∧sz=1):=hu.imp id (fun h=>⟨h,qa⟩);rw[←qa]at dH GI;rw[←XM]at vf;have h1:=h.fR hx;have h2:=h.fR hy;obtain⟨i,zv,hi,EO,ER,_⟩:=gV (S:=S) (w:=w) hzt
 have LF:i.bytes=bytes:=by simpa[nu,hi]using vf
 have qR:i.size=sz:=by simpa[dK,hi]using dH
 have hzc:zv.cells.size=sz:=by rw[←GI,←aM.length ER];simp
 have bN:∀v w',(Builtin.append_ #[t,u] o.type #[a.eval x,a.eval y]).run P w=.ok v w'→(execOp a.eval o).run P w=.ok (.value v) w':=by
  intro v w' hv;simp only[execOp,ho,resolve,hc,ha,pY,Sem.run_bind,Sem.run_pure,Result.andThen_ok,invoke,builtin];simp only[qb1,qaj,qaF,hv,Result.andThen_ok]
 have pvp:∀ys,gE aF (st.ev y')=some ys→
   (st.ev x'=.full []→ep P w0 own0 hvs G S0 o a w st kn γ S (.jK (aF.oj [] ys bytes sz∧ys≠[]) (.cL e ys 0) (.c8 kn 0)))∧
   (∀id bq rs,st.ev x'=.c8 id bq→aj st.mem id=some (.cL e rs bq)→ep P w0 own0 hvs G S0 o a w st kn γ S (.ix (aF.oj rs ys bytes sz∧ys≠[]) id (.cL e (aF.oi rs ys) (bq+1)) (.c8 id (bq+1)))):=by
  intro ys xS
  have grow:∀(xs:List (List PV)) (base:Option Addr) (cap:Nat) (olds news:List Value),a.eval x=.slice base xs.length cap→cap<xs.length+ys.length→aF.oj xs ys bytes sz→
    aM S w xs.flatten olds→olds.length=xs.length*sz→(Builtin.firstCells sz xs.length (.slice base xs.length cap)).run P w.drew=.ok olds.toArray w.drew→
    Src P sz u (a.eval y) ys.length news w→aM S w ys.flatten news→
    ∃(c:Array Value) (nc:Nat),(execOp a.eval o).run P w=.ok (.value (.slice (some ⟨w.heap.size,0,none⟩) (xs.length+ys.length) nc)) (w.drew.alloc (.cells c e))∧xs.length+ys.length≤nc∧c.size=nc*sz∧
     aK sz (xs++ys)∧∀{S':Nat→Prop} {w':World},bf S w S' w'→bM S' w' (xs++ys) c 0:=by
   intro xs base cap olds news hxv GJ fF Xt H9 hold iG Hg;obtain⟨q1,q2,q3,q4⟩:=fF;have bS:aK sz (xs++ys):=q4.append (fun r hr=>(q3 r hr).1);have Xu:=nextslicecap_le GJ;have x7:=vj (w:=w) (xs.length+ys.length) cap e
   have Ia:Builtin.nextslicecap (xs.length+ys.length) cap*i.bytes≤281474976710656:=by
    rw[LF];have:=qaL bytes Xu
    have e1:(2*(xs.length+ys.length)+512)*bytes=2*((xs.length+ys.length+256)*bytes):=by
     rw[←Nat.mul_assoc,show 2*(xs.length+ys.length+256)=2*(xs.length+ys.length)+512 by omega]
    omega
   have hr:=run_append_grow_src (P:=P) w t u o.type e i zv ht hi EO base xs.length cap olds (by rw[qR];exact hold) (a.eval y) ys.length news (by rw[qR];exact iG) GJ (by omega) Ia;refine⟨_,_,bN _ _ (by rw[hxv];exact hr),x7,?_,bS,fun hl=>?_⟩
   ·have Ib:=iG.newsLen;simp only[qdr,qb9,qal,H9,Ib,Builtin.zeroCells,Array.size_map,qdv,hzc];rw[←qaS,←qaS];congr 1;omega
   ·refine bM.of_flat (w:=_) h bg Cy (vs:=olds++news) (by rw[qbZ];exact aM.append (aM.later hl _ Xt) (aM.later hl _ Hg)) fun j v hj=>?_
    rw[qaA,qb8 (by simpa using (qat.1 hj).1)];simpa using hj
  refine⟨?_,?_⟩
  ·intro bZ;have h1:=h1;rw[bZ]at h1;simp only[lF]at h1;obtain⟨a0,hxv,hd⟩:=h1;intro hm bO;rintro⟨fF,CN⟩;have eL:=fF.2.2.1;obtain⟨news,iG,Hg⟩:=pJ (P:=P) (tx:=u) (sz:=sz) xS h2 eL hu;have x8:0<ys.length:=qbm.2 CN;obtain⟨cc,nc,g1,g2,g3,g4,g5⟩:=grow [] a0 0 [] news hxv (by simpa using x8) fF (by simp only[qa6,aM]) (by simp) (by cases a0<;>simp[Builtin.firstCells,loadCells,loadCellsFrom]) iG Hg
   rw[qbi]at g4;have key:=dW.new (dW.drew h) hm bO (.cL e ys 0) cc e (fun hρ hl=>.inr ⟨w.heap.size,cc,by simp[dp],heap_alloc_new,by rw[g3,qa];exact qaL _ (by simpa using g2),by rw[qa]at g4;exact g4,by simpa using g5 hl⟩);refine⟨_,_,_,S,.inl g1,bg,Cy,key.1,?_⟩;simp only[lF,Ref,St.aq,uQ bO,qax];exact⟨⟨qak _,rfl⟩,fun _=>⟨_,nc,by simp,by simpa using g2,.inr ⟨w.heap.size,cc,by simp[dp],rfl,ez,by rw[g3,qa]⟩⟩⟩
  ·intro id bq rs bZ bL;have h1:=h1;rw[bZ]at h1;simp only[lF,Ref]at h1;simp only[bL]at h1;rintro⟨fF,CN⟩;have eL:=fF.2.2.1;obtain⟨news,iG,Hg⟩:=pJ (P:=P) (tx:=u) (sz:=sz) xS h2 eL hu;obtain⟨a1,cap,q1,q2,q3⟩:=h1.2 trivial;have hO:=h.mem id _ bL;have x8:0<ys.length:=qbm.2 CN
   by_cases jh:rs.length+ys.length≤cap
   ·rcases q3 with q3|⟨b,cb,r1,r2,r3,r4⟩
    ·omega
    ·obtain⟨c1,t1,t2,t3,t4⟩:=kh r1 hO;simp only[At,t1,qaa]at r3;subst r3;subst r2;obtain⟨w',c',g1,g2,g3,g4,g5,g6,g7,g8,g9⟩:=run_append_room (P:=P) (ty:=o.type) ht hi (by rw[qR];exact iG) jh t1 (by rw[qR,qa];exact r4)
     have key:=dW.lg h bL r1 g5 g6 g7 g8 g9 (ob':=.cL e (aF.oi rs ys) (bq+1)) (fun z v hz hv=>oO bL z v hz hv) (fun hρ hl=>by
      refine .inr ⟨b,c',r1,g2,?_,?_,?_⟩
      ·rw[g3,r4];simp only[aF,qal];exact qaL _ jh
      ·simp only[aF];rw[qa]at eL;exact t3.append (fun r hr=>(eL r hr).1)
      ·simp only[aF];refine bM.append t3 ?_ ?_
       ·obtain⟨vs,j1,j2,j3⟩:=bM.flat t3 (bM.later hl _ t4)
        refine bM.of_flat h bg Cy j1 fun j v hj=>?_
        have xe:=(qat.1 hj).1;rw[qaA,g4,qai (by rw[qR,qa];omega),←qaA j];exact j3 j v hj
       ·refine bM.of_flat h bg Cy (aM.later hl _ Hg) fun j v hj=>?_
        have xe:=(qat.1 hj).1
        rw[qaA,g4,qao (by rw[qR,qa];omega),qR,qa,show rs.length*1+j-rs.length*1=j by omega];exact hj)
     refine⟨_,w',γ,S,.inl (bN _ _ (by rw[q1];exact g1)),bg,Cy,key.1,?_⟩;simp only[lF,Ref,St.aq,uQ (bT bL),qax];exact⟨⟨qak _,rfl⟩,fun _=>⟨_,cap,by simp[aF],by simpa[aF]using jh,.inr ⟨b,c',r1,rfl,by simp[At,g2],by rw[g3,r4]⟩⟩⟩
   ·have hold:∃olds:List Value,aM S w rs.flatten olds∧olds.length=rs.length*sz∧(Builtin.firstCells sz rs.length (.slice a1 rs.length cap)).run P w.drew=.ok olds.toArray w.drew:=by
     rcases q3 with q3|⟨b,cb,r1,r2,r3,r4⟩
     ·have:rs=[]:=qa2 (by omega);subst this;exact⟨[],by simp only[qa6,aM],by simp,by cases a1<;>simp[Builtin.firstCells,loadCells,loadCellsFrom]⟩
     ·obtain⟨c1,t1,t2,t3,t4⟩:=kh r1 hO;subst r2;obtain⟨vs,j1,j2,j3⟩:=bM.flat t3 t4;exact⟨vs,j1,by rw[qa];exact j2,by rw[qa];exact dh (w:=w.drew) (by show At w b=_;simp[At,t1]) j2 j3⟩
    obtain⟨olds,o1,o2,o3⟩:=hold;obtain⟨cc,nc,g1,g2,g3,g4,g5⟩:=grow rs a1 cap olds news q1 (by omega) fF o1 o2 o3 iG Hg;have key:=dW.renew (dW.drew h) bL (ob:=.cL e (aF.oi rs ys) (bq+1)) cc e (fun z v hz hv=>oO bL z v hz hv) (fun hρ hl=>.inr ⟨w.heap.size,cc,by simp[dp],heap_alloc_new,by rw[g3,qa];simp only[aF,qal];exact qaL _ g2,by rw[qa]at g4;simpa only[aF]using g4,by simpa only[aF]using g5 hl⟩)
    refine⟨_,_,_,S,.inl g1,bg,Cy,key,?_⟩;simp only[lF,Ref,St.aq,uQ (bT bL),qax];exact⟨⟨qak _,rfl⟩,fun _=>⟨_,nc,by simp[aF],by simpa[aF]using g2,.inr ⟨w.heap.size,cc,by simp[dp],rfl,ez,by rw[g3,qa]⟩⟩⟩
 simp only[KA]
 cases xS:gE aF (st.ev y')with
 |none=>trivial
 |some ys=>
  have hp:=pvp ys xS;rw[qa,XM]at hp;simp only;split
  ·rename_i bZ;exact hp.1 bZ
  ·rename_i id bq bZ;intro ob bL
   cases ob with
   |cL t' rs bm=>
    by_cases Iw:e=t'
    ·subst Iw
     by_cases hv:bq=bm
     ·subst hv;simp only[qau];exact hp.2 id bq rs bZ bL
     ·simp only[qau,qar.2 hv];trivial
    ·simp only[qar.2 Iw];trivial
   |_=>trivial
  ·trivial
theorem TU {t u e:TypeId} {x n:Operand} {x' n':bR} {c:Call} (ho:o.op=.call c) (hc:c.callee=.builtin .unsafeString) (ha:c.args=#[x,n]) (pY:c.argTypes=#[t,u]) (ht:P.underlying t=some (.pointer e)) (XO:P.cellsOf e=1) (hx:aZ G x=some x') (hn:aZ G n=some n'):
  cj P w0 own0 hvs G S0 o a w st kn γ S (KA aF kn (.SZ e x' n') st.ev):=by
 have h1:=h.fR hx;have h2:=h.fR hn;simp only[KA];split
 ·rename_i k m kG;rw[kG]at h2;simp only[lF,aD]at h2;split
  ·split
   ·rename_i id bq j bZ;rw[bZ]at h1;simp only[lF,Ref]at h1;intro ob bL;simp only[bL]at h1
    cases ob with
    |cL t' rs bm=>
     by_cases Iw:e=t'
     ·subst Iw
      by_cases hv:bq=bm
      ·subst hv;simp only[qau];rintro⟨xd,hm,hj,fF⟩;subst hj;obtain⟨b,hb,he,_,kD⟩:=h1.2 rfl;obtain⟨c1,t1,t2,t3,t4⟩:=kh hb (h.mem id _ bL);have iv:=xX xd
       have hlen:(dR rs).length=rs.length:=by simp[dR]
       have hcell:∀j v,(dR rs)[j]? =some v→w.cell? ((⟨b,0,none⟩:Addr).add j)=some (.int .u8 v):=by
        intro j v hj;rw[iv]at t4;have:=qQ t4 j (.int .u8 v) (by simp[qbO,hj]);rw[gU,cell_of (w:=w) (by simp[At,t1]:At w b=some c1)];exact this
       have yi:m=((dR rs).length:Int):=by rw[hm,hlen];rfl
       have h46:rs.length≤2^46:=fF.2.1;have hr:=ov (P:=P) w t u o.type e ht XO b c1.size (by simp[World.shape?,t1]) (dR rs) (by intro h0;rw[h0]at hlen;simp at hlen;omega) (by omega) (by omega) hcell;obtain⟨S',k1,k2,k3⟩:=dW.LX h bg Cy bL;have Da:=h.own id b hb
       have MB:∀k,k≠b→(w.freeze ⟨b,0,none⟩ (dR rs).length).heap[k]? =w.heap[k]?:=by
        intro k hk;unfold World.freeze;split
        ·rfl
        ·simp only[qbk];rw[qai (fun e=>hk e.symm)]
       have Xv:At (w.freeze ⟨b,0,none⟩ (dR rs).length) b=At w b∧YB (w.freeze ⟨b,0,none⟩ (dR rs).length) b=YB w b:=by
        unfold World.freeze;split
        ·exact⟨rfl,rfl⟩
        ·constructor
         ·simp[At,qbk,t1]
         ·simp[YB,qbk,t1]
       have key:=dW.LW k3 (w':=w.freeze ⟨b,0,none⟩ (dR rs).length) (fun i b' hi=>MB b' (fun e=>by
         simp only[dp]at hi;split at hi
         ·cases hi
         ·rename_i hni;subst e;exact hni (h.inj i id b' hi hb)))
        (fun b' fP=>by
         by_cases e:b'=b
         ·subst e;exact Xv
         ·exact dC (MB b' e))
        (fun b' bO ze=>MB b' (fun e=>by
         subst e
         rcases Da.2 with h3|h3
         ·omega
         ·exact ze h3))
        (by unfold World.freeze;split<;>simp) (by unfold World.freeze;split<;>rfl) (by unfold World.freeze;split<;>rfl) (by unfold World.freeze;split<;>rfl)
       refine⟨.string ⟨((dR rs).map fun n=>n.toNat.toUInt8).toArray⟩,_,_,S',.inl ?_,fun b hb=>k1 b (bg b hb),fun b' fP=>?_,key.1,?_⟩
       ·simp only[execOp,ho,resolve,hc,ha,pY,Sem.run_bind,Sem.run_pure,Result.andThen_ok,invoke,builtin,qb1,qaj,qaF,he,h2,yi,hr,Int.toNat_zero,qdt,qaA]
       ·rcases k2 b' fP with h3|⟨i,h3⟩
        ·exact Cy b' h3
        ·exact .inr (h.own i b' h3).2
       ·simp only[lF,aD,rG]
      ·simp only[qau,qar.2 hv];trivial
     ·simp only[qar.2 Iw];trivial
    |_=>trivial
   ·trivial
  ·trivial
 ·trivial
end
end Go.Am
end
section
namespace Go.Am
section
variable {P:Program} {w0:World} {own0:Nat→Prop} {hvs:List Value×List Deferred} {G:Nat→Option (List PV)} {S0:Nat→Prop} {accs:List Nat}
 {γ:Nat→Option Nat} {S:Nat→Prop} {st:St} {a:Act} {w:World} {o:Oper} {kn:Nat}
theorem n8 {t e:TypeId} (h:u7 P t=some e):P.underlying t=some (.slice e):=by
 unfold u7 at h;split at h
 ·rename_i h1;simp only[qaa]at h;subst h;exact h1
 ·cases h
variable (h:dW w0 own0 hvs G γ S st a w) (bg:∀b,S0 b→S b) (Cy:∀b,S b→S0 b∨w0.heap.size≤b∨own0 b)
include h bg Cy
theorem Iy {op:BinOp} {t ty:TypeId} {x y:Operand} {x' y':bR} (ho:o.op=.binOp op t x y ty) (hx:aZ G x=some x') (hy:aZ G y=some y'):
  cj P w0 own0 hvs G S0 o a w st kn γ S (KA aF kn (.bin op x' y') st.ev):=by
 have h1:=h.fR hx;have h2:=h.fR hy;simp only[KA,xK];split
 ·rename_i k m k' n e1 e2;rw[e1]at h1;rw[e2]at h2;simp only[lF,aD]at h1 h2;exact C6 h bg Cy ho h1 h2
 ·rename_i m n e1 e2;rw[e1]at h1;rw[e2]at h2;simp only[lF,aD]at h1 h2;exact C7 h bg Cy ho h1 h2
 ·trivial
theorem LY {op:BinOp} {t ty:TypeId} {x y:Operand} {x' y':bR} (ho:o.op=.binOp op t x y ty) (ht:P.underlying t=some .bool) (hx:aZ G x=some x') (hy:aZ G y=some y'):
  cj P w0 own0 hvs G S0 o a w st kn γ S (KA aF kn (.CU op x' y') st.ev):=by
 have h1:=h.fR hx;have h2:=h.fR hy;simp only[KA,yV];split
 ·rename_i m n e1 e2;rw[e1]at h1;rw[e2]at h2;simp only[lF,aD]at h1 h2;exact A0 h bg Cy ho ht h1 h2
 ·trivial
theorem LZ {op:BinOp} {t ty:TypeId} {x y:Operand} {x' y':bR} {ms:Array (String×TypeId)} (ho:o.op=.binOp op t x y ty) (ht:P.underlying t=some (.interface ms)) (hc:(isConst x||isConst y)=true) (hx:aZ G x=some x') (hy:aZ G y=some y'):
  cj P w0 own0 hvs G S0 o a w st kn γ S (KA aF kn (.CV op x' y') st.ev):=by
 have h1:=h.fR hx;have h2:=h.fR hy;simp only[KA,EH];split
 ·rename_i p q e1 e2;exact C8 h bg Cy ho ht hc p q (fE _ e1 h1) (fE _ e2 h2)
 ·trivial
theorem TV {s d:TypeId} {x:Operand} {x':bR} (ho:o.op=.convert s d x) (hs:P.underlying s=some .string) (hd:P.underlying d=some .string) (hx:aZ G x=some x'):
  cj P w0 own0 hvs G S0 o a w st kn γ S (KA aF kn (.Wu x') st.ev):=by
 simp only[KA];have h1:=h.fR hx;split
 ·rename_i b bZ;rw[bZ]at h1;simp only[lF,aD]at h1;exact aG h bg Cy (u:=.string ⟨b.toArray⟩) (by simp[execOp,ho,convert,run_underlying,hs,hd,h1]) (by simp only[lF,aD])
 ·trivial
theorem yj {op:wQ} (hc:oJ P G accs o=some op):cj P w0 own0 hvs G S0 o a w st kn γ S (KA aF kn op st.ev):=by
 unfold oJ at hc;split at hc
 ·
  rename_i x ho;split at hc
  ·rename_i hx hacc;obtain⟨e,h1,h2⟩:=qac.1 hc;obtain⟨n,h3,rfl⟩:=qah.1 h2;exact xV h bg Cy (.inl ho) rfl
  ·obtain⟨x',h1,rfl⟩:=qah.1 hc;exact Qs h bg Cy (.inl ho) h1
 ·
  rename_i x ho;split at hc
  ·rename_i hx hacc;obtain⟨e,h1,h2⟩:=qac.1 hc;obtain⟨n,h3,rfl⟩:=qah.1 h2;exact xV h bg Cy (.inr ho) rfl
  ·obtain⟨x',h1,rfl⟩:=qah.1 hc;exact Qs h bg Cy (.inr ho) h1
 ·
  rename_i c x y ho;obtain⟨c',h1,hc⟩:=qac.1 hc;obtain⟨x',h2,hc⟩:=qac.1 hc;obtain⟨y',h3,rfl⟩:=qah.1 hc;exact Lz h bg Cy ho h1 h2 h3
 ·
  rename_i e ho;obtain⟨z,h1,h2⟩:=qah.1 hc;split at h2
  ·subst h2;exact GB h bg Cy ho h1
  ·subst h2;exact H3 h bg Cy ho h1
 ·
  rename_i e x ho;obtain⟨x',h1,hc⟩:=qac.1 hc;obtain⟨n,h2,rfl⟩:=qah.1 hc;exact Ta h bg Cy ho h1
 ·
  rename_i t parts ho;obtain⟨z,h1,hc⟩:=qac.1 hc;split at hc
  ·rename_i fs ht;split at hc
   ·rename_i bS;obtain⟨ps,h2,rfl⟩:=qah.1 hc;exact Tb h bg Cy ho h1 ht bS h2
   ·cases hc
  ·rename_i m e ht;obtain⟨n,h2,hc⟩:=qac.1 hc;obtain⟨ps,h3,rfl⟩:=qah.1 hc;exact Tc h bg Cy ho h1 ht h2 h3
  ·cases hc
 ·
  rename_i t len parts ho;obtain⟨e,h1,hc⟩:=qac.1 hc;obtain⟨n,h2,hc⟩:=qac.1 hc;obtain⟨ps,h3,hc⟩:=qac.1 hc;split at hc
  ·rename_i lY;split at hc
   ·rename_i z hz;split at hc
    ·simp only[qaa]at hc;subst hc;exact H5 h bg Cy ho (n8 h1) h2 h3 lY.1 lY.2.1 lY.2.2 hz
    ·split at hc
     ·simp only[qaa]at hc;subst hc;exact Tq h bg Cy ho (n8 h1) h2 h3 lY.1 lY.2.1 lY.2.2 hz
     ·simp only[qaa]at hc;subst hc;exact Tl h bg Cy ho (n8 h1) h2 h3 lY.1 lY.2.1 lY.2.2 hz
   ·cases hc
  ·cases hc
 ·
  rename_i t x ho;obtain⟨x',h1,hc⟩:=qac.1 hc;obtain⟨g,h2,hc⟩:=qac.1 hc;split at hc
  ·obtain⟨n,h3,rfl⟩:=qah.1 hc;exact Qt h bg Cy ho h2 ⟨n,h3,rfl⟩ h1
  ·simp only[qaa]at hc;subst hc;exact Qt h bg Cy ho h2 rfl h1
 ·
  rename_i t x y ho;obtain⟨x',h1,hc⟩:=qac.1 hc;obtain⟨y',h2,hc⟩:=qac.1 hc;obtain⟨n,h3,rfl⟩:=qah.1 hc;exact Xm h bg Cy ho h3 h1 h2
 ·
  rename_i x ho;obtain⟨x',h1,rfl⟩:=qah.1 hc;exact Tg h bg Cy ho h1
 ·
  rename_i bop t x y ty ho;obtain⟨x',h1,hc⟩:=qac.1 hc;obtain⟨y',h2,hc⟩:=qac.1 hc;split at hc
  ·rename_i ht;simp only[qaa]at hc;subst hc;exact LY h bg Cy ho ht h1 h2
  ·rename_i k ht;simp only[qaa]at hc;subst hc;exact Iy h bg Cy ho h1 h2
  ·rename_i ht;simp only[qaa]at hc;subst hc;exact Iy h bg Cy ho h1 h2
  ·rename_i fs ht;split at hc
   ·cases hc
   ·rename_i hg;obtain⟨sh,h3,rfl⟩:=qah.1 hc;exact TA h bg Cy ho ht hg h3 h1 h2
  ·rename_i ms ht;split at hc
   ·rename_i hk;simp only[qaa]at hc;subst hc;exact LZ h bg Cy ho ht hk h1 h2
   ·cases hc
  ·rename_i e ht;split at hc
   ·simp only[qaa]at hc;subst hc;exact ET h bg Cy (fn:=false) ho ⟨e,ht⟩ h1 h2
   ·split at hc
    ·rename_i i hi;simp only[qaa]at hc;subst hc;exact XL h bg Cy ho ht hi h1 h2
    ·cases hc
  ·rename_i p r v ht;simp only[qaa]at hc;subst hc;exact ET h bg Cy (fn:=true) ho ⟨p,r,v,ht⟩ h1 h2
  ·rename_i e ht;split at hc
   ·simp only[qaa]at hc;subst hc;exact LR h bg Cy ho ht h1
   ·cases hc
  ·cases hc
 ·
  rename_i uop t x ho;obtain⟨x',h1,rfl⟩:=qah.1 hc;exact Xk h bg Cy ho h1
 ·
  rename_i s d x ho;obtain⟨x',h1,hc⟩:=qac.1 hc;split at hc
  ·rename_i k' k hs hd;simp only[qaa]at hc;subst hc;exact S5 h bg Cy ho hs hd h1
  ·rename_i hs hd;simp only[qaa]at hc;subst hc;exact TV h bg Cy ho hs hd h1
  ·rename_i e hs hd;split at hc
   ·rename_i he;simp only[qaa]at hc;subst hc;exact Ts h bg Cy ho hs he hd h1
   ·cases hc
  ·rename_i e hs hd;split at hc
   ·rename_i i hi;split at hc
    ·cases hc
    ·rename_i hz;simp only[qaa]at hc;subst hc;exact TR h bg Cy ho hs hd hi (fun e=>hz e) h1
   ·cases hc
  ·rename_i e hs hd;split at hc
   ·rename_i i hi;split at hc
    ·rename_i hl;simp only[qaa]at hc;subst hc;exact TS h bg Cy ho hs hd hi hl h1
    ·cases hc
   ·cases hc
  ·cases hc
 ·
  rename_i t x ho;split at hc
  ·cases hc
  ·rename_i d hn ht;obtain⟨x',h1,rfl⟩:=qah.1 hc;exact S8 h bg Cy ho ⟨d,ht,fun ms hm=>hn ms (by rw[hm])⟩ h1 (fun y p v hf hr=>fE y hf hr)
  ·cases hc
 ·
  rename_i f first caps ho
  split at hc
  ·rename_i hf;obtain⟨ps,h1,rfl⟩:=qah.1 hc;exact Tj h bg Cy ho hf h1
  ·split at hc
   ·rename_i hf;obtain⟨ps,h1,rfl⟩:=qah.1 hc;exact LD h bg Cy ho hf h1
   ·cases hc
 ·
  rename_i t l c ho;obtain⟨e,h1,hc⟩:=qac.1 hc;obtain⟨n,h2,hc⟩:=qac.1 hc;obtain⟨b,h3,hc⟩:=qac.1 hc;obtain⟨z,h4,hc⟩:=qac.1 hc;split at hc
  ·rename_i hz;obtain⟨l',h5,hc⟩:=qac.1 hc;obtain⟨c',h6,rfl⟩:=qah.1 hc;exact Tt h bg Cy ho (n8 h1) h2 h3 h4 hz.1 hz.2 h5 h6
  ·cases hc
 ·
  rename_i t x lo hi ho;obtain⟨x',h1,hc⟩:=qac.1 hc;obtain⟨De,h2,hc⟩:=qac.1 hc;obtain⟨gQ,h3,hc⟩:=qac.1 hc;split at hc
  ·rename_i ht;simp only[qaa]at hc;subst hc;exact Ti h bg Cy ho ht h1 h2 h3
  ·rename_i e ht;split at hc
   ·obtain⟨n,h4,rfl⟩:=qah.1 hc;exact Ir h bg Cy ho ht h4 h1 h2 h3 (.inl rfl)
   ·obtain⟨n,h4,rfl⟩:=qah.1 hc;exact Ir h bg Cy ho ht h4 h1 h2 h3 (.inr rfl)
   ·obtain⟨n,h4,rfl⟩:=qah.1 hc;exact Tr h bg Cy ho ht h4 h1 h2 h3
  ·rename_i m e ht;split at hc
   ·split at hc
    ·rename_i dH;simp only[qaa]at hc;subst hc
     have e1:lo=none:=by
      cases lo with
      |none=>rfl
      |some q=>simp only[jO]at h2;obtain⟨_,_,h4⟩:=qah.1 h2;cases h4
     have e2:hi=none:=by
      cases hi with
      |none=>rfl
      |some q=>simp only[jO]at h3;obtain⟨_,_,h4⟩:=qah.1 h3;cases h4
     subst e1;subst e2;exact TH h bg Cy ho ht dH h1
    ·cases hc
   ·cases hc
  ·cases hc
 ·
  rename_i t x lo k1 k2 ho;split at hc
  ·rename_i e ht;obtain⟨x',h1,hc⟩:=qac.1 hc;obtain⟨n,h2,rfl⟩:=qah.1 hc;exact Iq h bg Cy ho (.inl rfl) ht ⟨n,h2⟩ h1
  ·rename_i e k ht;obtain⟨x',h1,hc⟩:=qac.1 hc;obtain⟨n,h2,rfl⟩:=qah.1 hc;exact Iq h bg Cy ho (.inr ⟨_,rfl⟩) ht ⟨n,h2⟩ h1
  ·cases hc
 ·
  rename_i s x f ho;obtain⟨x',h1,hc⟩:=qac.1 hc;obtain⟨fd,h2,hc⟩:=qac.1 hc;obtain⟨g,h3,hc⟩:=qac.1 hc;unfold qK at h2;split at h2
  ·rename_i fs hu;split at hc
   ·obtain⟨n,h4,rfl⟩:=qah.1 hc;exact Ik h bg Cy (g:=true) ho hu h2 h3 ⟨n,h4,rfl⟩ h1
   ·simp only[qaa]at hc;subst hc;exact Ik h bg Cy (g:=false) ho hu h2 h3 rfl h1
  ·cases h2
 ·
  rename_i t ho;split at hc
  ·split at hc
   ·split at hc
    ·simp only[qaa]at hc;subst hc;exact TB h bg Cy ho
    ·cases hc
   ·obtain⟨kg,h1,hc⟩:=qac.1 hc;obtain⟨vg,h2,hc⟩:=qac.1 hc;obtain⟨n,h3,hc⟩:=qac.1 hc;split at hc
    ·simp only[qaa]at hc;subst hc;exact Ig (kt:=t) (e:=t) h bg Cy ho
    ·simp only[qaa]at hc;subst hc;exact Ig (kt:=t) (e:=t) h bg Cy ho
    ·cases hc
  ·cases hc
 ·
  rename_i t m k x ho;split at hc
  ·rename_i kt e ht;obtain⟨m',h1,hc⟩:=qac.1 hc;obtain⟨k',h2,hc⟩:=qac.1 hc;obtain⟨x',h3,hc⟩:=qac.1 hc;obtain⟨sh,h4,hc⟩:=qac.1 hc;obtain⟨kg,h5,hc⟩:=qac.1 hc;obtain⟨n,h6,rfl⟩:=qah.1 hc;exact Ii h bg Cy (.inl ho) ht h1 h2 h3 h4 h5
  ·cases hc
 ·
  rename_i t m k x ho;split at hc
  ·rename_i kt e ht;obtain⟨m',h1,hc⟩:=qac.1 hc;obtain⟨k',h2,hc⟩:=qac.1 hc;obtain⟨x',h3,hc⟩:=qac.1 hc;obtain⟨sh,h4,hc⟩:=qac.1 hc;obtain⟨kg,h5,hc⟩:=qac.1 hc;obtain⟨n,h6,rfl⟩:=qah.1 hc;exact Ii h bg Cy (.inr ho) ht h1 h2 h3 h4 h5
  ·cases hc
 ·
  rename_i t m k ho;split at hc
  ·rename_i kt e ht;obtain⟨m',h1,hc⟩:=qac.1 hc;obtain⟨k',h2,hc⟩:=qac.1 hc;obtain⟨sh,h4,hc⟩:=qac.1 hc;obtain⟨kg,h5,hc⟩:=qac.1 hc;obtain⟨z,h6,rfl⟩:=qah.1 hc;exact LO h bg Cy ho ht h1 h2 h4 h5 h6
  ·cases hc
 ·
  rename_i t m k x ho;split at hc
  ·rename_i kt e ht;obtain⟨m',h1,hc⟩:=qac.1 hc;obtain⟨k',h2,hc⟩:=qac.1 hc;obtain⟨x',h3,hc⟩:=qac.1 hc;obtain⟨n,h6,rfl⟩:=qah.1 hc;exact LP (kt:=kt) (e:=e) h bg Cy ho h1 h2 h3
  ·cases hc
 ·
  rename_i t m k ok ho;split at hc
  ·rename_i kt e ht;obtain⟨m',h1,hc⟩:=qac.1 hc;obtain⟨k',h2,hc⟩:=qac.1 hc;obtain⟨sh,h4,hc⟩:=qac.1 hc;obtain⟨kg,h5,hc⟩:=qac.1 hc;obtain⟨z,h6,rfl⟩:=qah.1 hc;exact TD h bg Cy ho ht h1 h2 h4 h5 h6
  ·cases hc
 ·
  rename_i t x ho;split at hc
  ·rename_i ht;obtain⟨x',h1,rfl⟩:=qah.1 hc;exact TJ h bg Cy ho ht h1
  ·rename_i kt e ht;obtain⟨x',h1,rfl⟩:=qah.1 hc;exact TL h bg Cy ho ht h1
  ·cases hc
 ·
  rename_i x b ho;split at hc
  ·obtain⟨x',h1,rfl⟩:=qah.1 hc;exact TK h bg Cy ho h1
  ·obtain⟨x',h1,rfl⟩:=qah.1 hc;exact LS h bg Cy ho h1
 ·
  rename_i x ho;obtain⟨x',h1,rfl⟩:=qah.1 hc;exact LV h bg Cy ho h1
 ·
  rename_i s x f ho;obtain⟨x',h1,hc⟩:=qac.1 hc;obtain⟨fd,h2,hc⟩:=qac.1 hc;obtain⟨n,h3,hc⟩:=qac.1 hc;unfold qK at h2;split at h2
  ·rename_i fs hu;obtain⟨ti,h4,h5⟩:=qah.1 h3;split at hc
   ·cases hc
   ·rename_i hn;simp only[qaa]at hc;subst hc;exact S9 h bg Cy ho hu h2 h4 (by rw[h5];exact fun h=>hn h) h1
  ·cases h2
 ·
  rename_i t x i ho;obtain⟨x',h1,hc⟩:=qac.1 hc;obtain⟨i',h2,hc⟩:=qac.1 hc;split at hc
  ·rename_i e ht;obtain⟨n,h4,rfl⟩:=qah.1 hc;exact Te h bg Cy ho ht h4 h1 h2
  ·rename_i m e ht;obtain⟨n,h4,rfl⟩:=qah.1 hc;exact TG h bg Cy ho ht h4 h1 h2
  ·cases hc
 ·
  rename_i t x i ho;obtain⟨x',h1,hc⟩:=qac.1 hc;obtain⟨i',h2,hc⟩:=qac.1 hc;split at hc
  ·rename_i ht;simp only[qaa]at hc;subst hc;exact S7 h bg Cy ho ht h1 h2
  ·rename_i m e ht;split at hc
   ·rename_i ha hz;simp only[qaa]at hc;subst hc;exact TF h bg Cy ho ht ha hz h1 h2
   ·cases hc
  ·cases hc
 ·
  rename_i x i ho;obtain⟨x',h1,rfl⟩:=qah.1 hc;exact S6 h bg Cy ho h1
 ·
  rename_i c ho;split at hc
  ·rename_i f mU;obtain⟨ps,h1,rfl⟩:=qah.1 hc;exact UO h bg Cy ho mU h1
  ·rename_i x hnf mU;obtain⟨x',h1,hc⟩:=qac.1 hc;obtain⟨ps,h2,rfl⟩:=qah.1 hc;exact LL h bg Cy ho mU h1 h2
  ·rename_i mU;split at hc
   ·rename_i x t ha pY
    have ha:c.args=#[x]:=by simpa using congrArg List.toArray ha
    have pY:c.argTypes=#[t]:=by simpa using congrArg List.toArray pY
    split at hc
    ·rename_i e ht;obtain⟨x',h1,rfl⟩:=qah.1 hc;exact Td h bg Cy ho mU ha pY ht h1
    ·rename_i ht;obtain⟨x',h1,rfl⟩:=qah.1 hc;exact LC h bg Cy ho mU ha pY ht h1
    ·rename_i kt e ht;obtain⟨x',h1,rfl⟩:=qah.1 hc;exact TI h bg Cy ho mU ha pY ht h1
    ·cases hc
   ·cases hc
  ·rename_i mU;split at hc
   ·rename_i x ha
    have ha:c.args=#[x]:=by simpa using congrArg List.toArray ha
    obtain⟨x',h1,rfl⟩:=qah.1 hc;exact WZ h bg Cy ho mU ha h1
   ·cases hc
  ·rename_i mU;split at hc
   ·rename_i x n t u ha pY
    have ha:c.args=#[x,n]:=by simpa using congrArg List.toArray ha
    have pY:c.argTypes=#[t,u]:=by simpa using congrArg List.toArray pY
    split at hc
    ·rename_i e ht;split at hc
     ·rename_i XO;obtain⟨x',h1,hc⟩:=qac.1 hc;obtain⟨n',h2,rfl⟩:=qah.1 hc;exact TU h bg Cy ho mU ha pY ht (by simpa using XO) h1 h2
     ·cases hc
    ·cases hc
   ·cases hc
  ·rename_i mU;split at hc
   ·rename_i x y t u ha pY
    have ha:c.args=#[x,y]:=by simpa using congrArg List.toArray ha
    have pY:c.argTypes=#[t,u]:=by simpa using congrArg List.toArray pY
    split at hc
    ·obtain⟨e,h1,hc⟩:=qac.1 hc;obtain⟨n,h2,hc⟩:=qac.1 hc;obtain⟨b,h3,hc⟩:=qac.1 hc;obtain⟨z,h4,hc⟩:=qac.1 hc;split at hc
     ·rename_i hz
      have hz:n=1∧b=1∧z.length=1:=by simpa using hz
      obtain⟨Zk,WE,GI⟩:=hz;rw[Zk]at h2;rw[WE]at h3;obtain⟨x',h5,hc⟩:=qac.1 hc;obtain⟨y',h6,hc⟩:=qac.1 hc;split at hc
      ·rename_i e' hu;simp only[qaa]at hc;subst hc;exact EU h bg Cy ho mU ha pY (n8 h1) h2 h3 h4 GI (.inl ⟨e',hu⟩) h5 h6
      ·rename_i hu;simp only[qaa]at hc;subst hc;exact EU h bg Cy ho mU ha pY (n8 h1) h2 h3 h4 GI (.inr hu) h5 h6
      ·cases hc
     ·cases hc
    obtain⟨e,h1,hc⟩:=qac.1 hc;obtain⟨n,h2,hc⟩:=qac.1 hc;obtain⟨b,h3,hc⟩:=qac.1 hc;obtain⟨z,h4,hc⟩:=qac.1 hc;split at hc
    ·rename_i hz;obtain⟨x',h5,hc⟩:=qac.1 hc;obtain⟨y',h6,hc⟩:=qac.1 hc;split at hc
     ·rename_i e' hu;simp only[qaa]at hc;subst hc;exact H8 h bg Cy ho mU ha pY (n8 h1) h2 h3 h4 hz (.inl ⟨e',hu⟩) h5 h6
     ·rename_i hu;split at hc
      ·rename_i hn;simp only[qaa]at hc;subst hc;exact H8 h bg Cy ho mU ha pY (n8 h1) h2 h3 h4 hz (.inr ⟨hu,hn⟩) h5 h6
      ·cases hc
     ·cases hc
    ·cases hc
   ·cases hc
  ·rename_i mU;split at hc
   ·rename_i x y ha
    have ha:c.args=#[x,y]:=by simpa using congrArg List.toArray ha
    obtain⟨x',h1,hc⟩:=qac.1 hc;obtain⟨y',h2,rfl⟩:=qah.1 hc;exact H6 h bg Cy (mx:=false) ho mU ha h1 h2
   ·cases hc
  ·rename_i mU;split at hc
   ·rename_i x y ha
    have ha:c.args=#[x,y]:=by simpa using congrArg List.toArray ha
    obtain⟨x',h1,hc⟩:=qac.1 hc;obtain⟨y',h2,rfl⟩:=qah.1 hc;exact H6 h bg Cy (mx:=true) ho mU ha h1 h2
   ·cases hc
  ·cases hc
 ·cases hc
end
end Go.Am
end
section
namespace Go.Am
def isRef:AV→Prop
 |.c8 ..|.ptr ..|.cR ..|.dt ..|.eT ..=>True
 |_=>False
section
variable {S S':Nat→Prop} {w:World} {ρ ρ':AV→Value→Prop} {φ:AV→AV}
 (hl:bf S w S' w) (hφ:∀x v,isRef x→ρ x v→lF S' w ρ' (φ x) v)
include hl hφ
theorem fx:∀(x:AV) {v:Value},lF S w ρ x v→lF S' w ρ' (ju φ x) v:=by
 intro x v h
 cases x with
 |c8 i k=>simp only[lF]at h;exact hφ _ _ trivial h
 |ptr i k=>simp only[lF]at h;exact hφ _ _ trivial h
 |cR i k j o=>simp only[lF]at h;exact hφ _ _ trivial h
 |dt i=>simp only[lF]at h;exact hφ _ _ trivial h
 |eT i j=>simp only[lF]at h;exact hφ _ _ trivial h
 |pv p=>simp only[ju,lF]at h ⊢;exact aD.later hl _ h
 |full r=>
  have:=lF.later (ρ:=ρ) (ρ':=fun _ _=>True) hl (fun _ _ _=>trivial) (.full r) h;simpa only[ju,lF]using this
 |fQ r o=>
  have:=lF.later (ρ:=ρ) (ρ':=fun _ _=>True) hl (fun _ _ _=>trivial) (.fQ r o) h;simpa only[ju,lF]using this
 |iU t=>simpa only[ju,lF]using h
 |_=>simp only[ju,lF]
theorem lx:∀{xs:List AV} {vs:List Value},au S w ρ xs vs→au S' w ρ' (xs.map (ju φ)) vs
 |[],_,h=>by simpa only[qaF,au]using h
 |x::xs,_,h=>by
  simp only[au]at h;obtain⟨v,r,rfl,h1,h2⟩:=h;simp only[qaj,au];exact⟨v,r,rfl,fx hl hφ x h1,lx h2⟩
theorem vy:∀{xs:List AV} {c:Array Value} {o:Nat},bB S w ρ xs c o→bB S' w ρ' (xs.map (ju φ)) c o
 |[],_,_,h=>by simp only[qaF,bB]
 |x::xs,_,_,h=>by
  simp only[bB]at h;obtain⟨⟨v,hv,h1⟩,h2⟩:=h;simp only[qaj,bB];exact⟨⟨v,hv,fx hl hφ x h1⟩,vy h2⟩
theorem vz:∀{rs:List (List AV)} {c:Array Value} {o:Nat},bU S w ρ rs c o→bU S' w ρ' (rs.map (·.map (ju φ))) c o
 |[],_,_,h=>by simp only[qaF,bU]
 |x::xs,_,_,h=>by
  simp only[bU]at h;simp only[qaj,bU,qap];exact⟨vy hl hφ h.1,vz h.2⟩
theorem rJ:∀(x:AV) {v:Value},lF S w ρ x v→lF S' w ρ' (kZ φ x) v:=by
 intro x v h
 cases x with
 |agg cs=>simp only[kZ,lF]at h ⊢;obtain⟨vs,rfl,h⟩:=h;exact⟨vs,rfl,lx hl hφ h⟩
 |eN cs=>simp only[kZ,lF]at h ⊢;obtain⟨vs,rfl,h⟩:=h;exact⟨vs,rfl,lx hl hφ h⟩
 |gM f cs=>simp only[kZ,lF]at h ⊢;obtain⟨vs,rfl,h⟩:=h;exact⟨vs,rfl,lx hl hφ h⟩
 |Ay f cs=>simp only[kZ,lF]at h ⊢;obtain⟨vs,rfl,h⟩:=h;exact⟨vs,rfl,lx hl hφ h⟩
 |kM rows=>
  simp only[kZ,lF,qap]at h ⊢;obtain⟨a,rfl,h⟩:=h;refine⟨a,rfl,?_⟩
  rcases h with h|⟨b,off,c,sz,h1,h2,h3,h4,h5⟩
  ·left;rw[h];rfl
  ·right
   refine⟨b,off,c,sz,h1,(hl b h2).1,(hl b h2).2.1.trans h3,fun r hr=>?_,vz hl hφ h5⟩;obtain⟨r0,TW,rfl⟩:=qaw.1 hr;rw[qap];exact h4 r0 TW
 |c8 i k=>exact fx hl hφ (.c8 i k) h
 |ptr i k=>exact fx hl hφ (.ptr i k) h
 |cR i k j o=>exact fx hl hφ (.cR i k j o) h
 |dt i=>exact fx hl hφ (.dt i) h
 |eT i j=>exact fx hl hφ (.eT i j) h
 |pv p=>exact fx hl hφ (.pv p) h
 |full r=>exact fx hl hφ (.full r) h
 |fQ r o=>exact fx hl hφ (.fQ r o) h
 |dead=>exact fx hl hφ .dead h
 |iU t=>exact fx hl hφ (.iU t) h
theorem yk:∀{xs:List AV} {vs:List Value},au S w ρ xs vs→au S' w ρ' (xs.map (kZ φ)) vs
 |[],_,h=>by simpa only[qaF,au]using h
 |x::xs,_,h=>by
  simp only[au]at h;obtain⟨v,r,rfl,h1,h2⟩:=h;simp only[qaj,au];exact⟨v,r,rfl,rJ hl hφ x h1,yk h2⟩
theorem sS:∀{xs:List AV} {c:Array Value} {o:Nat},bB S w ρ xs c o→bB S' w ρ' (xs.map (kZ φ)) c o
 |[],_,_,h=>by simp only[qaF,bB]
 |x::xs,_,_,h=>by
  simp only[bB]at h;obtain⟨⟨v,hv,h1⟩,h2⟩:=h;simp only[qaj,bB];exact⟨⟨v,hv,rJ hl hφ x h1⟩,sS h2⟩
theorem yl:∀{rs:List (List AV)} {c:Array Value} {o:Nat},bU S w ρ rs c o→bU S' w ρ' (rs.map (·.map (kZ φ))) c o
 |[],_,_,h=>by simp only[qaF,bU]
 |x::xs,_,_,h=>by
  simp only[bU]at h;simp only[qaj,bU,qap];exact⟨sS hl hφ h.1,yl h.2⟩
theorem ym:∀{rs:List (List UInt8×AV)} {es:List MapEntry},fM S w ρ rs es→fM S' w ρ' (rs.map fun(s,v)=>(s,kZ φ v)) es
 |[],_,h=>by simpa only[qaF,fM]using h
 |(s,x)::rs,_,h=>by
  simp only[fM]at h;obtain⟨e,t,rfl,h1,h2,h3⟩:=h;simp only[qaj,fM];exact⟨e,t,rfl,h1,rJ hl hφ x h2,ym h3⟩
omit hl hφ in
theorem GM {t:TypeId} (hT:∀x t,isRef x→φ x≠.iU t) {x:AV} (h:kZ φ x=.iU t):x=.iU t:=by
 cases x with
 |iU t'=>simpa only[kZ,ju]using h
 |c8 i k=>exact absurd h (hT _ _ trivial)
 |ptr i k=>exact absurd h (hT _ _ trivial)
 |cR i k j o=>exact absurd h (hT _ _ trivial)
 |dt i=>exact absurd h (hT _ _ trivial)
 |eT i j=>exact absurd h (hT _ _ trivial)
 |_=>simp[kZ,ju]at h
theorem eK.cast (hT:∀x t,isRef x→φ x≠.iU t) {γ γ':Nat→Option Nat} {id j:Nat} {ob:Obj} (hγ:γ' j=γ id) (h:eK γ S w ρ id ob):eK γ' S' w ρ' j (mK φ ob):=by
 cases ob with
 |cells cs=>
  obtain⟨b,c,e,h1,h2,h3,h4⟩:=h;refine⟨b,c,e,hγ.trans h1,h2,by rw[h3,qap],sS hl hφ h4.1,fun t r he=>?_⟩
  cases cs with
  |nil=>simp at he
  |cons x q=>
   simp only[qaj]at he
   injection he with e1 e2
   exact h4.2 t q (by rw[GM hT e1])
 |cL t rs bq=>
  rcases h with⟨h1,h2⟩|⟨b,c,h1,h2,h3,h4,h5⟩
  ·exact .inl ⟨hγ.trans h1,h2⟩
  ·exact .inr ⟨b,c,hγ.trans h1,h2,h3,h4,bM.later hl rs h5⟩
 |rows sz rs bq=>
  rcases h with⟨h1,h2⟩|⟨b,c,e,h1,h2,h3,h4,h5⟩
  ·exact .inl ⟨hγ.trans h1,h2⟩
  ·exact .inr ⟨b,c,e,hγ.trans h1,h2,h3,h4,bM.later hl rs h5⟩
 |cg sz rs bq=>
  rcases h with⟨h1,h2⟩|⟨b,c,e,h1,h2,h3,h4,h5⟩
  ·exact .inl ⟨hγ.trans h1,by rw[h2];rfl⟩
  ·refine .inr ⟨b,c,e,hγ.trans h1,h2,by rw[qap];exact h3,fun r hr=>?_,yl hl hφ h5⟩;obtain⟨r0,TW,rfl⟩:=qaw.1 hr;rw[qap];exact h4 r0 TW
 |eO rs bq=>trivial
 |map kg vg kn rows=>
  obtain⟨b,es,ck,h1,h2,h3,h4⟩:=h;exact⟨b,es,ck,hγ.trans h1,h2,h3,bV.later hl rows h4⟩
 |iw rows=>
  obtain⟨b,es,ck,h1,h2,h3,h4⟩:=h;exact⟨b,es,ck,hγ.trans h1,h2,h3,ym hl hφ h4⟩
 |fz s pos=>
  obtain⟨b,h1,h2,h3⟩:=h;exact⟨b,hγ.trans h1,h2,h3⟩
 |eu src seen=>
  simp only[mK,eK]at h ⊢;split at h
  ·obtain⟨b,h1,h2⟩:=h;exact⟨b,hγ.trans h1,h2⟩
  ·obtain⟨b,mb,es,ck,sb,h1,h2,h3,h4,h5,h6,h7⟩:=h;exact⟨b,mb,es,ck,sb,hγ.trans h1,h2,(hl mb h3).1,(hl mb h3).2.2.trans h4,h5,bV.later hl _ h6,h7⟩
  ·exact h
end
section
variable {P:Program} {w0:World} {own0:Nat→Prop} {hvs:List Value×List Deferred} {G:Nat→Option (List PV)} {S0:Nat→Prop}
 {γ γ':Nat→Option Nat} {S S':Nat→Prop} {st:St} {a:Act} {w:World}
theorem Iz (l:List AV) (φ:AV→AV) (i:Nat):(l.map (kZ φ)).getD i .dead=kZ φ (l.getD i .dead):=by
 simp only[qab,qbO]
 cases l[i]?<;>rfl
theorem dW.cast (h:dW w0 own0 hvs G γ S st a w) {φ:AV→AV} {mem':List (Option Obj)} (hS:∀b,S b→S' b) (ke:∀b,S' b→S b∨∃i,γ i=some b)
  (hφ:∀x v,isRef x→Ref γ S w st.mem x v→lF S' w (Ref γ' S' w mem') (φ x) v)
  (mV:∀id ob,aj mem' id=some ob→eK γ' S' w (Ref γ' S' w mem') id ob)
  (hdom:∀i b,γ' i=some b→aj mem' i≠none) (hinj:∀i j b,γ' i=some b→γ' j=some b→i=j) (Da:∀i b,γ' i=some b→¬S' b∧∃j,γ j=some b):
  dW w0 own0 hvs G γ' S' (st.C1 φ mem') a w:=by
 have hl:bf S w S' w:=fun b hb=>⟨hS b hb,rfl,rfl⟩
 exact{
     size:=by simp only[St.C1,qap];exact h.size
     slot:=fun i=>by
      have:=rJ hl hφ _ (h.slot i);simp only[St.slot,St.C1]at this ⊢;rw[Iz];exact this
     held:=yk hl hφ h.held
     defers:=h.defers,mem:=mV,lU:=hdom,inj:=hinj
     own:=fun i b hi=>by
      obtain⟨h1,j,hj⟩:=Da i b hi;exact⟨h1,(h.own j b hj).2⟩
     bound:=fun b hb=>by
      rcases ke b hb with hb|⟨i,hb⟩
      ·exact h.bound b hb
      ·exact h.eJ i b hb
     eJ:=fun i b hi=>by
      obtain⟨_,j,hj⟩:=Da i b hi;exact h.eJ j b hj
     jn:=fun g row hg=>by
      obtain⟨h1,c,h2,h3,h4⟩:=h.jn g row hg;exact⟨hS g h1,c,h2,dm.later hl row h3,h4⟩
     kept:=h.kept,os:=h.os,tape:=h.tape,output:=h.output,eY:=h.eY}
theorem gb {φ:AV→AV}:∀(mem:List (Option Obj)) (i:Nat),aj (mapM φ mem) i=(aj mem i).map (mK φ)
 |[],i=>by simp[mapM,aj]
 |none::r,0=>by simp[mapM,aj]
 |some o::r,0=>by simp[mapM,aj]
 |none::r,i+1=>by have:=gb (φ:=φ) r i;simpa[mapM,aj]using this
 |some o::r,i+1=>by have:=gb (φ:=φ) r i;simpa[mapM,aj]using this
theorem lZ:∀(mem:List (Option Obj)) (src:List (Option Nat)) (j:Nat),aj (oE mem src) j=match src[j]? with|some (some i)=>aj mem i|_=>none
 |mem,[],j=>by simp[oE,aj]
 |mem,none::r,0=>by simp[oE,aj]
 |mem,some i::r,0=>by simp[oE,aj]
 |mem,none::r,j+1=>by have:=lZ mem r j;simpa[oE,aj]using this
 |mem,some i::r,j+1=>by have:=lZ mem r j;simpa[oE,aj]using this
theorem qW:∀{src:List (Option Nat)} {old k j:Nat},nV old k src=some j→k≤j∧src[j-k]? =some (some old)
 |[],_,_,_,h=>by simp[nV]at h
 |none::r,old,k,j,h=>by
  simp only[nV]at h;obtain⟨h1,h2⟩:=qW h;refine⟨by omega,?_⟩;rw[show j-k=(j-(k+1))+1 by omega];simpa using h2
 |some i::r,old,k,j,h=>by
  simp only[nV]at h;split at h
  ·rename_i hi;simp only[qaa]at h;subst h
   have hi:i=old:=by simpa using hi
   subst hi;exact⟨qak _,by simp⟩
  ·obtain⟨h1,h2⟩:=qW h;refine⟨by omega,?_⟩;rw[show j-k=(j-(k+1))+1 by omega];simpa using h2
theorem nC:∀{src:List (Option Nat)} {i:Nat},xL i src=true→∀j:Nat,src[j]?≠some (some i)
 |[],i,_,j=>by simp
 |none::r,i,h,j=>by
  cases j with
  |zero=>simp
  |succ j=>simpa using nC (src:=r) (by simpa only[xL]using h) j
 |some k::r,i,h,j=>by
  simp only[xL]at h;split at h
  ·cases h
  ·rename_i hk
   cases j with
   |zero=>intro e;simp only[qay,qaa]at e;subst e;simp at hk
   |succ j=>simpa using nC h j
theorem oP:∀{src:List (Option Nat)},jN src=true→∀(i j k:Nat),src[i]? =some (some k)→src[j]? =some (some k)→i=j
 |[],_,i,j,k,h,_=>by simp at h
 |none::r,hn,i,j,k,h,h'=>by
  cases i with
  |zero=>simp at h
  |succ i=>
   cases j with
   |zero=>simp at h'
   |succ j=>have:=oP (src:=r) (by simpa only[jN]using hn) i j k (by simpa using h) (by simpa using h');omega
 |some q::r,hn,i,j,k,h,h'=>by
  simp only[jN]at hn;split at hn
  ·rename_i hq
   cases i with
   |zero=>
    simp only[qay,qaa]at h;subst h
    cases j with
    |zero=>rfl
    |succ j=>exact absurd (by simpa using h') (nC hq j)
   |succ i=>
    cases j with
    |zero=>
     simp only[qay,qaa]at h';subst h';exact absurd (by simpa using h) (nC hq i)
    |succ j=>have:=oP hn i j k (by simpa using h) (by simpa using h');omega
  ·cases hn
theorem gA {γ γ':Nat→Option Nat} {S S':Nat→Prop} {mem mem':List (Option Obj)} {φ:AV→AV} {i j:Nat} (hl:bf S w S' w) (hγ:γ' j=γ i) (hm:∀ob,aj mem i=some ob→aj mem' j=some (mK φ ob)):
  (∀k v,Ref γ S w mem (.c8 i k) v→Ref γ' S' w mem' (.c8 j k) v)∧(∀k v,Ref γ S w mem (.ptr i k) v→Ref γ' S' w mem' (.ptr j k) v)∧
  (∀k q o v,Ref γ S w mem (.cR i k q o) v→Ref γ' S' w mem' (.cR j k q o) v)∧(∀v,Ref γ S w mem (.dt i) v→Ref γ' S' w mem' (.dt j) v)∧(∀k v,Ref γ S w mem (.eT i k) v→Ref γ' S' w mem' (.eT j k) v):=by
 cases hg:aj mem i with
 |none=>refine⟨?_,?_,?_,?_,?_⟩<;>intros<;>simp_all [Ref]
 |some ob=>
  have hj:=hm ob hg;refine⟨fun k v h=>?_,fun k v h=>?_,fun k q o v h=>?_,fun v h=>?_,fun k v h=>?_⟩
  ·simp only[Ref,hg]at h;simp only[Ref,hj]
   cases ob with
   |rows sz rs bm=>
    refine⟨h.1,fun e=>?_⟩;obtain⟨a,cap,hv,hc,h4⟩:=h.2 e;exact⟨a,cap,hv,hc,h4.imp (fun h=>h) (fun⟨b,c,hb,h5⟩=>⟨b,c,hγ.trans hb,h5⟩)⟩
   |cL t rs bm=>
    refine⟨h.1,fun e=>?_⟩;obtain⟨a,cap,hv,hc,h4⟩:=h.2 e;exact⟨a,cap,hv,hc,h4.imp (fun h=>h) (fun⟨b,c,hb,h5⟩=>⟨b,c,hγ.trans hb,h5⟩)⟩
   |cg sz rs bm=>
    simp only[mK,qap];refine⟨h.1,fun e=>?_⟩;obtain⟨a,cap,hv,hc,h4⟩:=h.2 e;exact⟨a,cap,hv,hc,h4.imp (fun h=>h) (fun⟨b,c,hb,h5⟩=>⟨b,c,hγ.trans hb,h5⟩)⟩
   |eO rs bm=>exact⟨h.1,fun e=>aD.later hl _ (h.2 e)⟩
   |_=>exact h
  ·simp only[Ref,hg]at h;simp only[Ref,hj]
   cases ob with
   |cells cs=>obtain⟨b,hb,hv⟩:=h;exact⟨b,hγ.trans hb,hv⟩
   |fz=>obtain⟨b,hb,hv⟩:=h;exact⟨b,hγ.trans hb,hv⟩
   |eu=>obtain⟨b,hb,hv⟩:=h;exact⟨b,hγ.trans hb,hv⟩
   |_=>exact h
  ·simp only[Ref,hg]at h;simp only[Ref,hj]
   cases ob with
   |rows sz rs bm=>
    refine⟨h.1,fun e=>?_⟩;obtain⟨b,hb,hv,hj⟩:=h.2 e;exact⟨b,hγ.trans hb,hv,hj⟩
   |cL t rs bm=>
    refine⟨h.1,fun e=>?_⟩;obtain⟨b,hb,hv,hj⟩:=h.2 e;exact⟨b,hγ.trans hb,hv,hj⟩
   |cg sz rs bm=>
    simp only[mK,qap];refine⟨h.1,fun e=>?_⟩;obtain⟨b,hb,hv,hj⟩:=h.2 e;exact⟨b,hγ.trans hb,hv,hj⟩
   |eO rs bm=>
    refine⟨h.1,fun e=>?_⟩;obtain⟨b,o,c,hv,hs,hc,hr,hj⟩:=h.2 e;exact⟨b,o,c,hv,(hl b hs).1,(hl b hs).2.1.trans hc,dm.later hl _ hr,hj⟩
   |_=>exact h
  ·simp only[Ref,hg]at h;simp only[Ref,hj]
   cases ob with
   |map=>obtain⟨b,hb,hv⟩:=h;exact⟨b,hγ.trans hb,hv⟩
   |iw=>obtain⟨b,hb,hv⟩:=h;exact⟨b,hγ.trans hb,hv⟩
   |_=>exact h
  ·simp only[Ref,hg]at h;simp only[Ref,hj]
   cases ob with
   |map=>obtain⟨h0,b,es,ck,e,hb,h4⟩:=h;exact⟨h0,b,es,ck,e,hγ.trans hb,h4⟩
   |_=>exact h
theorem dW.mj (h:dW w0 own0 hvs G γ S st a w) {src:List (Option Nat)} (hn:jN src=true):
  ∃γ',dW w0 own0 hvs G γ' S (st.mj src) a w:=by
 let γ':Nat→Option Nat:=fun j=>match src[j]? with|some (some i)=>γ i|_=>none
 have hm:∀j i ob,src[j]? =some (some i)→aj st.mem i=some ob→aj (mapM (ug src) (oE st.mem src)) j=some (mK (ug src) ob):=by
  intro j i ob hj bL;rw[gb,lZ,hj];simp only[bL,qaM]
 have hγ:∀j i,src[j]? =some (some i)→γ' j=γ i:=fun j i hj=>by simp only[γ',hj]
 have hl:=bf.refl S w
 have hφ:∀x v,isRef x→Ref γ S w st.mem x v→lF S w (Ref γ' S w (mapM (ug src) (oE st.mem src))) (ug src x) v:=by
  intro x v hx hr
  have key:∀i j,nV i 0 src=some j→src[j]? =some (some i):=fun i j ot=>by have:=(qW ot).2;simpa using this
  cases x with
  |c8 i k=>
   simp only[ug];split
   ·rename_i j hj;simp only[lF];exact(gA hl (hγ j i (key i j hj)) (fun ob bL=>hm j i ob (key i j hj) bL)).1 k v hr
   ·simp only[lF]
  |ptr i k=>
   simp only[ug];split
   ·rename_i j hj;simp only[lF];exact(gA hl (hγ j i (key i j hj)) (fun ob bL=>hm j i ob (key i j hj) bL)).2.1 k v hr
   ·simp only[lF]
  |cR i k q o=>
   simp only[ug];split
   ·rename_i j hj;simp only[lF];exact(gA hl (hγ j i (key i j hj)) (fun ob bL=>hm j i ob (key i j hj) bL)).2.2.1 k q o v hr
   ·simp only[lF]
  |dt i=>
   simp only[ug];split
   ·rename_i j hj;simp only[lF];exact(gA hl (hγ j i (key i j hj)) (fun ob bL=>hm j i ob (key i j hj) bL)).2.2.2.1 v hr
   ·simp only[lF]
  |eT i k=>
   simp only[ug];split
   ·rename_i j hj;simp only[lF];exact(gA hl (hγ j i (key i j hj)) (fun ob bL=>hm j i ob (key i j hj) bL)).2.2.2.2 k v hr
   ·simp only[lF]
  |_=>exact hx.elim
 have hγ0:∀j b,γ' j=some b→∃i,src[j]? =some (some i)∧γ i=some b:=by
  intro j b hj;simp only[γ']at hj;split at hj
  ·rename_i i hi;exact⟨i,hi,hj⟩
  ·cases hj
 refine⟨γ',dW.cast h (fun b hb=>hb) (fun b hb=>.inl hb) hφ ?_ ?_ ?_ ?_⟩
 ·intro j ob bL;rw[gb,lZ]at bL;split at bL
  ·rename_i i hi
   cases hg:aj st.mem i with
   |none=>rw[hg]at bL;cases bL
   |some Tw=>
    rw[hg]at bL;simp only[qaM,qaa]at bL;subst bL;exact eK.cast hl hφ (fun x t hx=>by cases x<;>simp only[ug]<;>(try split)<;>simp) (hγ j i hi) (h.mem i Tw hg)
  ·cases bL
 ·intro j b hj;obtain⟨i,hi,hb⟩:=hγ0 j b hj
  cases hg:aj st.mem i with
  |none=>exact absurd hg (h.lU i b hb)
  |some ob=>rw[hm j i ob hi hg];simp
 ·intro i j b hi hj;obtain⟨i',gQ,hb⟩:=hγ0 i b hi;obtain⟨j',A2,fP⟩:=hγ0 j b hj;have:=h.inj i' j' b hb fP;subst this;exact oP hn i j i' gQ A2
 ·intro j b hj;obtain⟨i,hi,hb⟩:=hγ0 j b hj;exact⟨(h.own i b hb).1,i,hb⟩
theorem tN {mem:List (Option Obj)} {id:Nat} (hid:id<mem.length) (i:Nat):aj (nq mem id) i=if i=id then none else aj mem i:=by
 unfold aj nq
 by_cases h:i=id
 ·subst h;simp[qab,hid]
 ·simp[qab,qbF (qbN h),h]
theorem dW.AP (h:dW w0 own0 hvs G γ S st a w) {id:Nat} {ob:Obj} {f:AV→AV} (hft:∀x t,f x≠.iU t) (hid:aj st.mem id=some ob)
  (hf:∀x v ρ',isRef x→bI x=some id→(match x with|.cR ..|.eT ..=>False|_=>True)→Ref γ S w st.mem x v→lF (fun b=>S b∨γ id=some b) w ρ' (f x) v):
  ∃γ' S',(∀b,S b→S' b)∧(∀b,S' b→S b∨∃i,γ i=some b)∧dW w0 own0 hvs G γ' S' (st.AP id f) a w:=by
 have bO:=mS hid
 have hl:bf S w (fun b=>S b∨γ id=some b) w:=fun b hb=>⟨.inl hb,rfl,rfl⟩
 have hm:∀i ob,i≠id→aj st.mem i=some ob→aj (mapM (mL id f) (nq st.mem id)) i=some (mK (mL id f) ob):=by
  intro i ob hi bL;rw[gb,tN bO,qai hi,bL];rfl
 have hγ:∀i,i≠id→dp γ id none i=γ i:=fun i hi=>by simp only[dp,qai hi]
 have hφ:∀x v,isRef x→Ref γ S w st.mem x v→lF (fun b=>S b∨γ id=some b) w (Ref (dp γ id none) (fun b=>S b∨γ id=some b) w (mapM (mL id f) (nq st.mem id))) (mL id f x) v:=by
  intro x v hx hr
  cases x with
  |c8 i k=>
   simp only[mL]
   cases hi:i==id with
   |true=>
    have gQ:i=id:=by simpa using hi
    exact hf _ _ _ trivial (by simp only[bI,gQ]) trivial hr
   |false=>
    have gQ:i≠id:=by simpa using hi
    simp only[lF];exact(gA hl (hγ i gQ) (fun ob bL=>hm i ob gQ bL)).1 k v hr
  |ptr i k=>
   simp only[mL]
   cases hi:i==id with
   |true=>
    have gQ:i=id:=by simpa using hi
    exact hf _ _ _ trivial (by simp only[bI,gQ]) trivial hr
   |false=>
    have gQ:i≠id:=by simpa using hi
    simp only[lF];exact(gA hl (hγ i gQ) (fun ob bL=>hm i ob gQ bL)).2.1 k v hr
  |cR i k q o=>
   simp only[mL]
   cases hi:i==id with
   |true=>simp only[lF]
   |false=>
    have gQ:i≠id:=by simpa using hi
    simp only[lF];exact(gA hl (hγ i gQ) (fun ob bL=>hm i ob gQ bL)).2.2.1 k q o v hr
  |dt i=>
   simp only[mL]
   cases hi:i==id with
   |true=>
    have gQ:i=id:=by simpa using hi
    exact hf _ _ _ trivial (by simp only[bI,gQ]) trivial hr
   |false=>
    have gQ:i≠id:=by simpa using hi
    simp only[lF];exact(gA hl (hγ i gQ) (fun ob bL=>hm i ob gQ bL)).2.2.2.1 v hr
  |eT i k=>
   simp only[mL]
   cases hi:i==id with
   |true=>simp only[lF]
   |false=>
    have gQ:i≠id:=by simpa using hi
    simp only[lF];exact(gA hl (hγ i gQ) (fun ob bL=>hm i ob gQ bL)).2.2.2.2 k v hr
  |_=>exact hx.elim
 have hγ0:∀i b,dp γ id none i=some b→i≠id∧γ i=some b:=by
  intro i b hi;simp only[dp]at hi;split at hi
  ·cases hi
  ·rename_i MB;exact⟨MB,hi⟩
 refine⟨dp γ id none,fun b=>S b∨γ id=some b,fun b hb=>.inl hb,fun b hb=>hb.imp (fun h=>h) (fun h=>⟨id,h⟩),dW.cast h (fun b hb=>.inl hb) (fun b hb=>hb.imp (fun h=>h) (fun h=>⟨id,h⟩)) hφ ?_ ?_ ?_ ?_⟩
 ·intro j ob' bL;rw[gb,tN bO]at bL
  by_cases hj:j=id
  ·rw[qao hj]at bL;cases bL
  ·rw[qai hj]at bL
   cases hg:aj st.mem j with
   |none=>rw[hg]at bL;cases bL
   |some Tw=>
    rw[hg]at bL;simp only[qaM,qaa]at bL;subst bL;exact eK.cast hl hφ (fun x t hx=>by cases x<;>simp only[mL]<;>(try split)<;>first|exact hft _ _|simp) (hγ j hj) (h.mem j Tw hg)
 ·intro i b hi;obtain⟨MB,hb⟩:=hγ0 i b hi
  cases hg:aj st.mem i with
  |none=>exact absurd hg (h.lU i b hb)
  |some ob=>rw[hm i ob MB hg];simp
 ·intro i j b hi hj;exact h.inj i j b (hγ0 i b hi).2 (hγ0 j b hj).2
 ·intro i b hi;obtain⟨MB,hb⟩:=hγ0 i b hi;refine⟨?_,i,hb⟩;rintro(hs|hs)
  ·exact(h.own i b hb).1 hs
  ·exact MB (h.inj i id b hb hs)
theorem kS:∀(mem:List (Option Obj)) (i:Nat),aj (oG mem) i=(aj mem i).map zeroV
 |[],i=>by simp[oG,aj]
 |none::r,0=>by simp[oG,aj]
 |some o::r,0=>by simp[oG,aj]
 |none::r,i+1=>by simpa[oG,aj]using kS r i
 |some o::r,i+1=>by simpa[oG,aj]using kS r i
theorem eK.zero {γ:Nat→Option Nat} {ρ:AV→Value→Prop} {id:Nat} {ob:Obj} (h:eK γ S w ρ id ob):eK γ S w ρ id (zeroV ob):=by
 cases ob<;>exact h
theorem dW.norm (h:dW w0 own0 hvs G γ S st a w):dW w0 own0 hvs G γ S st.norm a w:=by
 have hl:=bf.refl S w
 have hm:∀i ob,aj st.mem i=some ob→aj (oG (mapM (mM st.mem) st.mem)) i=some (zeroV (mK (mM st.mem) ob)):=by
  intro i ob bL;rw[kS,gb,bL];rfl
 have hφ:∀x v,isRef x→Ref γ S w st.mem x v→lF S w (Ref γ S w (oG (mapM (mM st.mem) st.mem))) (mM st.mem x) v:=by
  intro x v hx hr
  cases x with
  |c8 i k=>
   cases hg:aj st.mem i with
   |none=>simp only[mM,hg,nW];simp only[lF]
   |some ob=>
    have hj:=hm i ob hg;simp only[Ref,hg]at hr
    cases ob with
    |rows sz rs bq=>
     simp only[mM,hg,nW]
     cases hk:k==bq with
     |false=>simp only[lF]
     |true=>
      have eR:k=bq:=by simpa using hk
      simp only[lF,Ref,hj,mK,zeroV];exact⟨⟨qak _,hr.1.2⟩,fun _=>hr.2 eR⟩
    |cL t rs bq=>
     simp only[mM,hg,nW]
     cases hk:k==bq with
     |false=>simp only[lF]
     |true=>
      have eR:k=bq:=by simpa using hk
      simp only[lF,Ref,hj,mK,zeroV];exact⟨⟨qak _,hr.1.2⟩,fun _=>hr.2 eR⟩
    |cg sz rs bq=>
     simp only[mM,hg,nW]
     cases hk:k==bq with
     |false=>simp only[lF]
     |true=>
      have eR:k=bq:=by simpa using hk
      simp only[lF,Ref,hj,mK,zeroV,qap];exact⟨⟨qak _,hr.1.2⟩,fun _=>hr.2 eR⟩
    |eO rs bq=>
     simp only[mM,hg,nW]
     cases hk:k==bq with
     |false=>simp only[lF]
     |true=>
      have eR:k=bq:=by simpa using hk
      simp only[lF,Ref,hj,mK,zeroV];exact⟨⟨qak _,hr.1.2⟩,fun _=>hr.2 eR⟩
    |_=>exact hr.elim
  |cR i k q o=>
   cases hg:aj st.mem i with
   |none=>simp only[mM,hg,nW];simp only[lF]
   |some ob=>
    have hj:=hm i ob hg;simp only[Ref,hg]at hr
    cases ob with
    |rows sz rs bq=>
     simp only[mM,hg,nW]
     cases hk:k==bq with
     |false=>simp only[lF]
     |true=>
      have eR:k=bq:=by simpa using hk
      simp only[lF,Ref,hj,mK,zeroV];exact⟨⟨qak _,hr.1.2⟩,fun _=>hr.2 eR⟩
    |cL t rs bq=>
     simp only[mM,hg,nW]
     cases hk:k==bq with
     |false=>simp only[lF]
     |true=>
      have eR:k=bq:=by simpa using hk
      simp only[lF,Ref,hj,mK,zeroV];exact⟨⟨qak _,hr.1.2⟩,fun _=>hr.2 eR⟩
    |cg sz rs bq=>
     simp only[mM,hg,nW]
     cases hk:k==bq with
     |false=>simp only[lF]
     |true=>
      have eR:k=bq:=by simpa using hk
      simp only[lF,Ref,hj,mK,zeroV,qap];exact⟨⟨qak _,hr.1.2⟩,fun _=>hr.2 eR⟩
    |eO rs bq=>
     simp only[mM,hg,nW]
     cases hk:k==bq with
     |false=>simp only[lF]
     |true=>
      have eR:k=bq:=by simpa using hk
      simp only[lF,Ref,hj,mK,zeroV];exact⟨⟨qak _,hr.1.2⟩,fun _=>hr.2 eR⟩
    |_=>exact hr.elim
  |ptr i k=>
   cases hg:aj st.mem i with
   |none=>simp only[Ref,hg]at hr
   |some ob=>
    have hj:=hm i ob hg;simp only[Ref,hg]at hr;simp only[mM,lF,Ref,hj]
    cases ob<;>first|exact hr|exact hr.elim
  |dt i=>
   cases hg:aj st.mem i with
   |none=>simp only[Ref,hg]at hr
   |some ob=>
    have hj:=hm i ob hg;simp only[Ref,hg]at hr;simp only[mM,lF,Ref,hj]
    cases ob<;>first|exact hr|exact hr.elim
  |eT i k=>
   cases hg:aj st.mem i with
   |none=>simp only[Ref,hg]at hr
   |some ob=>
    have hj:=hm i ob hg;simp only[Ref,hg]at hr;simp only[mM,lF,Ref,hj]
    cases ob<;>first|exact hr|exact hr.elim
  |_=>exact hx.elim
 refine dW.cast h (fun b hb=>hb) (fun b hb=>.inl hb) hφ ?_ ?_ ?_ ?_
 ·intro j ob bL;rw[kS,gb]at bL
  cases hg:aj st.mem j with
  |none=>rw[hg]at bL;cases bL
  |some Tw=>
   rw[hg]at bL;simp only[qaM,qaa]at bL;subst bL;exact eK.zero (eK.cast hl hφ (fun x t hx=>by cases x<;>first|exact hx.elim|(simp only[mM]<;>(try split)<;>(try split)<;>simp)) rfl (h.mem j Tw hg))
 ·intro j b hj
  cases hg:aj st.mem j with
  |none=>exact absurd hg (h.lU j b hj)
  |some ob=>rw[hm j ob hg];simp
 ·exact fun i j b hi hj=>h.inj i j b hi hj
 ·exact fun j b hj=>⟨(h.own j b hj).1,j,hj⟩
end
end Go.Am
end
section
namespace Go.Am
section
variable {P:Program} {w0:World} {own0:Nat→Prop} {hvs:List Value×List Deferred} {G:Nat→Option (List PV)} {S0:Nat→Prop}
 {γ γ':Nat→Option Nat} {S S':Nat→Prop} {st:St} {a:Act} {w:World}
theorem qj {ks:List Nat}:∀(l:List AV) (k i:Nat),(im ks k l).getD i .dead=.dead∨(im ks k l).getD i .dead=l.getD i .dead
 |[],_,i=>.inl (by simp[im])
 |x::r,k,i=>by
  cases i with
  |zero=>
   simp only[im,qc7]
   cases ks.contains k
   ·exact .inl rfl
   ·exact .inr rfl
  |succ i=>
   simp only[im,List.getD_cons_succ];exact qj r (k+1) i
theorem qk {ks:List Nat}:∀(l:List AV) (k:Nat),(im ks k l).length=l.length
 |[],_=>rfl
 |x::r,k=>by simp[im,qk r]
theorem bU.plain {ρ:AV→Value→Prop}:∀{rs:List (List PV)} {c:Array Value} {o:Nat},bU S w ρ (rs.map (·.map .pv)) c o↔bM S w rs c o
 |[],_,_=>by simp only[qaF,bU,bM]
 |r::rs,c,o=>by
  have key:∀(ps:List PV) (o:Nat),bB S w ρ (ps.map .pv) c o↔dm S w ps c o:=by
   intro ps
   induction ps with
   |nil=>intro o;simp only[qaF,bB,dm]
   |cons p ps ih=>intro o;simp only[qaj,bB,dm,lF,ih]
  simp only[qaj,bU,bM,key,qap,bU.plain]
theorem bB.R0 {ρ:AV→Value→Prop} {p q:AV} (hq:∀v,lF S w ρ p v→lF S w ρ q v):∀{ps:List AV} {c:Array Value} {o j:Nat},bB S w ρ ps c o→ps[j]? =some p→bB S w ρ (ps.set j q) c o
 |[],_,_,_,_,h=>by simp at h
 |x::xs,c,o,0,h,hj=>by
  have hx:x=p:=by simpa using hj
  subst hx;simp only[List.set_cons_zero,bB]at h ⊢;obtain⟨⟨v,h1,h2⟩,h3⟩:=h;exact⟨⟨v,h1,hq v h2⟩,h3⟩
 |x::xs,c,o,j+1,h,hj=>by
  simp only[List.set_cons_succ,bB]at h ⊢;exact⟨h.1,bB.R0 hq h.2 (by simpa using hj)⟩
theorem mo {s s':St} (hf:Fg s s'):∀{a:Act} {w:World},ft w0 own0 hvs G S0 s a w→ft w0 own0 hvs G S0 s' a w:=by
 induction hf with
 |refl s=>intro a w h;exact h
 |trans _ _ ih1 ih2=>intro a w h;exact ih2 (ih1 h)
 |sM s ks=>
  intro a w h;obtain⟨γ,S,bg,Cy,h⟩:=h;refine⟨γ,S,bg,Cy,{h with size:=?_,slot:=?_,held:=h.held,defers:=h.defers,mem:=h.mem,lU:=h.lU}⟩
  ·simp only[St.sM,qk];exact h.size
  ·intro i
   rcases qj (ks:=ks) s.slots 0 i with h1|h1
   ·have e:(s.sM ks).slot i=.dead:=h1;rw[e];simp only[lF]
   ·have e:(s.sM ks).slot i=s.slot i:=h1;rw[e];exact h.slot i
 |mj s src hn=>
  intro a w h;obtain⟨γ,S,bg,Cy,h⟩:=h;obtain⟨γ',h'⟩:=dW.mj h hn;exact⟨γ',S,bg,Cy,h'⟩
 |norm s=>
  intro a w h;obtain⟨γ,S,bg,Cy,h⟩:=h;exact⟨γ,S,bg,Cy,dW.norm h⟩
 |@AQ s id sz bq rs hm=>
  intro a w h;obtain⟨γ,S,bg,Cy,h⟩:=h
  obtain⟨γ',S',k1,k2,k3⟩:=dW.AP h (fun x t=>by cases x<;>simp only[iP]<;>(try split)<;>simp) hm (f:=iP rs bq) (fun x v ρ' hx hid MB hr=>by
   cases x with
   |c8 i k=>
    simp only[bI,qaa]at hid;subst hid;simp only[Ref,hm]at hr;simp only[iP]
    cases hk:k==bq with
    |false=>simp only[lF]
    |true=>
     have hk:k=bq:=by simpa using hk
     obtain⟨a1,cap,q1,q2,q3⟩:=hr.2 hk;simp only[lF,aD];refine⟨a1,cap,q1,by simpa using q2,?_⟩
     rcases q3 with q3|⟨b,c,r1,r2,r3,r4⟩
     ·left;exact⟨qa2 (by omega),trivial⟩
     ·right
      obtain⟨c1,e1,t1,t2,t3,t4⟩:=rows_block r1 (h.mem i _ hm);exact⟨b,0,c1,sz,r2,.inr r1,by simp[At,t1],t3,by simp[aK],bM.later (fun b hb=>⟨.inl hb,rfl,rfl⟩) _ t4,by simp only[bM]⟩
   |ptr i k=>simp only[iP,lF]
   |dt i=>simp only[iP,lF]
   |cR=>exact MB.elim
   |eT=>exact MB.elim
   |_=>exact hx.elim)
  exact⟨γ',S',fun b hb=>k1 b (bg b hb),fun b hb=>by
   rcases k2 b hb with hb|⟨i,hb⟩
   ·exact Cy b hb
   ·exact .inr (h.own i b hb).2,k3⟩
 |@S4 s id kn kg vg rows hm=>
  intro a w h;obtain⟨γ,S,bg,Cy,h⟩:=h
  obtain⟨γ',S',k1,k2,k3⟩:=dW.AP h (fun x t=>by cases x<;>simp[oF]) hm (f:=oF kg vg kn rows) (fun x v ρ' hx hid MB hr=>by
   cases x with
   |dt i=>
    simp only[bI,qaa]at hid;subst hid;simp only[Ref,hm]at hr;obtain⟨b,hb,rfl⟩:=hr;obtain⟨b',es,ck,fP,hh,sR,mF⟩:=h.mem i _ hm;rw[hb]at fP;cases fP;simp only[oF,lF,aD];exact⟨b,es,ck,rfl,.inr hb,by simp[YB,hh],sR,bV.later (fun b hb=>⟨.inl hb,rfl,rfl⟩) _ mF⟩
   |c8 i k=>simp only[oF,lF]
   |ptr i k=>simp only[oF,lF]
   |cR=>exact MB.elim
   |eT=>exact MB.elim
   |_=>exact hx.elim)
  exact⟨γ',S',fun b hb=>k1 b (bg b hb),fun b hb=>by
   rcases k2 b hb with hb|⟨i,hb⟩
   ·exact Cy b hb
   ·exact .inr (h.own i b hb).2,k3⟩
 |@HU s id cs ps hm mE=>
  intro a w h;obtain⟨γ,S,bg,Cy,h⟩:=h
  obtain⟨γ',S',k1,k2,k3⟩:=dW.AP h (fun x t=>by cases x<;>simp only[j9]<;>(try split)<;>simp) hm (f:=j9 ps) (fun x v ρ' hx hid MB hr=>by
   cases x with
   |ptr i k=>
    simp only[bI,qaa]at hid;subst hid;simp only[Ref,hm]at hr;obtain⟨b,hb,rfl⟩:=hr;obtain⟨b',c,e,fP,hh,dH,WG⟩:=h.mem i _ hm;rw[hb]at fP;cases fP;obtain⟨us,u1,u2,u3⟩:=bB.list WG.1;have hL:=xQ h bg Cy mE u1;have hC:dm (fun b=>S b∨γ i=some b) w ps c 0:=dm.eD (aM.later (fun b hb=>⟨.inl hb,rfl,rfl⟩) _ hL) u3
    cases k with
    |zero=>
     simp only[j9,lF,aD];exact⟨b,0,c,rfl,.inr hb,by simp[At,hh],hC⟩
    |succ k=>
     simp only[j9,lF];exact⟨b,0,c,by rw[qaA],.inr hb,by simp[At,hh],hC⟩
   |c8 i k=>simp only[j9,lF]
   |dt i=>simp only[j9,lF]
   |cR=>exact MB.elim
   |eT=>exact MB.elim
   |_=>exact hx.elim)
  exact⟨γ',S',fun b hb=>k1 b (bg b hb),fun b hb=>by
   rcases k2 b hb with hb|⟨i,hb⟩
   ·exact Cy b hb
   ·exact .inr (h.own i b hb).2,k3⟩
 |@plain s id sz bq rs N3 hm he=>
  intro a w h;obtain⟨γ,S,bg,Cy,h⟩:=h;subst he;refine⟨γ,S,bg,Cy,dW.setObj h hm (fun x v hx hr=>?_) (fun hρ=>?_)⟩
  ·cases x with
   |c8 i k=>
    simp only[bI,qaa]at hx;subst hx;simp only[Ref,hm,qap]at hr;simp only[Ref,St.aq,uQ (bT hm),qax];exact hr
   |cR i k q o=>
    simp only[bI,qaa]at hx;subst hx;simp only[Ref,hm,qap]at hr;simp only[Ref,St.aq,uQ (bT hm),qax];exact hr
   |ptr i k=>simp only[bI,qaa]at hx;subst hx;simp only[Ref,hm]at hr
   |dt i=>simp only[bI,qaa]at hx;subst hx;simp only[Ref,hm]at hr
   |eT i k=>simp only[bI,qaa]at hx;subst hx;simp only[Ref,hm]at hr
   |_=>simp[bI]at hx
  ·have hO:=h.mem id _ hm
   rcases hO with⟨h1,h2⟩|⟨b,c,e,h1,h2,h3,h4,h5⟩
   ·left;exact⟨h1,by simpa using h2⟩
   ·right
    exact⟨b,c,e,h1,h2,by simpa using h3,fun r hr=>by simpa using h4 _ (qbP (f:=fun l=>l.map AV.pv) hr),bU.plain.1 h5⟩
 |@Xi s id sz bq rs hm=>
  intro a w h;obtain⟨γ,S,bg,Cy,h⟩:=h;refine⟨γ,S,bg,Cy,dW.setObj h hm (fun x v hx hr=>?_) (fun hρ=>?_)⟩
  ·cases x with
   |c8 i k=>
    simp only[bI,qaa]at hx;subst hx;simp only[Ref,hm]at hr;simp only[Ref,St.aq,uQ (bT hm),qax,qap];exact hr
   |cR i k q o=>
    simp only[bI,qaa]at hx;subst hx;simp only[Ref,hm]at hr;simp only[Ref,St.aq,uQ (bT hm),qax,qap];exact hr
   |ptr i k=>simp only[bI,qaa]at hx;subst hx;simp only[Ref,hm]at hr
   |dt i=>simp only[bI,qaa]at hx;subst hx;simp only[Ref,hm]at hr
   |eT i k=>simp only[bI,qaa]at hx;subst hx;simp only[Ref,hm]at hr
   |_=>simp[bI]at hx
  ·have hO:=h.mem id _ hm
   rcases hO with⟨h1,h2⟩|⟨b,c,e,h1,h2,h3,h4,h5⟩
   ·left;exact⟨h1,by rw[h2];rfl⟩
   ·right
    refine⟨b,c,e,h1,h2,by rw[qap];exact h3,fun r hr=>?_,bU.plain.2 h5⟩;obtain⟨r0,TW,rfl⟩:=qaw.1 hr;rw[qap];exact h4 r0 TW
 |@full s d rows hs=>
  intro a w h;obtain⟨γ,S,bg,Cy,h⟩:=h;have hd:=h.slot d;rw[hs]at hd;have:=h.put (some d) (v:=.pv (.sl rows [])) (u:=a.tmps.getD d undef) (by simp only[lF];exact fE (γ:=γ) (st:=s) (.full rows) (by simp only[AV.flat]) hd);refine⟨γ,S,bg,Cy,?_⟩
  have e:a.put (some d) (a.tmps.getD d undef)=a:=by
   cases a with
   |mk tmps defers=>
    simp only[Act.put]
    congr 1
    apply qcB
    intro i
    by_cases hi:i=d
    ·subst hi
     by_cases bO:i<tmps.size
     ·simp[bO]
     ·simp[bO]
    ·simp[qbe (qbN hi)]
  rw[e]at this;exact this
 |@own s d id sz hs hm hle=>
  intro a w h;obtain⟨γ,S,bg,Cy,h⟩:=h;have hd:=h.slot d;rw[hs]at hd;simp only[lF]at hd;obtain⟨a0,hv,_⟩:=hd;have h':=dW.C9 h hm hle sz 0
  have:=h'.put (some d) (v:=.c8 id 0) (u:=a.tmps.getD d undef) (by
   simp only[lF,Ref,St.aq,uQ hle,qax]
   exact⟨⟨qak _,by rw[hv];rfl⟩,fun _=>⟨a0,0,by simpa using hv,by simp,.inl rfl⟩⟩)
  refine⟨γ,S,bg,Cy,?_⟩
  have e:a.put (some d) (a.tmps.getD d undef)=a:=by
   cases a with
   |mk tmps defers=>
    simp only[Act.put]
    congr 1
    apply qcB
    intro i
    by_cases hi:i=d
    ·subst hi
     by_cases bO:i<tmps.size
     ·simp[bO]
     ·simp[bO]
    ·simp[qbe (qbN hi)]
  rw[e]at this;exact this
 |@Zh s id j k sz cs hid hj hm hle=>
  intro a w h;obtain⟨γ,S,bg,Cy,h⟩:=h;have h':=dW.C9 h hm hle sz 0
  have MB:id≠k:=by rintro rfl;rw[hm]at hid;cases hid
  have Mk:aj (s.aq k (.rows sz [] 0)).mem id=some (.cells cs):=by
   simp only[St.aq,uQ hle,qai MB];exact hid
  have eR:aj (s.aq k (.rows sz [] 0)).mem k=some (.rows sz [] 0):=by
   simp only[St.aq,uQ hle,qax]
  have Xp:=bT Mk
  have WS:aj ((s.aq k (.rows sz [] 0)).aq id (.cells (cs.set j (.c8 k 0)))).mem k=some (.rows sz [] 0):=by
   rw[St.aq,uQ Xp,qai (qbN MB)];exact eR
  refine⟨γ,S,bg,Cy,dW.setObj h' Mk (fun x v hx hr=>?_) (fun hρ=>?_)⟩
  ·cases x with
   |ptr i o=>
    simp only[bI,qaa]at hx;subst hx;simp only[Ref,Mk]at hr
    have e:aj ((s.aq k (.rows sz [] 0)).aq i (.cells (cs.set j (.c8 k 0)))).mem i=some (.cells (cs.set j (.c8 k 0))):=by
     rw[St.aq,uQ Xp,qao rfl]
    simp only[Ref,e];exact hr
   |c8 i o=>simp only[bI,qaa]at hx;subst hx;simp only[Ref,Mk]at hr
   |cR i o=>simp only[bI,qaa]at hx;subst hx;simp only[Ref,Mk]at hr
   |dt i=>simp only[bI,qaa]at hx;subst hx;simp only[Ref,Mk]at hr
   |eT i o=>simp only[bI,qaa]at hx;subst hx;simp only[Ref,Mk]at hr
   |_=>simp[bI]at hx
  ·obtain⟨b,c,e,h1,h2,h3,h4,h5⟩:=h'.mem id _ Mk;refine⟨b,c,e,h1,h2,by rw[qb6];exact h3,?_,?_⟩
   ·refine bB.R0 (p:=.full []) (fun v hv=>?_) (bB.later (bf.refl S w) hρ h4) hj;simp only[lF]at hv ⊢;obtain⟨a0,rfl,-⟩:=hv;simp only[Ref,WS];exact⟨⟨qak _,rfl⟩,fun _=>⟨a0,0,by simp,by simp,.inl rfl⟩⟩
   ·intro t r hr
    cases cs with
    |nil=>simp at hj
    |cons x xs=>
     cases j with
     |zero=>simp at hr
     |succ j=>
      simp only[List.set_cons_succ]at hr
      injection hr with Zl Yn
      exact h5 t xs (by rw[Zl])
 |grow s n=>
  intro a w h;obtain⟨γ,S,bg,Cy,h⟩:=h
  have hg:∀i,aj (s.mem++List.replicate n none) i=aj s.mem i:=by
   intro i;unfold aj
   by_cases hi:i<s.mem.length
   ·simp[qab,qaQ hi]
   ·simp[qab,qaV (qby hi),qa0 (qby hi),qbD];split<;>rfl
  have hρ:∀x v,Ref γ S w s.mem x v→Ref γ S w (s.mem++List.replicate n none) x v:=
   Ref.later (bf.refl S w) (fun id ob hm=>⟨by rw[hg];exact hm,rfl,fun _ _=>⟨rfl,rfl⟩⟩)
  refine⟨γ,S,bg,Cy,{h with slot:=fun i=>lF.later (bf.refl S w) hρ _ (h.slot i),held:=au.later (bf.refl S w) hρ _ h.held,defers:=h.defers,mem:=fun id ob hm=>?_,lU:=fun i b hb=>?_}⟩
  ·rw[hg]at hm;exact eK.later (bf.refl S w) hρ rfl (fun _ _=>rfl) (h.mem id ob hm)
  ·rw[hg];exact h.lU i b hb
end
end Go.Am
end
