import Derived.Lib.Builder
import Derived.Lib.UnsafeStr
import Derived.Test.YtfaccbkibjkfjaaGreatDoorT04
set_option linter.all false
set_option maxRecDepth 100000
set_option maxHeartbeats 1000000
section
namespace Go.Am
section
variable {P:Program} {w0:World} {own0:Nat→Prop} {hvs:List Value} {G:Nat→Option (List PV)} {S0:Nat→Prop} {accs:List Nat}
 {γ:Nat→Option Nat} {S:Nat→Prop} {st:St} {a:Act} {w:World} {o:Oper} {kn:Nat}
 (h:dj w0 own0 hvs G γ S st a w)
include h
theorem dj.M4 {w':World} (hγ:∀i b,γ i=some b→w'.heap[b]? =w.heap[b]?) (hS:∀b,S b→ag w' b=ag w b∧fc w' b=fc w b) (hk:∀b,b<w0.heap.size→¬own0 b→w'.heap[b]? =w.heap[b]?)
  (dZ:w'.heap.size=w.heap.size) (Jv:w'.os=w.os) (Jw:w'.tape=w.tape) (jm:w'.output=w.output):
  dj w0 own0 hvs G γ S st a w'∧cA S w S w'∧(∀x v,Ref γ S w st.mem x v→Ref γ S w' st.mem x v):=by
 have hl:cA S w S w':=fun b hb=>⟨hb,hS b hb⟩
 have hρ:=Ref.later (γ:=γ) (γ':=γ) (mem:=st.mem) (mem':=st.mem) hl fun id ob' hm=>⟨hm,rfl,fun b h'=>eI (hγ id b h')⟩
 refine⟨?_,hl,hρ⟩
 exact{
     size:=h.size,slot:=fun i=>aq.later hl hρ _ (h.slot i),held:=aF.later hl hρ _ h.held,defers:=h.defers
     mem:=fun id ob' hm=>fU.later hl hρ rfl (hγ id) (h.mem id ob' hm)
     qQ:=h.qQ,inj:=h.inj,own:=h.own
     bound:=fun b hb=>by rw[dZ];exact h.bound b hb
     dx:=fun i b hb=>by rw[dZ];exact h.dx i b hb
     nR:=fun g row hg=>by
      obtain⟨h1,c,h2,h3,h4⟩:=h.nR g row hg;exact⟨h1,c,((hl g h1).2.1).trans h2,b7.later hl row h3,h4⟩
     kept:=fun b hb hn=>(hk b hb hn).trans (h.kept b hb hn)
     os:=Jv.trans h.os,tape:=Jw.trans h.tape,output:=jm.trans h.output
     eF:=by rw[dZ];exact h.eF}
omit h in
theorem kZ {id:Nat} {t:TypeId} {rs:List (List PV)} {ver:Nat} {b:Nat} (hb:γ id=some b) (ho:fU γ S w (Ref γ S w st.mem) id (.cH t rs ver)):
  ∃c,w.heap[b]? =some (.cells c t (0,0))∧rs.length*1≤c.size∧aS 1 rs∧bI S w rs c 0:=by
 rcases ho with⟨h1,_⟩|⟨b',c,h1,h2,h3,h4,h5⟩
 ·rw[hb]at h1;cases h1
 ·rw[hb]at h1;cases h1;exact⟨c,h2,h3,h4,h5⟩
omit h in
theorem pY {γ':Nat→Option Nat} {S':Nat→Prop} {w':World} {id ver:Nat} {t:TypeId} {rs rs':List (List PV)} (hid:aA st.mem id=some (.cH t rs ver)) (x:AV) (v:Value) (hx:bD x=some id)
  (hr:Ref γ S w st.mem x v):Ref γ' S' w' (st.aC id (.cH t rs' (ver+1))).mem x v:=by
 have bL:=bQ hid
 cases x with
 |dB i2 v2=>
  simp only[bD,Option.some.injEq]at hx;subst hx;simp only[Ref,hid]at hr;simp only[Ref,St.aC,aE bL,if_true];exact⟨⟨by omega,hr.1.2⟩,fun e=>by omega⟩
 |cW i2 v2 j2 o2=>
  simp only[bD,Option.some.injEq]at hx;subst hx;simp only[Ref,hid]at hr;simp only[Ref,St.aC,aE bL,if_true];exact⟨⟨by omega,hr.1.2⟩,fun e=>by omega⟩
 |ptr i2 o2=>
  simp only[bD,Option.some.injEq]at hx;subst hx;simp only[Ref,hid]at hr
 |dt i2=>
  simp only[bD,Option.some.injEq]at hx;subst hx;simp only[Ref,hid]at hr
 |eR i2 o2=>
  simp only[bD,Option.some.injEq]at hx;subst hx;simp only[Ref,hid]at hr
 |_=>simp[bD]at hx
variable (bm:∀b,S0 b→S b) (bd:∀b,S b→S0 b∨w0.heap.size≤b∨own0 b)
include bm bd
theorem UM {s d e:TypeId} {i:TypeInfo} {x:Operand} {x':bN} (ho:o.op=.convert s d x) (hs:P.underlying s=some (.pointer e)) (hd:P.underlying d=some .unsafePointer) (hi:P.info? e=some i) (hz:i.size≠0) (hx:a8 G x=some x'):
  cg P w0 own0 hvs G S0 o a w st kn γ S (b6 aG kn (.Xr x') st.ev):=by
 simp only[b6];have h1:=h.aj hx;split
 ·rename_i id off b4;rw[b4]at h1;simp only[aq,Ref]at h1;intro ob bH;simp only[bH]at h1
  cases ob with
  |cells cs=>
   simp only;split
   ·rename_i hle
    have X6:off<cs.length:=by have:=Nat.le_of_ble_eq_true hle;omega
    obtain⟨b,hb,he⟩:=h1;obtain⟨b',c,e',gV,hc,dZ,_⟩:=h.mem id _ bH;rw[hb]at gV;cases gV;refine aK h bm bd (u:=.pointer (some ⟨b,off,none⟩)) ?_ ?_
    ·have hr:=Lib.run_to_unsafe (P:=P) w (src:=s) (dst:=d) ⟨b,off,none⟩ hs hd hi hz (e:=e') (cells:=c.size) (by simp[World.shape?,hc]) (by simp only;omega);simp only[execOp,ho,he,Sem.run_bind,hr,Result.andThen_ok,Sem.run_pure]
    ·simp only[aq,Ref,bH];exact⟨b,hb,rfl⟩
   ·trivial
  |_=>trivial
 ·trivial
theorem UN {s d e:TypeId} {i:TypeInfo} {x:Operand} {x':bN} (ho:o.op=.convert s d x) (hs:P.underlying s=some .unsafePointer) (hd:P.underlying d=some (.pointer e)) (hi:P.info? e=some i) (JT:liesAt P P.depth e (i.size/P.cellsOf e) 0 e 1=true) (hx:a8 G x=some x'):
  cg P w0 own0 hvs G S0 o a w st kn γ S (b6 aG kn (.Xs e i.size x') st.ev):=by
 simp only[b6];have h1:=h.aj hx;split
 ·rename_i id b4;rw[b4]at h1;simp only[aq,Ref]at h1;intro ob bH;simp only[bH]at h1
  cases ob with
  |cells cs=>
   cases cs with
   |nil=>trivial
   |cons hd r=>
    cases hd with
    |iJ t'=>
     obtain⟨b,hb,he⟩:=h1
     by_cases CG:e=t'
     ·subst CG
      by_cases hn:r.length+1=i.size
      ·simp only[beq_self_eq_true,hn];obtain⟨b',c,e',gV,hc,dZ,_,Ma⟩:=h.mem id _ bH;rw[hb]at gV;cases gV;have hty':e'=e:=Ma _ _ rfl
       have py:w.shape? b=some (e,c.size):=by rw[←hty'];simp[World.shape?,hc]
       refine aK h bm bd (u:=.pointer (some ⟨b,0,none⟩)) ?_ ?_
       ·have hr:=Lib.run_from_unsafe (P:=P) w (src:=s) (dst:=d) ⟨b,0,none⟩ hs hd hi (cells:=c.size) py (by simp only;rw[dZ,List.length_cons,hn];exact JT);simp only[execOp,ho,he,Sem.run_bind,hr,Result.andThen_ok,Sem.run_pure]
       ·simp only[aq,Ref,bH];exact⟨b,hb,rfl⟩
      ·simp only[beq_self_eq_true,beq_eq_false_iff_ne.2 hn];trivial
     ·simp only[beq_eq_false_iff_ne.2 CG];trivial
    |_=>trivial
  |_=>trivial
 ·trivial
theorem Yt {op:BinOp} {t ty e:TypeId} {i:TypeInfo} {x y:Operand} {x' y':bN} (ho:o.op=.binOp op t x y ty) (ht:P.underlying t=some (.pointer e)) (hi:P.info? e=some i) (hx:a8 G x=some x') (hy:a8 G y=some y'):
  cg P w0 own0 hvs G S0 o a w st kn γ S (b6 aG kn (.pp op x' y') st.ev):=by
 have h1:=h.aj hx;have h2:=h.aj hy;simp only[b6];split
 ·rename_i id off b4;rw[b4]at h1;simp only[aq]at h1;split
  ·rename_i id2 off2 lz;rw[lz]at h2;simp only[aq]at h2;split
   ·rename_i e1;split
    ·rename_i e2
     have e1:id=id2:=by simpa using e1
     have e2:off=off2:=by simpa using e2
     subst e1 e2
     have key:∃b,a.eval x=.pointer (some ⟨b,off,none⟩)∧a.eval y=.pointer (some ⟨b,off,none⟩):=by
      simp only[Ref]at h1 h2
      cases hm:aA st.mem id with
      |none=>simp only[hm]at h1
      |some ob=>
       simp only[hm]at h1 h2
       cases ob with
       |cells cs=>obtain⟨b,hb,he⟩:=h1;obtain⟨b2,sd,JU⟩:=h2;rw[hb]at sd;cases sd;exact⟨b,he,JU⟩
       |fz=>obtain⟨b,hb,he⟩:=h1;obtain⟨b2,sd,JU⟩:=h2;rw[hb]at sd;cases sd;exact⟨b,he,JU⟩
       |er=>obtain⟨b,hb,he⟩:=h1;obtain⟨b2,sd,JU⟩:=h2;rw[hb]at sd;cases sd;exact⟨b,he,JU⟩
       |_=>exact h1.elim
     obtain⟨b,zw,Yp⟩:=key
     have gp:∀op,(eqGuard op t x y (.pointer (some ⟨b,off,none⟩)) (.pointer (some ⟨b,off,none⟩))).run P w=.ok () w:=by intro op;simp only[eqGuard];cases op<;>rfl
     exact mf h bm bd ho zw Yp gp (by
      have:∀d:Nat,(Op.equalIn (d+1) t (.pointer (some ⟨b,off,none⟩)) (.pointer (some ⟨b,off,none⟩))).run P w=.ok true w:=fun d=>by
       simp[Op.equalIn,run_underlying ht,sizeOf,typeInfo,hi,run_sameAddr_same]
      exact this 9999) rfl rfl
    ·trivial
   ·trivial
  ·trivial
 ·trivial
theorem UO {x:Operand} {x':bN} {c:Call} (ho:o.op=.call c) (hc:c.callee=.builtin .unsafeSliceData) (ha:c.args=#[x]) (hx:a8 G x=some x'):
  cg P w0 own0 hvs G S0 o a w st kn γ S (b6 aG kn (.TX x') st.ev):=by
 have h1:=h.aj hx;simp only[b6];split
 ·rename_i id ver b4;rw[b4]at h1;simp only[aq,Ref]at h1;intro ob bH;simp only[bH]at h1
  cases ob with
  |cH t rs bo=>
   by_cases hv:ver=bo
   ·subst hv;simp only[beq_self_eq_true];rintro⟨zj,AF,px⟩;obtain⟨a0,cap,he,dQ,hd⟩:=h1.2 rfl
    rcases hd with hd|⟨b,c1,hb,ha1,wL,kh⟩
    ·omega
    ·subst ha1;refine aK h bm bd (u:=.pointer (some ⟨b,0,none⟩)) ?_ ?_
     ·have hr:=Lib.run_unsafeSliceData_row (P:=P) w c.argTypes o.type ⟨b,0,none⟩ rs.length cap (by omega);simp only[execOp,ho,resolve,hc,ha,Sem.run_bind,Sem.run_pure,Result.andThen_ok,invoke,builtin,List.map_toArray,List.map_cons,List.map_nil,he,hr]
     ·simp only[aq,Ref,bH];exact⟨⟨Nat.le_refl _,rfl⟩,fun _=>⟨b,hb,by simp,by simpa using zj,by simpa using AF⟩⟩
   ·simp only[beq_eq_false_iff_ne.2 hv];trivial
  |_=>trivial
 ·trivial
omit h bm bd in
theorem mg {P:Program} (w:World):∀(l:List Int) (a:Addr) (acc:ByteArray),(∀j x,l[j]? =some x→w.cell? (a.add j)=some (.int .u8 x))→
  (loadBytes a acc l.length).run P w=.ok ⟨acc.data++(l.map fun n=>n.toNat.toUInt8).toArray⟩ w
 |[],a,acc,_=>by simp[loadBytes]
 |x::l,a,acc,h=>by
  have h0:w.cell? a=some (.int .u8 x):=by
   have:=h 0 x rfl;simpa[Addr.add]using this
  have ih:=mg (P:=P) w l (a.add 1) (acc.push x.toNat.toUInt8) (fun j y hy=>by
   have:=h (j+1) y (by simpa using hy)
   have e:(a.add 1).add j=a.add (j+1):=by
    unfold Addr.add
    by_cases hj:j=0
    ·subst hj;simp
    ·simp[hj];omega
   rw[e];exact this)
  simp only[List.length_cons,loadBytes,Sem.run_bind,run_load,h0,Result.andThen];rw[ih]
  congr 1
  apply ByteArray.ext;simp[ByteArray.push]
omit h bm bd in
theorem pz {P:Program} (w:World) (pt it ty e:TypeId) (hp:P.underlying pt=some (.pointer e)) (hc:P.cellsOf e=1) (g cells:Nat) (py:w.shape? g=some (e,cells)) (l:List Int) (h0:l≠[]) (hn:l.length≤cells) (h63:l.length≤9223372036854775807)
  (o9:∀j x,l[j]? =some x→w.cell? ((⟨g,0,none⟩:Addr).add j)=some (.int .u8 x)):
  (Builtin.unsafeString_ #[pt,it] ty #[.pointer (some ⟨g,0,none⟩),.int .i64 l.length]).run P w=.ok (.string ⟨(l.map fun n=>n.toNat.toUInt8).toArray⟩) (w.freeze ⟨g,0,none⟩ l.length):=by
 have hl:l.length≠0:=by simpa using h0
 have hlb:=mg (P:=P) w l ⟨g,0,none⟩ .empty o9;have JT:=Lib.liesAt_bytes (P:=P) hc (cells/P.cellsOf e) l.length (by rw[hc];simpa using hn)
 have h63':¬(9223372036854775807:Int)<(l.length:Int):=by omega
 have hdef:Builtin.unsafeString_ #[pt,it] ty #[.pointer (some ⟨g,0,none⟩),.int .i64 l.length]=
   (do
    let n←asInt (.int .i64 l.length)
    if n<0 then runtimePanic (.error _)
    if n>IntKind.i64.max then unsupported (.unsafePointer _)
    if n=0 then pure (.string .empty)
    else if←variablesAt ⟨g,0,none⟩ (←elemOf pt) n.toNat then do
     let s←loadBytes ⟨g,0,none⟩ .empty n.toNat
     freeze ⟨g,0,none⟩ n.toNat
     pure (.string s)
    else unsupported (.unsafePointer _)):=rfl
 rw[hdef];have Ju:IntKind.i64.max=9223372036854775807:=rfl
 have hneg:¬(l.length:Int)<0:=by omega
 simp[asInt,asIntOf,Ju,h63',hneg,hl,variablesAt,py,elemOf,run_underlying hp,JT,hlb]
theorem dj.M5 {id ver:Nat} {t:TypeId} {rs:List (List PV)} (hid:aA st.mem id=some (.cH t rs ver)):
  ∃S',(∀b,S b→S' b)∧(∀b,S' b→S b∨(∃i,γ i=some b))∧dj w0 own0 hvs G (dw γ id none) S' (st.aC id (.eL rs ver)) a w:=by
 have bL:=bQ hid;refine⟨fun b=>S b∨γ id=some b,fun b hb=>.inl hb,fun b hb=>hb.imp (fun h=>h) (fun h=>⟨id,h⟩),?_⟩
 have hl:cA S w (fun b=>S b∨γ id=some b) w:=fun b hb=>⟨.inl hb,rfl,rfl⟩
 have hO:=h.mem id _ hid
 have hρ:∀x v,Ref γ S w st.mem x v→Ref (dw γ id none) (fun b=>S b∨γ id=some b) w (st.aC id (.eL rs ver)).mem x v:=by
  intro x v hx
  by_cases hi:bD x=some id
  ·cases x with
   |dB i2 v2=>
    simp only[bD,Option.some.injEq]at hi;subst hi;simp only[Ref,hid]at hx;simp only[Ref,St.aC,aE bL,if_true];refine⟨hx.1,fun e=>?_⟩;obtain⟨a1,cap,q1,q2,q3⟩:=hx.2 e;simp only[aJ];refine⟨a1,cap,q1,by simpa using q2,?_⟩
    rcases q3 with q3|⟨b,c,r1,r2,r3,r4⟩
    ·left;exact⟨List.eq_nil_of_length_eq_zero (by omega),trivial⟩
    ·right
     obtain⟨c1,t1,t2,t3,t4⟩:=kZ r1 hO;refine⟨b,0,c1,1,r2,.inr r1,by simp[ag,t1],t3,by simp[aS],bI.later hl _ t4,by simp only[bI]⟩
   |cW i2 v2 j2 o2=>
    simp only[bD,Option.some.injEq]at hi;subst hi;simp only[Ref,hid]at hx;simp only[Ref,St.aC,aE bL,if_true];refine⟨hx.1,fun e=>?_⟩;obtain⟨b,r1,q1,q2,q3⟩:=hx.2 e;obtain⟨c1,t1,t2,t3,t4⟩:=kZ r1 hO;have:=bI.rows (j:=j2.toNat) t3 (bI.later hl _ t4) (by omega);rw[Nat.zero_add]at this;exact⟨b,j2.toNat*1,c1,q1,.inr r1,by simp[ag,t1],this,q2,q3⟩
   |ptr i2 o2=>
    simp only[bD,Option.some.injEq]at hi;subst hi;simp only[Ref,hid]at hx
   |dt i2=>
    simp only[bD,Option.some.injEq]at hi;subst hi;simp only[Ref,hid]at hx
   |eR i2 o2=>
    simp only[bD,Option.some.injEq]at hi;subst hi;simp only[Ref,hid]at hx
   |_=>simp[bD]at hi
  ·refine Ref.um hl x v (fun pH ob hr hg=>?_) hx
   have dW:pH≠id:=fun e=>hi (e▸hr)
   exact⟨by simp only[St.aC,aE bL,if_neg dW,hg],by simp only[dw,if_neg dW],fun _ _=>⟨rfl,rfl⟩⟩
 exact{
     size:=h.size,slot:=fun i=>aq.later hl hρ _ (h.slot i),held:=aF.later hl hρ _ h.held,defers:=h.defers
     mem:=fun pH ob hg=>by
      by_cases hi:pH=id
      ·subst hi;simp only[St.aC,aE bL,if_true,Option.some.injEq]at hg;subst hg;trivial
      ·simp only[St.aC,aE bL,if_neg hi]at hg;exact fU.later hl hρ (by simp only[dw,if_neg hi]) (fun _ _=>rfl) (h.mem pH ob hg)
     qQ:=fun i b hg=>by
      simp only[St.aC,aE bL]
      by_cases hi:i=id
      ·simp[hi]
      ·simp only[dw,if_neg hi]at hg ⊢;exact h.qQ i b hg
     inj:=fun i j b hi hj=>by
      simp only[dw]at hi hj;split at hi
      ·cases hi
      ·split at hj
       ·cases hj
       ·exact h.inj i j b hi hj
     own:=fun i b hi=>by
      simp only[dw]at hi;split at hi
      ·cases hi
      ·rename_i dW;refine⟨fun hs=>?_,(h.own i b hi).2⟩
       rcases hs with hs|hs
       ·exact(h.own i b hi).1 hs
       ·exact dW (h.inj i id b hi hs)
     bound:=fun b hb=>by
      rcases hb with hb|hb
      ·exact h.bound b hb
      ·exact h.dx id b hb
     dx:=fun i b hi=>by
      simp only[dw]at hi;split at hi
      ·cases hi
      ·exact h.dx i b hi
     nR:=fun g row hg=>by
      obtain⟨h1,c,h2,h3,h4⟩:=h.nR g row hg;exact⟨.inl h1,c,h2,b7.later hl row h3,h4⟩
     kept:=h.kept,os:=h.os,tape:=h.tape,output:=h.output,eF:=h.eF}
theorem Gd {t u e:TypeId} {z:List PV} {x y:Operand} {x' y':bN} {c:Call} (ho:o.op=.call c) (hc:c.callee=.builtin .append) (ha:c.args=#[x,y]) (nV:c.argTypes=#[t,u])
  (ht:P.underlying t=some (.slice e)) (dZ:bZ P e=some 1) (oC:oz P e=some 1) (hzt:ic P e=some z) (I9:z.length=1)
  (hu:(∃e',P.underlying u=some (.slice e'))∨P.underlying u=some .string) (hx:a8 G x=some x') (hy:a8 G y=some y'):
  cg P w0 own0 hvs G S0 o a w st kn γ S (b6 aG kn (.Cd e x' y') st.ev):=by
 obtain⟨sz,rp⟩:∃k:Nat,k=1:=⟨_,rfl⟩;obtain⟨bytes,Yu⟩:∃k:Nat,k=1:=⟨_,rfl⟩;have hu:(∃e',P.underlying u=some (.slice e'))∨(P.underlying u=some .string∧sz=1):=hu.imp id (fun h=>⟨h,rp⟩);rw[←rp]at dZ I9;rw[←Yu]at oC;have h1:=h.aj hx;have h2:=h.aj hy;obtain⟨i,zv,hi,F8,F9,_⟩:=ij (S:=S) (w:=w) hzt
 have MO:i.bytes=bytes:=by simpa[oz,hi]using oC
 have sg:i.size=sz:=by simpa[bZ,hi]using dZ
 have hzc:zv.cells.size=sz:=by rw[←I9,←a7.length F9];simp
 have bJ:∀v w',(Builtin.append_ #[t,u] o.type #[a.eval x,a.eval y]).run P w=.ok v w'→(execOp a.eval o).run P w=.ok (.value v) w':=by
  intro v w' hv;simp only[execOp,ho,resolve,hc,ha,nV,Sem.run_bind,Sem.run_pure,Result.andThen_ok,invoke,builtin];simp only[List.map_toArray,List.map_cons,List.map_nil,hv,Result.andThen_ok]
 have pvp:∀ys,gU aG (st.ev y')=some ys→
   (st.ev x'=.full []→ek P w0 own0 hvs G S0 o a w st kn γ S (.km (aG.po [] ys bytes sz∧ys≠[]) (.cH e ys 0) (.dB kn 0)))∧
   (∀id ver rs,st.ev x'=.dB id ver→aA st.mem id=some (.cH e rs ver)→ek P w0 own0 hvs G S0 o a w st kn γ S (.iL (aG.po rs ys bytes sz∧ys≠[]) id (.cH e (aG.re rs ys) (ver+1)) (.dB id (ver+1)))):=by
  intro ys zm
  have grow:∀(xs:List (List PV)) (base:Option Addr) (cap:Nat) (olds news:List Value),a.eval x=.slice base xs.length cap→cap<xs.length+ys.length→aG.po xs ys bytes sz→
    a7 S w xs.flatten olds→olds.length=xs.length*sz→(Builtin.firstCells sz xs.length (.slice base xs.length cap)).run P w.drew=.ok olds.toArray w.drew→
    Src P sz u (a.eval y) ys.length news w→a7 S w ys.flatten news→
    ∃(c:Array Value) (nc:Nat),(execOp a.eval o).run P w=.ok (.value (.slice (some ⟨w.heap.size,0,none⟩) (xs.length+ys.length) nc)) (w.drew.alloc (.cells c e))∧xs.length+ys.length≤nc∧c.size=nc*sz∧
     aS sz (xs++ys)∧∀{S':Nat→Prop} {w':World},cA S w S' w'→bI S' w' (xs++ys) c 0:=by
   intro xs base cap olds news zw H2 dQ Yc JE hold iZ yE;obtain⟨q1,q2,q3,q4⟩:=dQ;have bP:aS sz (xs++ys):=q4.append (fun r hr=>(q3 r hr).1);have Ur:=nextslicecap_le H2;have B7:=wR (w:=w) (xs.length+ys.length) cap e
   have JF:Builtin.nextslicecap (xs.length+ys.length) cap*i.bytes≤281474976710656:=by
    rw[MO];have:=Nat.mul_le_mul_right bytes Ur
    have e1:(2*(xs.length+ys.length)+512)*bytes=2*((xs.length+ys.length+256)*bytes):=by
     rw[←Nat.mul_assoc,show 2*(xs.length+ys.length+256)=2*(xs.length+ys.length)+512 by omega]
    omega
   have hr:=run_append_grow_src (P:=P) w t u o.type e i zv ht hi F8 base xs.length cap olds (by rw[sg];exact hold) (a.eval y) ys.length news (by rw[sg];exact iZ) H2 (by omega) JF;refine⟨_,_,bJ _ _ (by rw[zw];exact hr),B7,?_,bP,fun hl=>?_⟩
   ·have JG:=iZ.newsLen;simp only[Array.size_append,List.size_toArray,List.length_append,JE,JG,Builtin.zeroCells,Array.size_map,Array.size_range,hzc];rw[←Nat.add_mul,←Nat.add_mul];congr 1;omega
   ·refine bI.of_flat (w:=_) h bm bd (vs:=olds++news) (by rw[List.flatten_append];exact a7.append (a7.later hl _ Yc) (a7.later hl _ yE)) fun j v hj=>?_
    rw[Nat.zero_add,Array.getElem?_append_left (by simpa using (List.getElem?_eq_some_iff.1 hj).1)];simpa using hj
  refine⟨?_,?_⟩
  ·intro b4;have h1:=h1;rw[b4]at h1;simp only[aq]at h1;obtain⟨a0,zw,hd⟩:=h1;intro hm bL;rintro⟨dQ,DW⟩;have e6:=dQ.2.2.1;obtain⟨news,iZ,yE⟩:=qT (P:=P) (tx:=u) (sz:=sz) zm h2 e6 hu;have zx:0<ys.length:=List.length_pos_iff.2 DW;obtain⟨cc,nc,g1,g2,g3,g4,g5⟩:=grow [] a0 0 [] news zw (by simpa using zx) dQ (by simp only[List.flatten_nil,a7]) (by simp) (by cases a0<;>simp[Builtin.firstCells,loadCells,loadCellsFrom]) iZ yE
   rw[List.nil_append]at g4;have key:=dj.new (dj.drew h) hm bL (.cH e ys 0) cc e (fun hρ hl=>.inr ⟨w.heap.size,cc,by simp[dw],heap_alloc_new,by rw[g3,rp];exact Nat.mul_le_mul_right _ (by simpa using g2),by rw[rp]at g4;exact g4,by simpa using g5 hl⟩);refine⟨_,_,_,S,.inl g1,bm,bd,key.1,?_⟩;simp only[aq,Ref,St.aC,aE bL,if_true];exact⟨⟨Nat.le_refl _,rfl⟩,fun _=>⟨_,nc,by simp,by simpa using g2,.inr ⟨w.heap.size,cc,by simp[dw],rfl,ey,by rw[g3,rp]⟩⟩⟩
  ·intro id ver rs b4 bH;have h1:=h1;rw[b4]at h1;simp only[aq,Ref]at h1;simp only[bH]at h1;rintro⟨dQ,DW⟩;have e6:=dQ.2.2.1;obtain⟨news,iZ,yE⟩:=qT (P:=P) (tx:=u) (sz:=sz) zm h2 e6 hu;obtain⟨a1,cap,q1,q2,q3⟩:=h1.2 trivial;have hO:=h.mem id _ bH;have zx:0<ys.length:=List.length_pos_iff.2 DW
   by_cases jD:rs.length+ys.length≤cap
   ·rcases q3 with q3|⟨b,cb,r1,r2,r3,r4⟩
    ·omega
    ·obtain⟨c1,t1,t2,t3,t4⟩:=kZ r1 hO;simp only[ag,t1,Option.some.injEq]at r3;subst r3;subst r2;obtain⟨w',c',g1,g2,g3,g4,g5,g6,g7,g8,g9⟩:=run_append_room (P:=P) (ty:=o.type) ht hi (by rw[sg];exact iZ) jD t1 (by rw[sg,rp];exact r4)
     have key:=dj.l5 h bH r1 g5 g6 g7 g8 g9 (ob':=.cH e (aG.re rs ys) (ver+1)) (fun z v hz hv=>pY bH z v hz hv) (fun hρ hl=>by
      refine .inr ⟨b,c',r1,g2,?_,?_,?_⟩
      ·rw[g3,r4];simp only[aG,List.length_append];exact Nat.mul_le_mul_right _ jD
      ·simp only[aG];rw[rp]at e6;exact t3.append (fun r hr=>(e6 r hr).1)
      ·simp only[aG];refine bI.append t3 ?_ ?_
       ·obtain⟨vs,j1,j2,j3⟩:=bI.flat t3 (bI.later hl _ t4)
        refine bI.of_flat h bm bd j1 fun j v hj=>?_
        have vP:=(List.getElem?_eq_some_iff.1 hj).1;rw[Nat.zero_add,g4,if_neg (by rw[sg,rp];omega),←Nat.zero_add j];exact j3 j v hj
       ·refine bI.of_flat h bm bd (a7.later hl _ yE) fun j v hj=>?_
        have vP:=(List.getElem?_eq_some_iff.1 hj).1
        rw[Nat.zero_add,g4,if_pos (by rw[sg,rp];omega),sg,rp,show rs.length*1+j-rs.length*1=j by omega];exact hj)
     refine⟨_,w',γ,S,.inl (bJ _ _ (by rw[q1];exact g1)),bm,bd,key.1,?_⟩;simp only[aq,Ref,St.aC,aE (bQ bH),if_true];exact⟨⟨Nat.le_refl _,rfl⟩,fun _=>⟨_,cap,by simp[aG],by simpa[aG]using jD,.inr ⟨b,c',r1,rfl,by simp[ag,g2],by rw[g3,r4]⟩⟩⟩
   ·have hold:∃olds:List Value,a7 S w rs.flatten olds∧olds.length=rs.length*sz∧(Builtin.firstCells sz rs.length (.slice a1 rs.length cap)).run P w.drew=.ok olds.toArray w.drew:=by
     rcases q3 with q3|⟨b,cb,r1,r2,r3,r4⟩
     ·have:rs=[]:=List.eq_nil_of_length_eq_zero (by omega);subst this;exact⟨[],by simp only[List.flatten_nil,a7],by simp,by cases a1<;>simp[Builtin.firstCells,loadCells,loadCellsFrom]⟩
     ·obtain⟨c1,t1,t2,t3,t4⟩:=kZ r1 hO;subst r2;obtain⟨vs,j1,j2,j3⟩:=bI.flat t3 t4;exact⟨vs,j1,by rw[rp];exact j2,by rw[rp];exact df (w:=w.drew) (by show ag w b=_;simp[ag,t1]) j2 j3⟩
    obtain⟨olds,o1,o2,o3⟩:=hold;obtain⟨cc,nc,g1,g2,g3,g4,g5⟩:=grow rs a1 cap olds news q1 (by omega) dQ o1 o2 o3 iZ yE;have key:=dj.renew (dj.drew h) bH (ob:=.cH e (aG.re rs ys) (ver+1)) cc e (fun z v hz hv=>pY bH z v hz hv) (fun hρ hl=>.inr ⟨w.heap.size,cc,by simp[dw],heap_alloc_new,by rw[g3,rp];simp only[aG,List.length_append];exact Nat.mul_le_mul_right _ g2,by rw[rp]at g4;simpa only[aG]using g4,by simpa only[aG]using g5 hl⟩)
    refine⟨_,_,_,S,.inl g1,bm,bd,key,?_⟩;simp only[aq,Ref,St.aC,aE (bQ bH),if_true];exact⟨⟨Nat.le_refl _,rfl⟩,fun _=>⟨_,nc,by simp[aG],by simpa[aG]using g2,.inr ⟨w.heap.size,cc,by simp[dw],rfl,ey,by rw[g3,rp]⟩⟩⟩
 simp only[b6]
 cases zm:gU aG (st.ev y')with
 |none=>trivial
 |some ys=>
  have hp:=pvp ys zm;rw[rp,Yu]at hp;simp only;split
  ·rename_i b4;exact hp.1 b4
  ·rename_i id ver b4;intro ob bH
   cases ob with
   |cH t' rs bo=>
    by_cases CG:e=t'
    ·subst CG
     by_cases hv:ver=bo
     ·subst hv;simp only[beq_self_eq_true];exact hp.2 id ver rs b4 bH
     ·simp only[beq_self_eq_true,beq_eq_false_iff_ne.2 hv];trivial
    ·simp only[beq_eq_false_iff_ne.2 CG];trivial
   |_=>trivial
  ·trivial
theorem UP {t u e:TypeId} {x n:Operand} {x' n':bN} {c:Call} (ho:o.op=.call c) (hc:c.callee=.builtin .unsafeString) (ha:c.args=#[x,n]) (nV:c.argTypes=#[t,u]) (ht:P.underlying t=some (.pointer e)) (hce:P.cellsOf e=1) (hx:a8 G x=some x') (hn:a8 G n=some n'):
  cg P w0 own0 hvs G S0 o a w st kn γ S (b6 aG kn (.TY e x' n') st.ev):=by
 have h1:=h.aj hx;have h2:=h.aj hn;simp only[b6];split
 ·rename_i k m lz;rw[lz]at h2;simp only[aq,aJ]at h2;split
  ·split
   ·rename_i id ver j b4;rw[b4]at h1;simp only[aq,Ref]at h1;intro ob bH;simp only[bH]at h1
    cases ob with
    |cH t' rs bo=>
     by_cases CG:e=t'
     ·subst CG
      by_cases hv:ver=bo
      ·subst hv;simp only[beq_self_eq_true];rintro⟨Ja,hm,hj,dQ⟩;subst hj;obtain⟨b,hb,he,_,AF⟩:=h1.2 rfl;obtain⟨c1,t1,t2,t3,t4⟩:=kZ hb (h.mem id _ bH);have iI:=zr Ja
       have hlen:(dR rs).length=rs.length:=by simp[dR]
       have o9:∀j v,(dR rs)[j]? =some v→w.cell? ((⟨b,0,none⟩:Addr).add j)=some (.int .u8 v):=by
        intro j v hj;rw[iI]at t4;have:=sf t4 j (.int .u8 v) (by simp[List.getElem?_map,hj]);rw[ig,cell_of (w:=w) (by simp[ag,t1]:ag w b=some c1)];exact this
       have zG:m=((dR rs).length:Int):=by rw[hm,hlen];rfl
       have h46:rs.length≤2^46:=dQ.2.1;have hr:=pz (P:=P) w t u o.type e ht hce b c1.size (by simp[World.shape?,t1]) (dR rs) (by intro h0;rw[h0]at hlen;simp at hlen;omega) (by omega) (by omega) o9;obtain⟨S',k1,k2,k3⟩:=dj.M5 h bm bd bH;have El:=h.own id b hb
       have dW:∀k,k≠b→(w.freeze ⟨b,0,none⟩ (dR rs).length).heap[k]? =w.heap[k]?:=by
        intro k hk;unfold World.freeze;split
        ·rfl
        ·simp only[Array.getElem?_modify];rw[if_neg (fun e=>hk e.symm)]
       have MQ:ag (w.freeze ⟨b,0,none⟩ (dR rs).length) b=ag w b∧fc (w.freeze ⟨b,0,none⟩ (dR rs).length) b=fc w b:=by
        unfold World.freeze;split
        ·exact⟨rfl,rfl⟩
        ·constructor
         ·simp[ag,Array.getElem?_modify,t1]
         ·simp[fc,Array.getElem?_modify,t1]
       have key:=dj.M4 k3 (w':=w.freeze ⟨b,0,none⟩ (dR rs).length) (fun i b' hi=>dW b' (fun e=>by
         simp only[dw]at hi;split at hi
         ·cases hi
         ·rename_i hni;subst e;exact hni (h.inj i id b' hi hb)))
        (fun b' gV=>by
         by_cases e:b'=b
         ·subst e;exact MQ
         ·exact eI (dW b' e))
        (fun b' bL v7=>dW b' (fun e=>by
         subst e
         rcases El.2 with h3|h3
         ·omega
         ·exact v7 h3))
        (by unfold World.freeze;split<;>simp) (by unfold World.freeze;split<;>rfl) (by unfold World.freeze;split<;>rfl) (by unfold World.freeze;split<;>rfl)
       refine⟨.string ⟨((dR rs).map fun n=>n.toNat.toUInt8).toArray⟩,_,_,S',.inl ?_,fun b hb=>k1 b (bm b hb),fun b' gV=>?_,key.1,?_⟩
       ·simp only[execOp,ho,resolve,hc,ha,nV,Sem.run_bind,Sem.run_pure,Result.andThen_ok,invoke,builtin,List.map_toArray,List.map_cons,List.map_nil,he,h2,zG,hr,Int.toNat_zero,Nat.zero_mul,Nat.zero_add]
       ·rcases k2 b' gV with h3|⟨i,h3⟩
        ·exact bd b' h3
        ·exact .inr (h.own i b' h3).2
       ·simp only[aq,aJ,s4]
      ·simp only[beq_self_eq_true,beq_eq_false_iff_ne.2 hv];trivial
     ·simp only[beq_eq_false_iff_ne.2 CG];trivial
    |_=>trivial
   ·trivial
  ·trivial
 ·trivial
end
end Go.Am
end
section
namespace Go.Am
section
variable {P:Program} {w0:World} {own0:Nat→Prop} {hvs:List Value} {G:Nat→Option (List PV)} {S0:Nat→Prop} {accs:List Nat}
 {γ:Nat→Option Nat} {S:Nat→Prop} {st:St} {a:Act} {w:World} {o:Oper} {kn:Nat}
theorem k7 {t e:TypeId} (h:wI P t=some e):P.underlying t=some (.slice e):=by
 unfold wI at h;split at h
 ·rename_i h1;simp only[Option.some.injEq]at h;subst h;exact h1
 ·cases h
variable (h:dj w0 own0 hvs G γ S st a w) (bm:∀b,S0 b→S b) (bd:∀b,S b→S0 b∨w0.heap.size≤b∨own0 b)
include h bm bd
theorem JV {op:BinOp} {t ty:TypeId} {x y:Operand} {x' y':bN} (ho:o.op=.binOp op t x y ty) (hx:a8 G x=some x') (hy:a8 G y=some y'):
  cg P w0 own0 hvs G S0 o a w st kn γ S (b6 aG kn (.bin op x' y') st.ev):=by
 have h1:=h.aj hx;have h2:=h.aj hy;simp only[b6,zc];split
 ·rename_i k m k' n e1 e2;rw[e1]at h1;rw[e2]at h2;simp only[aq,aJ]at h1 h2;exact Eg h bm bd ho h1 h2
 ·rename_i m n e1 e2;rw[e1]at h1;rw[e2]at h2;simp only[aq,aJ]at h1 h2;exact Eh h bm bd ho h1 h2
 ·trivial
theorem M6 {op:BinOp} {t ty:TypeId} {x y:Operand} {x' y':bN} (ho:o.op=.binOp op t x y ty) (ht:P.underlying t=some .bool) (hx:a8 G x=some x') (hy:a8 G y=some y'):
  cg P w0 own0 hvs G S0 o a w st kn γ S (b6 aG kn (.D5 op x' y') st.ev):=by
 have h1:=h.aj hx;have h2:=h.aj hy;simp only[b6,Aw];split
 ·rename_i m n e1 e2;rw[e1]at h1;rw[e2]at h2;simp only[aq,aJ]at h1 h2;exact Co h bm bd ho ht h1 h2
 ·trivial
theorem M7 {op:BinOp} {t ty:TypeId} {x y:Operand} {x' y':bN} {ms:Array (String×TypeId)} (ho:o.op=.binOp op t x y ty) (ht:P.underlying t=some (.interface ms)) (hc:(isConst x||isConst y)=true) (hx:a8 G x=some x') (hy:a8 G y=some y'):
  cg P w0 own0 hvs G S0 o a w st kn γ S (b6 aG kn (.D6 op x' y') st.ev):=by
 have h1:=h.aj hx;have h2:=h.aj hy;simp only[b6,F1];split
 ·rename_i p q e1 e2;exact Ei h bm bd ho ht hc p q (fD _ e1 h1) (fD _ e2 h2)
 ·trivial
theorem UQ {s d:TypeId} {x:Operand} {x':bN} (ho:o.op=.convert s d x) (hs:P.underlying s=some .string) (hd:P.underlying d=some .string) (hx:a8 G x=some x'):
  cg P w0 own0 hvs G S0 o a w st kn γ S (b6 aG kn (.Xk x') st.ev):=by
 simp only[b6];have h1:=h.aj hx;split
 ·rename_i b b4;rw[b4]at h1;simp only[aq,aJ]at h1;exact aK h bm bd (u:=.string ⟨b.toArray⟩) (by simp[execOp,ho,convert,run_underlying,hs,hd,h1]) (by simp only[aq,aJ])
 ·trivial
theorem zH {op:yB} (hc:uk P G accs o=some op):cg P w0 own0 hvs G S0 o a w st kn γ S (b6 aG kn op st.ev):=by
 unfold uk at hc;split at hc
 ·
  rename_i x ho;split at hc
  ·rename_i hx hacc;obtain⟨e,h1,h2⟩:=Option.bind_eq_some_iff.1 hc;obtain⟨n,h3,rfl⟩:=Option.map_eq_some_iff.1 h2;exact zp h bm bd (.inl ho) rfl
  ·obtain⟨x',h1,rfl⟩:=Option.map_eq_some_iff.1 hc;exact Rp h bm bd (.inl ho) h1
 ·
  rename_i x ho;split at hc
  ·rename_i hx hacc;obtain⟨e,h1,h2⟩:=Option.bind_eq_some_iff.1 hc;obtain⟨n,h3,rfl⟩:=Option.map_eq_some_iff.1 h2;exact zp h bm bd (.inr ho) rfl
  ·obtain⟨x',h1,rfl⟩:=Option.map_eq_some_iff.1 hc;exact Rp h bm bd (.inr ho) h1
 ·
  rename_i c x y ho;obtain⟨c',h1,hc⟩:=Option.bind_eq_some_iff.1 hc;obtain⟨x',h2,hc⟩:=Option.bind_eq_some_iff.1 hc;obtain⟨y',h3,rfl⟩:=Option.map_eq_some_iff.1 hc;exact MI h bm bd ho h1 h2 h3
 ·
  rename_i e ho;obtain⟨z,h1,h2⟩:=Option.map_eq_some_iff.1 hc;split at h2
  ·subst h2;exact HY h bm bd ho h1
  ·subst h2;exact Jx h bm bd ho h1
 ·
  rename_i e x ho;obtain⟨x',h1,hc⟩:=Option.bind_eq_some_iff.1 hc;obtain⟨n,h2,rfl⟩:=Option.map_eq_some_iff.1 hc;exact T7 h bm bd ho h1
 ·
  rename_i t parts ho;obtain⟨z,h1,hc⟩:=Option.bind_eq_some_iff.1 hc;split at hc
  ·rename_i fs ht;split at hc
   ·rename_i bP;obtain⟨ps,h2,rfl⟩:=Option.map_eq_some_iff.1 hc;exact T8 h bm bd ho h1 ht bP h2
   ·cases hc
  ·rename_i m e ht;obtain⟨n,h2,hc⟩:=Option.bind_eq_some_iff.1 hc;obtain⟨ps,h3,rfl⟩:=Option.map_eq_some_iff.1 hc;exact T9 h bm bd ho h1 ht h2 h3
  ·cases hc
 ·
  rename_i t len parts ho;obtain⟨e,h1,hc⟩:=Option.bind_eq_some_iff.1 hc;obtain⟨n,h2,hc⟩:=Option.bind_eq_some_iff.1 hc;obtain⟨ps,h3,hc⟩:=Option.bind_eq_some_iff.1 hc;split at hc
  ·rename_i mY;split at hc
   ·rename_i z hz;split at hc
    ·simp only[Option.some.injEq]at hc;subst hc;exact JA h bm bd ho (k7 h1) h2 h3 mY.1 mY.2.1 mY.2.2 hz
    ·split at hc
     ·simp only[Option.some.injEq]at hc;subst hc;exact Uj h bm bd ho (k7 h1) h2 h3 mY.1 mY.2.1 mY.2.2 hz
     ·simp only[Option.some.injEq]at hc;subst hc;exact Ug h bm bd ho (k7 h1) h2 h3 mY.1 mY.2.1 mY.2.2 hz
   ·cases hc
  ·cases hc
 ·
  rename_i t x ho;obtain⟨x',h1,hc⟩:=Option.bind_eq_some_iff.1 hc;obtain⟨g,h2,hc⟩:=Option.bind_eq_some_iff.1 hc;split at hc
  ·obtain⟨n,h3,rfl⟩:=Option.map_eq_some_iff.1 hc;exact Rq h bm bd ho h2 ⟨n,h3,rfl⟩ h1
  ·simp only[Option.some.injEq]at hc;subst hc;exact Rq h bm bd ho h2 rfl h1
 ·
  rename_i t x y ho;obtain⟨x',h1,hc⟩:=Option.bind_eq_some_iff.1 hc;obtain⟨y',h2,hc⟩:=Option.bind_eq_some_iff.1 hc;obtain⟨n,h3,rfl⟩:=Option.map_eq_some_iff.1 hc;exact X4 h bm bd ho h3 h1 h2
 ·
  rename_i x ho;obtain⟨x',h1,rfl⟩:=Option.map_eq_some_iff.1 hc;exact Uc h bm bd ho h1
 ·
  rename_i bop t x y ty ho;obtain⟨x',h1,hc⟩:=Option.bind_eq_some_iff.1 hc;obtain⟨y',h2,hc⟩:=Option.bind_eq_some_iff.1 hc;split at hc
  ·rename_i ht;simp only[Option.some.injEq]at hc;subst hc;exact M6 h bm bd ho ht h1 h2
  ·rename_i k ht;simp only[Option.some.injEq]at hc;subst hc;exact JV h bm bd ho h1 h2
  ·rename_i ht;simp only[Option.some.injEq]at hc;subst hc;exact JV h bm bd ho h1 h2
  ·rename_i fs ht;split at hc
   ·cases hc
   ·rename_i hg;obtain⟨sh,h3,rfl⟩:=Option.map_eq_some_iff.1 hc;exact Uw h bm bd ho ht hg h3 h1 h2
  ·rename_i ms ht;split at hc
   ·rename_i hk;simp only[Option.some.injEq]at hc;subst hc;exact M7 h bm bd ho ht hk h1 h2
   ·cases hc
  ·rename_i e ht;split at hc
   ·simp only[Option.some.injEq]at hc;subst hc;exact Gc h bm bd (fn:=false) ho ⟨e,ht⟩ h1 h2
   ·split at hc
    ·rename_i i hi;simp only[Option.some.injEq]at hc;subst hc;exact Yt h bm bd ho ht hi h1 h2
    ·cases hc
  ·rename_i p r v ht;simp only[Option.some.injEq]at hc;subst hc;exact Gc h bm bd (fn:=true) ho ⟨p,r,v,ht⟩ h1 h2
  ·rename_i e ht;split at hc
   ·simp only[Option.some.injEq]at hc;subst hc;exact M0 h bm bd ho ht h1
   ·cases hc
  ·cases hc
 ·
  rename_i uop t x ho;obtain⟨x',h1,rfl⟩:=Option.map_eq_some_iff.1 hc;exact X2 h bm bd ho h1
 ·
  rename_i s d x ho;obtain⟨x',h1,hc⟩:=Option.bind_eq_some_iff.1 hc;split at hc
  ·rename_i k' k hs hd;simp only[Option.some.injEq]at hc;subst hc;exact T1 h bm bd ho hs hd h1
  ·rename_i hs hd;simp only[Option.some.injEq]at hc;subst hc;exact UQ h bm bd ho hs hd h1
  ·rename_i e hs hd;split at hc
   ·rename_i he;simp only[Option.some.injEq]at hc;subst hc;exact Um h bm bd ho hs he hd h1
   ·cases hc
  ·rename_i e hs hd;split at hc
   ·rename_i i hi;split at hc
    ·cases hc
    ·rename_i hz;simp only[Option.some.injEq]at hc;subst hc;exact UM h bm bd ho hs hd hi (fun e=>hz e) h1
   ·cases hc
  ·rename_i e hs hd;split at hc
   ·rename_i i hi;split at hc
    ·rename_i hl;simp only[Option.some.injEq]at hc;subst hc;exact UN h bm bd ho hs hd hi hl h1
    ·cases hc
   ·cases hc
  ·cases hc
 ·
  rename_i t x ho;split at hc
  ·cases hc
  ·rename_i d hn ht;obtain⟨x',h1,rfl⟩:=Option.map_eq_some_iff.1 hc;exact T4 h bm bd ho ⟨d,ht,fun ms hm=>hn ms (by rw[hm])⟩ h1 (fun y p v hf hr=>fD y hf hr)
  ·cases hc
 ·
  rename_i f first fW ho
  split at hc
  ·rename_i hf;obtain⟨ps,h1,rfl⟩:=Option.map_eq_some_iff.1 hc;exact Uf h bm bd ho hf h1
  ·split at hc
   ·rename_i hf;obtain⟨ps,h1,rfl⟩:=Option.map_eq_some_iff.1 hc;exact MN h bm bd ho hf h1
   ·cases hc
 ·
  rename_i t l c ho;obtain⟨e,h1,hc⟩:=Option.bind_eq_some_iff.1 hc;obtain⟨n,h2,hc⟩:=Option.bind_eq_some_iff.1 hc;obtain⟨b,h3,hc⟩:=Option.bind_eq_some_iff.1 hc;obtain⟨z,h4,hc⟩:=Option.bind_eq_some_iff.1 hc;split at hc
  ·rename_i hz;obtain⟨l',h5,hc⟩:=Option.bind_eq_some_iff.1 hc;obtain⟨c',h6,rfl⟩:=Option.map_eq_some_iff.1 hc;exact Un h bm bd ho (k7 h1) h2 h3 h4 hz.1 hz.2 h5 h6
  ·cases hc
 ·
  rename_i t x lo hi ho;obtain⟨x',h1,hc⟩:=Option.bind_eq_some_iff.1 hc;obtain⟨Ep,h2,hc⟩:=Option.bind_eq_some_iff.1 hc;obtain⟨hY,h3,hc⟩:=Option.bind_eq_some_iff.1 hc;split at hc
  ·rename_i ht;simp only[Option.some.injEq]at hc;subst hc;exact Ue h bm bd ho ht h1 h2 h3
  ·rename_i e ht;split at hc
   ·obtain⟨n,h4,rfl⟩:=Option.map_eq_some_iff.1 hc;exact JR h bm bd ho ht h4 h1 h2 h3 (.inl rfl)
   ·obtain⟨n,h4,rfl⟩:=Option.map_eq_some_iff.1 hc;exact JR h bm bd ho ht h4 h1 h2 h3 (.inr rfl)
   ·obtain⟨n,h4,rfl⟩:=Option.map_eq_some_iff.1 hc;exact Uk h bm bd ho ht h4 h1 h2 h3
  ·rename_i m e ht;split at hc
   ·split at hc
    ·rename_i dZ;simp only[Option.some.injEq]at hc;subst hc
     have e1:lo=none:=by
      cases lo with
      |none=>rfl
      |some q=>simp only[kp]at h2;obtain⟨_,_,h4⟩:=Option.map_eq_some_iff.1 h2;cases h4
     have e2:hi=none:=by
      cases hi with
      |none=>rfl
      |some q=>simp only[kp]at h3;obtain⟨_,_,h4⟩:=Option.map_eq_some_iff.1 h3;cases h4
     subst e1;subst e2;exact UD h bm bd ho ht dZ h1
    ·cases hc
   ·cases hc
  ·cases hc
 ·
  rename_i t x lo k1 k2 ho;split at hc
  ·rename_i e ht;obtain⟨x',h1,hc⟩:=Option.bind_eq_some_iff.1 hc;obtain⟨n,h2,rfl⟩:=Option.map_eq_some_iff.1 hc;exact JQ h bm bd ho (.inl rfl) ht ⟨n,h2⟩ h1
  ·rename_i e k ht;obtain⟨x',h1,hc⟩:=Option.bind_eq_some_iff.1 hc;obtain⟨n,h2,rfl⟩:=Option.map_eq_some_iff.1 hc;exact JQ h bm bd ho (.inr ⟨_,rfl⟩) ht ⟨n,h2⟩ h1
  ·cases hc
 ·
  rename_i s x f ho;obtain⟨x',h1,hc⟩:=Option.bind_eq_some_iff.1 hc;obtain⟨fd,h2,hc⟩:=Option.bind_eq_some_iff.1 hc;obtain⟨g,h3,hc⟩:=Option.bind_eq_some_iff.1 hc;unfold r7 at h2;split at h2
  ·rename_i fs hu;split at hc
   ·obtain⟨n,h4,rfl⟩:=Option.map_eq_some_iff.1 hc;exact JL h bm bd (g:=true) ho hu h2 h3 ⟨n,h4,rfl⟩ h1
   ·simp only[Option.some.injEq]at hc;subst hc;exact JL h bm bd (g:=false) ho hu h2 h3 rfl h1
  ·cases h2
 ·
  rename_i t ho;split at hc
  ·split at hc
   ·split at hc
    ·simp only[Option.some.injEq]at hc;subst hc;exact Ux h bm bd ho
    ·cases hc
   ·obtain⟨kg,h1,hc⟩:=Option.bind_eq_some_iff.1 hc;obtain⟨vg,h2,hc⟩:=Option.bind_eq_some_iff.1 hc;obtain⟨n,h3,hc⟩:=Option.bind_eq_some_iff.1 hc;split at hc
    ·simp only[Option.some.injEq]at hc;subst hc;exact JI (kt:=t) (e:=t) h bm bd ho
    ·simp only[Option.some.injEq]at hc;subst hc;exact JI (kt:=t) (e:=t) h bm bd ho
    ·cases hc
  ·cases hc
 ·
  rename_i t m k x ho;split at hc
  ·rename_i kt e ht;obtain⟨m',h1,hc⟩:=Option.bind_eq_some_iff.1 hc;obtain⟨k',h2,hc⟩:=Option.bind_eq_some_iff.1 hc;obtain⟨x',h3,hc⟩:=Option.bind_eq_some_iff.1 hc;obtain⟨sh,h4,hc⟩:=Option.bind_eq_some_iff.1 hc;obtain⟨kg,h5,hc⟩:=Option.bind_eq_some_iff.1 hc;obtain⟨n,h6,rfl⟩:=Option.map_eq_some_iff.1 hc;exact JJ h bm bd (.inl ho) ht h1 h2 h3 h4 h5
  ·cases hc
 ·
  rename_i t m k x ho;split at hc
  ·rename_i kt e ht;obtain⟨m',h1,hc⟩:=Option.bind_eq_some_iff.1 hc;obtain⟨k',h2,hc⟩:=Option.bind_eq_some_iff.1 hc;obtain⟨x',h3,hc⟩:=Option.bind_eq_some_iff.1 hc;obtain⟨sh,h4,hc⟩:=Option.bind_eq_some_iff.1 hc;obtain⟨kg,h5,hc⟩:=Option.bind_eq_some_iff.1 hc;obtain⟨n,h6,rfl⟩:=Option.map_eq_some_iff.1 hc;exact JJ h bm bd (.inr ho) ht h1 h2 h3 h4 h5
  ·cases hc
 ·
  rename_i t m k ho;split at hc
  ·rename_i kt e ht;obtain⟨m',h1,hc⟩:=Option.bind_eq_some_iff.1 hc;obtain⟨k',h2,hc⟩:=Option.bind_eq_some_iff.1 hc;obtain⟨sh,h4,hc⟩:=Option.bind_eq_some_iff.1 hc;obtain⟨kg,h5,hc⟩:=Option.bind_eq_some_iff.1 hc;obtain⟨z,h6,rfl⟩:=Option.map_eq_some_iff.1 hc;exact MW h bm bd ho ht h1 h2 h4 h5 h6
  ·cases hc
 ·
  rename_i t m k x ho;split at hc
  ·rename_i kt e ht;obtain⟨m',h1,hc⟩:=Option.bind_eq_some_iff.1 hc;obtain⟨k',h2,hc⟩:=Option.bind_eq_some_iff.1 hc;obtain⟨x',h3,hc⟩:=Option.bind_eq_some_iff.1 hc;obtain⟨n,h6,rfl⟩:=Option.map_eq_some_iff.1 hc;exact MY (kt:=kt) (e:=e) h bm bd ho h1 h2 h3
  ·cases hc
 ·
  rename_i t m k ok ho;split at hc
  ·rename_i kt e ht;obtain⟨m',h1,hc⟩:=Option.bind_eq_some_iff.1 hc;obtain⟨k',h2,hc⟩:=Option.bind_eq_some_iff.1 hc;obtain⟨sh,h4,hc⟩:=Option.bind_eq_some_iff.1 hc;obtain⟨kg,h5,hc⟩:=Option.bind_eq_some_iff.1 hc;obtain⟨z,h6,rfl⟩:=Option.map_eq_some_iff.1 hc;exact Uz h bm bd ho ht h1 h2 h4 h5 h6
  ·cases hc
 ·
  rename_i t x ho;split at hc
  ·rename_i ht;obtain⟨x',h1,rfl⟩:=Option.map_eq_some_iff.1 hc;exact UF h bm bd ho ht h1
  ·rename_i kt e ht;obtain⟨x',h1,rfl⟩:=Option.map_eq_some_iff.1 hc;exact UH h bm bd ho ht h1
  ·cases hc
 ·
  rename_i x b ho;split at hc
  ·obtain⟨x',h1,rfl⟩:=Option.map_eq_some_iff.1 hc;exact UG h bm bd ho h1
  ·obtain⟨x',h1,rfl⟩:=Option.map_eq_some_iff.1 hc;exact M1 h bm bd ho h1
 ·
  rename_i x ho;obtain⟨x',h1,rfl⟩:=Option.map_eq_some_iff.1 hc;exact M3 h bm bd ho h1
 ·
  rename_i s x f ho;obtain⟨x',h1,hc⟩:=Option.bind_eq_some_iff.1 hc;obtain⟨fd,h2,hc⟩:=Option.bind_eq_some_iff.1 hc;obtain⟨n,h3,hc⟩:=Option.bind_eq_some_iff.1 hc;unfold r7 at h2;split at h2
  ·rename_i fs hu;obtain⟨ti,h4,h5⟩:=Option.map_eq_some_iff.1 h3;split at hc
   ·cases hc
   ·rename_i hn;simp only[Option.some.injEq]at hc;subst hc;exact T5 h bm bd ho hu h2 h4 (by rw[h5];exact fun h=>hn h) h1
  ·cases h2
 ·
  rename_i t x i ho;obtain⟨x',h1,hc⟩:=Option.bind_eq_some_iff.1 hc;obtain⟨i',h2,hc⟩:=Option.bind_eq_some_iff.1 hc;split at hc
  ·rename_i e ht;obtain⟨n,h4,rfl⟩:=Option.map_eq_some_iff.1 hc;exact Ub h bm bd ho ht h4 h1 h2
  ·rename_i m e ht;obtain⟨n,h4,rfl⟩:=Option.map_eq_some_iff.1 hc;exact UC h bm bd ho ht h4 h1 h2
  ·cases hc
 ·
  rename_i t x i ho;obtain⟨x',h1,hc⟩:=Option.bind_eq_some_iff.1 hc;obtain⟨i',h2,hc⟩:=Option.bind_eq_some_iff.1 hc;split at hc
  ·rename_i ht;simp only[Option.some.injEq]at hc;subst hc;exact T3 h bm bd ho ht h1 h2
  ·rename_i m e ht;split at hc
   ·rename_i ha hz;simp only[Option.some.injEq]at hc;subst hc;exact UB h bm bd ho ht ha hz h1 h2
   ·cases hc
  ·cases hc
 ·
  rename_i x i ho;obtain⟨x',h1,rfl⟩:=Option.map_eq_some_iff.1 hc;exact T2 h bm bd ho h1
 ·
  rename_i c ho;split at hc
  ·rename_i f nX;obtain⟨ps,h1,rfl⟩:=Option.map_eq_some_iff.1 hc;exact MS h bm bd ho nX h1
  ·rename_i x hnf nX;obtain⟨x',h1,hc⟩:=Option.bind_eq_some_iff.1 hc;obtain⟨ps,h2,rfl⟩:=Option.map_eq_some_iff.1 hc;exact MT h bm bd ho nX h1 h2
  ·rename_i nX;split at hc
   ·rename_i x t ha nV
    have ha:c.args=#[x]:=by simpa using congrArg List.toArray ha
    have nV:c.argTypes=#[t]:=by simpa using congrArg List.toArray nV
    split at hc
    ·rename_i e ht;obtain⟨x',h1,rfl⟩:=Option.map_eq_some_iff.1 hc;exact Ua h bm bd ho nX ha nV ht h1
    ·rename_i ht;obtain⟨x',h1,rfl⟩:=Option.map_eq_some_iff.1 hc;exact MM h bm bd ho nX ha nV ht h1
    ·rename_i kt e ht;obtain⟨x',h1,rfl⟩:=Option.map_eq_some_iff.1 hc;exact UE h bm bd ho nX ha nV ht h1
    ·cases hc
   ·cases hc
  ·rename_i nX;split at hc
   ·rename_i x ha
    have ha:c.args=#[x]:=by simpa using congrArg List.toArray ha
    obtain⟨x',h1,rfl⟩:=Option.map_eq_some_iff.1 hc;exact UO h bm bd ho nX ha h1
   ·cases hc
  ·rename_i nX;split at hc
   ·rename_i x n t u ha nV
    have ha:c.args=#[x,n]:=by simpa using congrArg List.toArray ha
    have nV:c.argTypes=#[t,u]:=by simpa using congrArg List.toArray nV
    split at hc
    ·rename_i e ht;split at hc
     ·rename_i hce;obtain⟨x',h1,hc⟩:=Option.bind_eq_some_iff.1 hc;obtain⟨n',h2,rfl⟩:=Option.map_eq_some_iff.1 hc;exact UP h bm bd ho nX ha nV ht (by simpa using hce) h1 h2
     ·cases hc
    ·cases hc
   ·cases hc
  ·rename_i nX;split at hc
   ·rename_i x y t u ha nV
    have ha:c.args=#[x,y]:=by simpa using congrArg List.toArray ha
    have nV:c.argTypes=#[t,u]:=by simpa using congrArg List.toArray nV
    split at hc
    ·obtain⟨e,h1,hc⟩:=Option.bind_eq_some_iff.1 hc;obtain⟨n,h2,hc⟩:=Option.bind_eq_some_iff.1 hc;obtain⟨b,h3,hc⟩:=Option.bind_eq_some_iff.1 hc;obtain⟨z,h4,hc⟩:=Option.bind_eq_some_iff.1 hc;split at hc
     ·rename_i hz
      have hz:n=1∧b=1∧z.length=1:=by simpa using hz
      obtain⟨hn1,hb1,I9⟩:=hz;rw[hn1]at h2;rw[hb1]at h3;obtain⟨x',h5,hc⟩:=Option.bind_eq_some_iff.1 hc;obtain⟨y',h6,hc⟩:=Option.bind_eq_some_iff.1 hc;split at hc
      ·rename_i e' hu;simp only[Option.some.injEq]at hc;subst hc;exact Gd h bm bd ho nX ha nV (k7 h1) h2 h3 h4 I9 (.inl ⟨e',hu⟩) h5 h6
      ·rename_i hu;simp only[Option.some.injEq]at hc;subst hc;exact Gd h bm bd ho nX ha nV (k7 h1) h2 h3 h4 I9 (.inr hu) h5 h6
      ·cases hc
     ·cases hc
    obtain⟨e,h1,hc⟩:=Option.bind_eq_some_iff.1 hc;obtain⟨n,h2,hc⟩:=Option.bind_eq_some_iff.1 hc;obtain⟨b,h3,hc⟩:=Option.bind_eq_some_iff.1 hc;obtain⟨z,h4,hc⟩:=Option.bind_eq_some_iff.1 hc;split at hc
    ·rename_i hz;obtain⟨x',h5,hc⟩:=Option.bind_eq_some_iff.1 hc;obtain⟨y',h6,hc⟩:=Option.bind_eq_some_iff.1 hc;split at hc
     ·rename_i e' hu;simp only[Option.some.injEq]at hc;subst hc;exact JD h bm bd ho nX ha nV (k7 h1) h2 h3 h4 hz (.inl ⟨e',hu⟩) h5 h6
     ·rename_i hu;split at hc
      ·rename_i hn;simp only[Option.some.injEq]at hc;subst hc;exact JD h bm bd ho nX ha nV (k7 h1) h2 h3 h4 hz (.inr ⟨hu,hn⟩) h5 h6
      ·cases hc
     ·cases hc
    ·cases hc
   ·cases hc
  ·rename_i nX;split at hc
   ·rename_i x y ha
    have ha:c.args=#[x,y]:=by simpa using congrArg List.toArray ha
    obtain⟨x',h1,hc⟩:=Option.bind_eq_some_iff.1 hc;obtain⟨y',h2,rfl⟩:=Option.map_eq_some_iff.1 hc;exact JB h bm bd (mx:=false) ho nX ha h1 h2
   ·cases hc
  ·rename_i nX;split at hc
   ·rename_i x y ha
    have ha:c.args=#[x,y]:=by simpa using congrArg List.toArray ha
    obtain⟨x',h1,hc⟩:=Option.bind_eq_some_iff.1 hc;obtain⟨y',h2,rfl⟩:=Option.map_eq_some_iff.1 hc;exact JB h bm bd (mx:=true) ho nX ha h1 h2
   ·cases hc
  ·cases hc
 ·cases hc
end
end Go.Am
end
section
namespace Go.Am
def isRef:AV→Prop
 |.dB ..|.ptr ..|.cW ..|.dt ..|.eR ..=>True
 |_=>False
section
variable {S S':Nat→Prop} {w:World} {ρ ρ':AV→Value→Prop} {φ:AV→AV}
 (hl:cA S w S' w) (hφ:∀x v,isRef x→ρ x v→aq S' w ρ' (φ x) v)
include hl hφ
theorem fx:∀(x:AV) {v:Value},aq S w ρ x v→aq S' w ρ' (jR φ x) v:=by
 intro x v h
 cases x with
 |dB i k=>simp only[aq]at h;exact hφ _ _ trivial h
 |ptr i k=>simp only[aq]at h;exact hφ _ _ trivial h
 |cW i k j o=>simp only[aq]at h;exact hφ _ _ trivial h
 |dt i=>simp only[aq]at h;exact hφ _ _ trivial h
 |eR i j=>simp only[aq]at h;exact hφ _ _ trivial h
 |pv p=>simp only[jR,aq]at h ⊢;exact aJ.later hl _ h
 |full r=>
  have:=aq.later (ρ:=ρ) (ρ':=fun _ _=>True) hl (fun _ _ _=>trivial) (.full r) h;simpa only[jR,aq]using this
 |fX r o=>
  have:=aq.later (ρ:=ρ) (ρ':=fun _ _=>True) hl (fun _ _ _=>trivial) (.fX r o) h;simpa only[jR,aq]using this
 |iJ t=>simpa only[jR,aq]using h
 |_=>simp only[jR,aq]
theorem mh:∀{xs:List AV} {vs:List Value},aF S w ρ xs vs→aF S' w ρ' (xs.map (jR φ)) vs
 |[],_,h=>by simpa only[List.map_nil,aF]using h
 |x::xs,_,h=>by
  simp only[aF]at h;obtain⟨v,r,rfl,h1,h2⟩:=h;simp only[List.map_cons,aF];exact⟨v,r,rfl,fx hl hφ x h1,mh h2⟩
theorem xa:∀{xs:List AV} {c:Array Value} {o:Nat},bz S w ρ xs c o→bz S' w ρ' (xs.map (jR φ)) c o
 |[],_,_,h=>by simp only[List.map_nil,bz]
 |x::xs,_,_,h=>by
  simp only[bz]at h;obtain⟨⟨v,hv,h1⟩,h2⟩:=h;simp only[List.map_cons,bz];exact⟨⟨v,hv,fx hl hφ x h1⟩,xa h2⟩
theorem xb:∀{rs:List (List AV)} {c:Array Value} {o:Nat},bR S w ρ rs c o→bR S' w ρ' (rs.map (·.map (jR φ))) c o
 |[],_,_,h=>by simp only[List.map_nil,bR]
 |x::xs,_,_,h=>by
  simp only[bR]at h;simp only[List.map_cons,bR,List.length_map];exact⟨xa hl hφ h.1,xb h.2⟩
theorem s8:∀(x:AV) {v:Value},aq S w ρ x v→aq S' w ρ' (lX φ x) v:=by
 intro x v h
 cases x with
 |agg cs=>simp only[lX,aq]at h ⊢;obtain⟨vs,rfl,h⟩:=h;exact⟨vs,rfl,mh hl hφ h⟩
 |ep cs=>simp only[lX,aq]at h ⊢;obtain⟨vs,rfl,h⟩:=h;exact⟨vs,rfl,mh hl hφ h⟩
 |gZ f cs=>simp only[lX,aq]at h ⊢;obtain⟨vs,rfl,h⟩:=h;exact⟨vs,rfl,mh hl hφ h⟩
 |B0 f cs=>simp only[lX,aq]at h ⊢;obtain⟨vs,rfl,h⟩:=h;exact⟨vs,rfl,mh hl hφ h⟩
 |lF rows=>
  simp only[lX,aq,List.length_map]at h ⊢;obtain⟨a,rfl,h⟩:=h;refine⟨a,rfl,?_⟩
  rcases h with h|⟨b,off,c,sz,h1,h2,h3,h4,h5⟩
  ·left;rw[h];rfl
  ·right
   refine⟨b,off,c,sz,h1,(hl b h2).1,(hl b h2).2.1.trans h3,fun r hr=>?_,xb hl hφ h5⟩;obtain⟨r0,Jc,rfl⟩:=List.mem_map.1 hr;rw[List.length_map];exact h4 r0 Jc
 |dB i k=>exact fx hl hφ (.dB i k) h
 |ptr i k=>exact fx hl hφ (.ptr i k) h
 |cW i k j o=>exact fx hl hφ (.cW i k j o) h
 |dt i=>exact fx hl hφ (.dt i) h
 |eR i j=>exact fx hl hφ (.eR i j) h
 |pv p=>exact fx hl hφ (.pv p) h
 |full r=>exact fx hl hφ (.full r) h
 |fX r o=>exact fx hl hφ (.fX r o) h
 |dead=>exact fx hl hφ .dead h
 |iJ t=>exact fx hl hφ (.iJ t) h
theorem zI:∀{xs:List AV} {vs:List Value},aF S w ρ xs vs→aF S' w ρ' (xs.map (lX φ)) vs
 |[],_,h=>by simpa only[List.map_nil,aF]using h
 |x::xs,_,h=>by
  simp only[aF]at h;obtain⟨v,r,rfl,h1,h2⟩:=h;simp only[List.map_cons,aF];exact⟨v,r,rfl,s8 hl hφ x h1,zI h2⟩
theorem uw:∀{xs:List AV} {c:Array Value} {o:Nat},bz S w ρ xs c o→bz S' w ρ' (xs.map (lX φ)) c o
 |[],_,_,h=>by simp only[List.map_nil,bz]
 |x::xs,_,_,h=>by
  simp only[bz]at h;obtain⟨⟨v,hv,h1⟩,h2⟩:=h;simp only[List.map_cons,bz];exact⟨⟨v,hv,s8 hl hφ x h1⟩,uw h2⟩
theorem zJ:∀{rs:List (List AV)} {c:Array Value} {o:Nat},bR S w ρ rs c o→bR S' w ρ' (rs.map (·.map (lX φ))) c o
 |[],_,_,h=>by simp only[List.map_nil,bR]
 |x::xs,_,_,h=>by
  simp only[bR]at h;simp only[List.map_cons,bR,List.length_map];exact⟨uw hl hφ h.1,zJ h.2⟩
theorem zK:∀{rs:List (List UInt8×AV)} {es:List MapEntry},fR S w ρ rs es→fR S' w ρ' (rs.map fun(s,v)=>(s,lX φ v)) es
 |[],_,h=>by simpa only[List.map_nil,fR]using h
 |(s,x)::rs,_,h=>by
  simp only[fR]at h;obtain⟨e,t,rfl,h1,h2,h3⟩:=h;simp only[List.map_cons,fR];exact⟨e,t,rfl,h1,s8 hl hφ x h2,zK h3⟩
omit hl hφ in
theorem H5 {t:TypeId} (hT:∀x t,isRef x→φ x≠.iJ t) {x:AV} (h:lX φ x=.iJ t):x=.iJ t:=by
 cases x with
 |iJ t'=>simpa only[lX,jR]using h
 |dB i k=>exact absurd h (hT _ _ trivial)
 |ptr i k=>exact absurd h (hT _ _ trivial)
 |cW i k j o=>exact absurd h (hT _ _ trivial)
 |dt i=>exact absurd h (hT _ _ trivial)
 |eR i j=>exact absurd h (hT _ _ trivial)
 |_=>simp[lX,jR]at h
theorem fU.cast (hT:∀x t,isRef x→φ x≠.iJ t) {γ γ':Nat→Option Nat} {id j:Nat} {ob:Obj} (hγ:γ' j=γ id) (h:fU γ S w ρ id ob):fU γ' S' w ρ' j (nM φ ob):=by
 cases ob with
 |cells cs=>
  obtain⟨b,c,e,h1,h2,h3,h4⟩:=h;refine⟨b,c,e,hγ.trans h1,h2,by rw[h3,List.length_map],uw hl hφ h4.1,fun t r he=>?_⟩
  cases cs with
  |nil=>simp at he
  |cons x q=>
   simp only[List.map_cons]at he
   injection he with e1 e2
   exact h4.2 t q (by rw[H5 hT e1])
 |cH t rs ver=>
  rcases h with⟨h1,h2⟩|⟨b,c,h1,h2,h3,h4,h5⟩
  ·exact .inl ⟨hγ.trans h1,h2⟩
  ·exact .inr ⟨b,c,hγ.trans h1,h2,h3,h4,bI.later hl rs h5⟩
 |rows sz rs ver=>
  rcases h with⟨h1,h2⟩|⟨b,c,e,h1,h2,h3,h4,h5⟩
  ·exact .inl ⟨hγ.trans h1,h2⟩
  ·exact .inr ⟨b,c,e,hγ.trans h1,h2,h3,h4,bI.later hl rs h5⟩
 |cf sz rs ver=>
  rcases h with⟨h1,h2⟩|⟨b,c,e,h1,h2,h3,h4,h5⟩
  ·exact .inl ⟨hγ.trans h1,by rw[h2];rfl⟩
  ·refine .inr ⟨b,c,e,hγ.trans h1,h2,by rw[List.length_map];exact h3,fun r hr=>?_,zJ hl hφ h5⟩;obtain⟨r0,Jc,rfl⟩:=List.mem_map.1 hr;rw[List.length_map];exact h4 r0 Jc
 |eL rs ver=>trivial
 |map kg vg kn rows=>
  obtain⟨b,es,ck,h1,h2,h3,h4⟩:=h;exact⟨b,es,ck,hγ.trans h1,h2,h3,bU.later hl rows h4⟩
 |iK rows=>
  obtain⟨b,es,ck,h1,h2,h3,h4⟩:=h;exact⟨b,es,ck,hγ.trans h1,h2,h3,zK hl hφ h4⟩
 |fz s pos=>
  obtain⟨b,h1,h2,h3⟩:=h;exact⟨b,hγ.trans h1,h2,h3⟩
 |er src seen=>
  simp only[nM,fU]at h ⊢;split at h
  ·obtain⟨b,h1,h2⟩:=h;exact⟨b,hγ.trans h1,h2⟩
  ·obtain⟨b,mb,es,ck,sb,h1,h2,h3,h4,h5,h6,h7⟩:=h;exact⟨b,mb,es,ck,sb,hγ.trans h1,h2,(hl mb h3).1,(hl mb h3).2.2.trans h4,h5,bU.later hl _ h6,h7⟩
  ·exact h
end
section
variable {P:Program} {w0:World} {own0:Nat→Prop} {hvs:List Value} {G:Nat→Option (List PV)} {S0:Nat→Prop}
 {γ γ':Nat→Option Nat} {S S':Nat→Prop} {st:St} {a:Act} {w:World}
theorem JW (l:List AV) (φ:AV→AV) (i:Nat):(l.map (lX φ)).getD i .dead=lX φ (l.getD i .dead):=by
 simp only[List.getD_eq_getElem?_getD,List.getElem?_map]
 cases l[i]?<;>rfl
theorem dj.cast (h:dj w0 own0 hvs G γ S st a w) {φ:AV→AV} {mem':List (Option Obj)} (hS:∀b,S b→S' b) (pS:∀b,S' b→S b∨∃i,γ i=some b)
  (hφ:∀x v,isRef x→Ref γ S w st.mem x v→aq S' w (Ref γ' S' w mem') (φ x) v)
  (rq:∀id ob,aA mem' id=some ob→fU γ' S' w (Ref γ' S' w mem') id ob)
  (hdom:∀i b,γ' i=some b→aA mem' i≠none) (hinj:∀i j b,γ' i=some b→γ' j=some b→i=j) (El:∀i b,γ' i=some b→¬S' b∧∃j,γ j=some b):
  dj w0 own0 hvs G γ' S' (st.Ec φ mem') a w:=by
 have hl:cA S w S' w:=fun b hb=>⟨hS b hb,rfl,rfl⟩
 exact{
     size:=by simp only[St.Ec,List.length_map];exact h.size
     slot:=fun i=>by
      have:=s8 hl hφ _ (h.slot i);simp only[St.slot,St.Ec]at this ⊢;rw[JW];exact this
     held:=zI hl hφ h.held
     defers:=h.defers,mem:=rq,qQ:=hdom,inj:=hinj
     own:=fun i b hi=>by
      obtain⟨h1,j,hj⟩:=El i b hi;exact⟨h1,(h.own j b hj).2⟩
     bound:=fun b hb=>by
      rcases pS b hb with hb|⟨i,hb⟩
      ·exact h.bound b hb
      ·exact h.dx i b hb
     dx:=fun i b hi=>by
      obtain⟨_,j,hj⟩:=El i b hi;exact h.dx j b hj
     nR:=fun g row hg=>by
      obtain⟨h1,c,h2,h3,h4⟩:=h.nR g row hg;exact⟨hS g h1,c,h2,b7.later hl row h3,h4⟩
     kept:=h.kept,os:=h.os,tape:=h.tape,output:=h.output,eF:=h.eF}
theorem gx {φ:AV→AV}:∀(mem:List (Option Obj)) (i:Nat),aA (mapM φ mem) i=(aA mem i).map (nM φ)
 |[],i=>by simp[mapM,aA]
 |none::r,0=>by simp[mapM,aA]
 |some o::r,0=>by simp[mapM,aA]
 |none::r,i+1=>by have:=gx (φ:=φ) r i;simpa[mapM,aA]using this
 |some o::r,i+1=>by have:=gx (φ:=φ) r i;simpa[mapM,aA]using this
theorem mZ:∀(mem:List (Option Obj)) (src:List (Option Nat)) (j:Nat),aA (pM mem src) j=match src[j]? with|some (some i)=>aA mem i|_=>none
 |mem,[],j=>by simp[pM,aA]
 |mem,none::r,0=>by simp[pM,aA]
 |mem,some i::r,0=>by simp[pM,aA]
 |mem,none::r,j+1=>by have:=mZ mem r j;simpa[pM,aA]using this
 |mem,some i::r,j+1=>by have:=mZ mem r j;simpa[pM,aA]using this
theorem su:∀{src:List (Option Nat)} {old k j:Nat},o7 old k src=some j→k≤j∧src[j-k]? =some (some old)
 |[],_,_,_,h=>by simp[o7]at h
 |none::r,old,k,j,h=>by
  simp only[o7]at h;obtain⟨h1,h2⟩:=su h;refine⟨by omega,?_⟩;rw[show j-k=(j-(k+1))+1 by omega];simpa using h2
 |some i::r,old,k,j,h=>by
  simp only[o7]at h;split at h
  ·rename_i hi;simp only[Option.some.injEq]at h;subst h
   have hi:i=old:=by simpa using hi
   subst hi;exact⟨Nat.le_refl _,by simp⟩
  ·obtain⟨h1,h2⟩:=su h;refine⟨by omega,?_⟩;rw[show j-k=(j-(k+1))+1 by omega];simpa using h2
theorem oF:∀{src:List (Option Nat)} {i:Nat},zd i src=true→∀j:Nat,src[j]?≠some (some i)
 |[],i,_,j=>by simp
 |none::r,i,h,j=>by
  cases j with
  |zero=>simp
  |succ j=>simpa using oF (src:=r) (by simpa only[zd]using h) j
 |some k::r,i,h,j=>by
  simp only[zd]at h;split at h
  ·cases h
  ·rename_i hk
   cases j with
   |zero=>intro e;simp only[List.getElem?_cons_zero,Option.some.injEq]at e;subst e;simp at hk
   |succ j=>simpa using oF h j
theorem p9:∀{src:List (Option Nat)},lx src=true→∀(i j k:Nat),src[i]? =some (some k)→src[j]? =some (some k)→i=j
 |[],_,i,j,k,h,_=>by simp at h
 |none::r,hn,i,j,k,h,h'=>by
  cases i with
  |zero=>simp at h
  |succ i=>
   cases j with
   |zero=>simp at h'
   |succ j=>have:=p9 (src:=r) (by simpa only[lx]using hn) i j k (by simpa using h) (by simpa using h');omega
 |some q::r,hn,i,j,k,h,h'=>by
  simp only[lx]at hn;split at hn
  ·rename_i hq
   cases i with
   |zero=>
    simp only[List.getElem?_cons_zero,Option.some.injEq]at h;subst h
    cases j with
    |zero=>rfl
    |succ j=>exact absurd (by simpa using h') (oF hq j)
   |succ i=>
    cases j with
    |zero=>
     simp only[List.getElem?_cons_zero,Option.some.injEq]at h';subst h';exact absurd (by simpa using h) (oF hq i)
    |succ j=>have:=p9 hn i j k (by simpa using h) (by simpa using h');omega
  ·cases hn
theorem gR {γ γ':Nat→Option Nat} {S S':Nat→Prop} {mem mem':List (Option Obj)} {φ:AV→AV} {i j:Nat} (hl:cA S w S' w) (hγ:γ' j=γ i) (hm:∀ob,aA mem i=some ob→aA mem' j=some (nM φ ob)):
  (∀k v,Ref γ S w mem (.dB i k) v→Ref γ' S' w mem' (.dB j k) v)∧(∀k v,Ref γ S w mem (.ptr i k) v→Ref γ' S' w mem' (.ptr j k) v)∧
  (∀k q o v,Ref γ S w mem (.cW i k q o) v→Ref γ' S' w mem' (.cW j k q o) v)∧(∀v,Ref γ S w mem (.dt i) v→Ref γ' S' w mem' (.dt j) v)∧(∀k v,Ref γ S w mem (.eR i k) v→Ref γ' S' w mem' (.eR j k) v):=by
 cases hg:aA mem i with
 |none=>refine⟨?_,?_,?_,?_,?_⟩<;>intros<;>simp_all [Ref]
 |some ob=>
  have hj:=hm ob hg;refine⟨fun k v h=>?_,fun k v h=>?_,fun k q o v h=>?_,fun v h=>?_,fun k v h=>?_⟩
  ·simp only[Ref,hg]at h;simp only[Ref,hj]
   cases ob with
   |rows sz rs bo=>
    refine⟨h.1,fun e=>?_⟩;obtain⟨a,cap,hv,hc,h4⟩:=h.2 e;exact⟨a,cap,hv,hc,h4.imp (fun h=>h) (fun⟨b,c,hb,h5⟩=>⟨b,c,hγ.trans hb,h5⟩)⟩
   |cH t rs bo=>
    refine⟨h.1,fun e=>?_⟩;obtain⟨a,cap,hv,hc,h4⟩:=h.2 e;exact⟨a,cap,hv,hc,h4.imp (fun h=>h) (fun⟨b,c,hb,h5⟩=>⟨b,c,hγ.trans hb,h5⟩)⟩
   |cf sz rs bo=>
    simp only[nM,List.length_map];refine⟨h.1,fun e=>?_⟩;obtain⟨a,cap,hv,hc,h4⟩:=h.2 e;exact⟨a,cap,hv,hc,h4.imp (fun h=>h) (fun⟨b,c,hb,h5⟩=>⟨b,c,hγ.trans hb,h5⟩)⟩
   |eL rs bo=>exact⟨h.1,fun e=>aJ.later hl _ (h.2 e)⟩
   |_=>exact h
  ·simp only[Ref,hg]at h;simp only[Ref,hj]
   cases ob with
   |cells cs=>obtain⟨b,hb,hv⟩:=h;exact⟨b,hγ.trans hb,hv⟩
   |fz=>obtain⟨b,hb,hv⟩:=h;exact⟨b,hγ.trans hb,hv⟩
   |er=>obtain⟨b,hb,hv⟩:=h;exact⟨b,hγ.trans hb,hv⟩
   |_=>exact h
  ·simp only[Ref,hg]at h;simp only[Ref,hj]
   cases ob with
   |rows sz rs bo=>
    refine⟨h.1,fun e=>?_⟩;obtain⟨b,hb,hv,hj⟩:=h.2 e;exact⟨b,hγ.trans hb,hv,hj⟩
   |cH t rs bo=>
    refine⟨h.1,fun e=>?_⟩;obtain⟨b,hb,hv,hj⟩:=h.2 e;exact⟨b,hγ.trans hb,hv,hj⟩
   |cf sz rs bo=>
    simp only[nM,List.length_map];refine⟨h.1,fun e=>?_⟩;obtain⟨b,hb,hv,hj⟩:=h.2 e;exact⟨b,hγ.trans hb,hv,hj⟩
   |eL rs bo=>
    refine⟨h.1,fun e=>?_⟩;obtain⟨b,o,c,hv,hs,hc,hr,hj⟩:=h.2 e;exact⟨b,o,c,hv,(hl b hs).1,(hl b hs).2.1.trans hc,b7.later hl _ hr,hj⟩
   |_=>exact h
  ·simp only[Ref,hg]at h;simp only[Ref,hj]
   cases ob with
   |map=>obtain⟨b,hb,hv⟩:=h;exact⟨b,hγ.trans hb,hv⟩
   |iK=>obtain⟨b,hb,hv⟩:=h;exact⟨b,hγ.trans hb,hv⟩
   |_=>exact h
  ·simp only[Ref,hg]at h;simp only[Ref,hj]
   cases ob with
   |map=>obtain⟨h0,b,es,ck,e,hb,h4⟩:=h;exact⟨h0,b,es,ck,e,hγ.trans hb,h4⟩
   |_=>exact h
theorem dj.nq (h:dj w0 own0 hvs G γ S st a w) {src:List (Option Nat)} (hn:lx src=true):
  ∃γ',dj w0 own0 hvs G γ' S (st.nq src) a w:=by
 let γ':Nat→Option Nat:=fun j=>match src[j]? with|some (some i)=>γ i|_=>none
 have hm:∀j i ob,src[j]? =some (some i)→aA st.mem i=some ob→aA (mapM (vL src) (pM st.mem src)) j=some (nM (vL src) ob):=by
  intro j i ob hj bH;rw[gx,mZ,hj];simp only[bH,Option.map_some]
 have hγ:∀j i,src[j]? =some (some i)→γ' j=γ i:=fun j i hj=>by simp only[γ',hj]
 have hl:=cA.refl S w
 have hφ:∀x v,isRef x→Ref γ S w st.mem x v→aq S w (Ref γ' S w (mapM (vL src) (pM st.mem src))) (vL src x) v:=by
  intro x v hx hr
  have key:∀i j,o7 i 0 src=some j→src[j]? =some (some i):=fun i j pI=>by have:=(su pI).2;simpa using this
  cases x with
  |dB i k=>
   simp only[vL];split
   ·rename_i j hj;simp only[aq];exact(gR hl (hγ j i (key i j hj)) (fun ob bH=>hm j i ob (key i j hj) bH)).1 k v hr
   ·simp only[aq]
  |ptr i k=>
   simp only[vL];split
   ·rename_i j hj;simp only[aq];exact(gR hl (hγ j i (key i j hj)) (fun ob bH=>hm j i ob (key i j hj) bH)).2.1 k v hr
   ·simp only[aq]
  |cW i k q o=>
   simp only[vL];split
   ·rename_i j hj;simp only[aq];exact(gR hl (hγ j i (key i j hj)) (fun ob bH=>hm j i ob (key i j hj) bH)).2.2.1 k q o v hr
   ·simp only[aq]
  |dt i=>
   simp only[vL];split
   ·rename_i j hj;simp only[aq];exact(gR hl (hγ j i (key i j hj)) (fun ob bH=>hm j i ob (key i j hj) bH)).2.2.2.1 v hr
   ·simp only[aq]
  |eR i k=>
   simp only[vL];split
   ·rename_i j hj;simp only[aq];exact(gR hl (hγ j i (key i j hj)) (fun ob bH=>hm j i ob (key i j hj) bH)).2.2.2.2 k v hr
   ·simp only[aq]
  |_=>exact hx.elim
 have hγ0:∀j b,γ' j=some b→∃i,src[j]? =some (some i)∧γ i=some b:=by
  intro j b hj;simp only[γ']at hj;split at hj
  ·rename_i i hi;exact⟨i,hi,hj⟩
  ·cases hj
 refine⟨γ',dj.cast h (fun b hb=>hb) (fun b hb=>.inl hb) hφ ?_ ?_ ?_ ?_⟩
 ·intro j ob bH;rw[gx,mZ]at bH;split at bH
  ·rename_i i hi
   cases hg:aA st.mem i with
   |none=>rw[hg]at bH;cases bH
   |some Uq=>
    rw[hg]at bH;simp only[Option.map_some,Option.some.injEq]at bH;subst bH;exact fU.cast hl hφ (fun x t hx=>by cases x<;>simp only[vL]<;>(try split)<;>simp) (hγ j i hi) (h.mem i Uq hg)
  ·cases bH
 ·intro j b hj;obtain⟨i,hi,hb⟩:=hγ0 j b hj
  cases hg:aA st.mem i with
  |none=>exact absurd hg (h.qQ i b hb)
  |some ob=>rw[hm j i ob hi hg];simp
 ·intro i j b hi hj;obtain⟨i',hY,hb⟩:=hγ0 i b hi;obtain⟨j',vN,gV⟩:=hγ0 j b hj;have:=h.inj i' j' b hb gV;subst this;exact p9 hn i j i' hY vN
 ·intro j b hj;obtain⟨i,hi,hb⟩:=hγ0 j b hj;exact⟨(h.own i b hb).1,i,hb⟩
theorem vk {mem:List (Option Obj)} {id:Nat} (hid:id<mem.length) (i:Nat):aA (ow mem id) i=if i=id then none else aA mem i:=by
 unfold aA ow
 by_cases h:i=id
 ·subst h;simp[List.getD_eq_getElem?_getD,hid]
 ·simp[List.getD_eq_getElem?_getD,List.getElem?_set_ne (Ne.symm h),h]
theorem dj.Ci (h:dj w0 own0 hvs G γ S st a w) {id:Nat} {ob:Obj} {f:AV→AV} (hft:∀x t,f x≠.iJ t) (hid:aA st.mem id=some ob)
  (hf:∀x v ρ',isRef x→bD x=some id→(match x with|.cW ..|.eR ..=>False|_=>True)→Ref γ S w st.mem x v→aq (fun b=>S b∨γ id=some b) w ρ' (f x) v):
  ∃γ' S',(∀b,S b→S' b)∧(∀b,S' b→S b∨∃i,γ i=some b)∧dj w0 own0 hvs G γ' S' (st.Ci id f) a w:=by
 have bL:=zk hid
 have hl:cA S w (fun b=>S b∨γ id=some b) w:=fun b hb=>⟨.inl hb,rfl,rfl⟩
 have hm:∀i ob,i≠id→aA st.mem i=some ob→aA (mapM (nN id f) (ow st.mem id)) i=some (nM (nN id f) ob):=by
  intro i ob hi bH;rw[gx,vk bL,if_neg hi,bH];rfl
 have hγ:∀i,i≠id→dw γ id none i=γ i:=fun i hi=>by simp only[dw,if_neg hi]
 have hφ:∀x v,isRef x→Ref γ S w st.mem x v→aq (fun b=>S b∨γ id=some b) w (Ref (dw γ id none) (fun b=>S b∨γ id=some b) w (mapM (nN id f) (ow st.mem id))) (nN id f x) v:=by
  intro x v hx hr
  cases x with
  |dB i k=>
   simp only[nN]
   cases hi:i==id with
   |true=>
    have hY:i=id:=by simpa using hi
    exact hf _ _ _ trivial (by simp only[bD,hY]) trivial hr
   |false=>
    have hY:i≠id:=by simpa using hi
    simp only[aq];exact(gR hl (hγ i hY) (fun ob bH=>hm i ob hY bH)).1 k v hr
  |ptr i k=>
   simp only[nN]
   cases hi:i==id with
   |true=>
    have hY:i=id:=by simpa using hi
    exact hf _ _ _ trivial (by simp only[bD,hY]) trivial hr
   |false=>
    have hY:i≠id:=by simpa using hi
    simp only[aq];exact(gR hl (hγ i hY) (fun ob bH=>hm i ob hY bH)).2.1 k v hr
  |cW i k q o=>
   simp only[nN]
   cases hi:i==id with
   |true=>simp only[aq]
   |false=>
    have hY:i≠id:=by simpa using hi
    simp only[aq];exact(gR hl (hγ i hY) (fun ob bH=>hm i ob hY bH)).2.2.1 k q o v hr
  |dt i=>
   simp only[nN]
   cases hi:i==id with
   |true=>
    have hY:i=id:=by simpa using hi
    exact hf _ _ _ trivial (by simp only[bD,hY]) trivial hr
   |false=>
    have hY:i≠id:=by simpa using hi
    simp only[aq];exact(gR hl (hγ i hY) (fun ob bH=>hm i ob hY bH)).2.2.2.1 v hr
  |eR i k=>
   simp only[nN]
   cases hi:i==id with
   |true=>simp only[aq]
   |false=>
    have hY:i≠id:=by simpa using hi
    simp only[aq];exact(gR hl (hγ i hY) (fun ob bH=>hm i ob hY bH)).2.2.2.2 k v hr
  |_=>exact hx.elim
 have hγ0:∀i b,dw γ id none i=some b→i≠id∧γ i=some b:=by
  intro i b hi;simp only[dw]at hi;split at hi
  ·cases hi
  ·rename_i dW;exact⟨dW,hi⟩
 refine⟨dw γ id none,fun b=>S b∨γ id=some b,fun b hb=>.inl hb,fun b hb=>hb.imp (fun h=>h) (fun h=>⟨id,h⟩),dj.cast h (fun b hb=>.inl hb) (fun b hb=>hb.imp (fun h=>h) (fun h=>⟨id,h⟩)) hφ ?_ ?_ ?_ ?_⟩
 ·intro j ob' bH;rw[gx,vk bL]at bH
  by_cases hj:j=id
  ·rw[if_pos hj]at bH;cases bH
  ·rw[if_neg hj]at bH
   cases hg:aA st.mem j with
   |none=>rw[hg]at bH;cases bH
   |some Uq=>
    rw[hg]at bH;simp only[Option.map_some,Option.some.injEq]at bH;subst bH;exact fU.cast hl hφ (fun x t hx=>by cases x<;>simp only[nN]<;>(try split)<;>first|exact hft _ _|simp) (hγ j hj) (h.mem j Uq hg)
 ·intro i b hi;obtain⟨dW,hb⟩:=hγ0 i b hi
  cases hg:aA st.mem i with
  |none=>exact absurd hg (h.qQ i b hb)
  |some ob=>rw[hm i ob dW hg];simp
 ·intro i j b hi hj;exact h.inj i j b (hγ0 i b hi).2 (hγ0 j b hj).2
 ·intro i b hi;obtain⟨dW,hb⟩:=hγ0 i b hi;refine⟨?_,i,hb⟩;rintro(hs|hs)
  ·exact(h.own i b hb).1 hs
  ·exact dW (h.inj i id b hb hs)
theorem lM:∀(mem:List (Option Obj)) (i:Nat),aA (pO mem) i=(aA mem i).map zeroV
 |[],i=>by simp[pO,aA]
 |none::r,0=>by simp[pO,aA]
 |some o::r,0=>by simp[pO,aA]
 |none::r,i+1=>by simpa[pO,aA]using lM r i
 |some o::r,i+1=>by simpa[pO,aA]using lM r i
theorem fU.zero {γ:Nat→Option Nat} {ρ:AV→Value→Prop} {id:Nat} {ob:Obj} (h:fU γ S w ρ id ob):fU γ S w ρ id (zeroV ob):=by
 cases ob<;>exact h
theorem dj.norm (h:dj w0 own0 hvs G γ S st a w):dj w0 own0 hvs G γ S st.norm a w:=by
 have hl:=cA.refl S w
 have hm:∀i ob,aA st.mem i=some ob→aA (pO (mapM (nO st.mem) st.mem)) i=some (zeroV (nM (nO st.mem) ob)):=by
  intro i ob bH;rw[lM,gx,bH];rfl
 have hφ:∀x v,isRef x→Ref γ S w st.mem x v→aq S w (Ref γ S w (pO (mapM (nO st.mem) st.mem))) (nO st.mem x) v:=by
  intro x v hx hr
  cases x with
  |dB i k=>
   cases hg:aA st.mem i with
   |none=>simp only[nO,hg,o8];simp only[aq]
   |some ob=>
    have hj:=hm i ob hg;simp only[Ref,hg]at hr
    cases ob with
    |rows sz rs ver=>
     simp only[nO,hg,o8]
     cases hk:k==ver with
     |false=>simp only[aq]
     |true=>
      have eZ:k=ver:=by simpa using hk
      simp only[aq,Ref,hj,nM,zeroV];exact⟨⟨Nat.le_refl _,hr.1.2⟩,fun _=>hr.2 eZ⟩
    |cH t rs ver=>
     simp only[nO,hg,o8]
     cases hk:k==ver with
     |false=>simp only[aq]
     |true=>
      have eZ:k=ver:=by simpa using hk
      simp only[aq,Ref,hj,nM,zeroV];exact⟨⟨Nat.le_refl _,hr.1.2⟩,fun _=>hr.2 eZ⟩
    |cf sz rs ver=>
     simp only[nO,hg,o8]
     cases hk:k==ver with
     |false=>simp only[aq]
     |true=>
      have eZ:k=ver:=by simpa using hk
      simp only[aq,Ref,hj,nM,zeroV,List.length_map];exact⟨⟨Nat.le_refl _,hr.1.2⟩,fun _=>hr.2 eZ⟩
    |eL rs ver=>
     simp only[nO,hg,o8]
     cases hk:k==ver with
     |false=>simp only[aq]
     |true=>
      have eZ:k=ver:=by simpa using hk
      simp only[aq,Ref,hj,nM,zeroV];exact⟨⟨Nat.le_refl _,hr.1.2⟩,fun _=>hr.2 eZ⟩
    |_=>exact hr.elim
  |cW i k q o=>
   cases hg:aA st.mem i with
   |none=>simp only[nO,hg,o8];simp only[aq]
   |some ob=>
    have hj:=hm i ob hg;simp only[Ref,hg]at hr
    cases ob with
    |rows sz rs ver=>
     simp only[nO,hg,o8]
     cases hk:k==ver with
     |false=>simp only[aq]
     |true=>
      have eZ:k=ver:=by simpa using hk
      simp only[aq,Ref,hj,nM,zeroV];exact⟨⟨Nat.le_refl _,hr.1.2⟩,fun _=>hr.2 eZ⟩
    |cH t rs ver=>
     simp only[nO,hg,o8]
     cases hk:k==ver with
     |false=>simp only[aq]
     |true=>
      have eZ:k=ver:=by simpa using hk
      simp only[aq,Ref,hj,nM,zeroV];exact⟨⟨Nat.le_refl _,hr.1.2⟩,fun _=>hr.2 eZ⟩
    |cf sz rs ver=>
     simp only[nO,hg,o8]
     cases hk:k==ver with
     |false=>simp only[aq]
     |true=>
      have eZ:k=ver:=by simpa using hk
      simp only[aq,Ref,hj,nM,zeroV,List.length_map];exact⟨⟨Nat.le_refl _,hr.1.2⟩,fun _=>hr.2 eZ⟩
    |eL rs ver=>
     simp only[nO,hg,o8]
     cases hk:k==ver with
     |false=>simp only[aq]
     |true=>
      have eZ:k=ver:=by simpa using hk
      simp only[aq,Ref,hj,nM,zeroV];exact⟨⟨Nat.le_refl _,hr.1.2⟩,fun _=>hr.2 eZ⟩
    |_=>exact hr.elim
  |ptr i k=>
   cases hg:aA st.mem i with
   |none=>simp only[Ref,hg]at hr
   |some ob=>
    have hj:=hm i ob hg;simp only[Ref,hg]at hr;simp only[nO,aq,Ref,hj]
    cases ob<;>first|exact hr|exact hr.elim
  |dt i=>
   cases hg:aA st.mem i with
   |none=>simp only[Ref,hg]at hr
   |some ob=>
    have hj:=hm i ob hg;simp only[Ref,hg]at hr;simp only[nO,aq,Ref,hj]
    cases ob<;>first|exact hr|exact hr.elim
  |eR i k=>
   cases hg:aA st.mem i with
   |none=>simp only[Ref,hg]at hr
   |some ob=>
    have hj:=hm i ob hg;simp only[Ref,hg]at hr;simp only[nO,aq,Ref,hj]
    cases ob<;>first|exact hr|exact hr.elim
  |_=>exact hx.elim
 refine dj.cast h (fun b hb=>hb) (fun b hb=>.inl hb) hφ ?_ ?_ ?_ ?_
 ·intro j ob bH;rw[lM,gx]at bH
  cases hg:aA st.mem j with
  |none=>rw[hg]at bH;cases bH
  |some Uq=>
   rw[hg]at bH;simp only[Option.map_some,Option.some.injEq]at bH;subst bH;exact fU.zero (fU.cast hl hφ (fun x t hx=>by cases x<;>first|exact hx.elim|(simp only[nO]<;>(try split)<;>(try split)<;>simp)) rfl (h.mem j Uq hg))
 ·intro j b hj
  cases hg:aA st.mem j with
  |none=>exact absurd hg (h.qQ j b hj)
  |some ob=>rw[hm j ob hg];simp
 ·exact fun i j b hi hj=>h.inj i j b hi hj
 ·exact fun j b hj=>⟨(h.own j b hj).1,j,hj⟩
end
end Go.Am
end
section
namespace Go.Am
section
variable {P:Program} {w0:World} {own0:Nat→Prop} {hvs:List Value} {G:Nat→Option (List PV)} {S0:Nat→Prop}
 {γ γ':Nat→Option Nat} {S S':Nat→Prop} {st:St} {a:Act} {w:World}
theorem rD {ks:List Nat}:∀(l:List AV) (k i:Nat),(iC ks k l).getD i .dead=.dead∨(iC ks k l).getD i .dead=l.getD i .dead
 |[],_,i=>.inl (by simp[iC])
 |x::r,k,i=>by
  cases i with
  |zero=>
   simp only[iC,List.getD_cons_zero]
   cases ks.contains k
   ·exact .inl rfl
   ·exact .inr rfl
  |succ i=>
   simp only[iC,List.getD_cons_succ];exact rD r (k+1) i
theorem rE {ks:List Nat}:∀(l:List AV) (k:Nat),(iC ks k l).length=l.length
 |[],_=>rfl
 |x::r,k=>by simp[iC,rE r]
theorem bR.plain {ρ:AV→Value→Prop}:∀{rs:List (List PV)} {c:Array Value} {o:Nat},bR S w ρ (rs.map (·.map .pv)) c o↔bI S w rs c o
 |[],_,_=>by simp only[List.map_nil,bR,bI]
 |r::rs,c,o=>by
  have key:∀(ps:List PV) (o:Nat),bz S w ρ (ps.map .pv) c o↔b7 S w ps c o:=by
   intro ps
   induction ps with
   |nil=>intro o;simp only[List.map_nil,bz,b7]
   |cons p ps ih=>intro o;simp only[List.map_cons,bz,b7,aq,ih]
  simp only[List.map_cons,bR,bI,key,List.length_map,bR.plain]
theorem AR {s s':St} (hf:Fg s s'):∀{a:Act} {w:World},ie w0 own0 hvs G S0 s a w→ie w0 own0 hvs G S0 s' a w:=by
 induction hf with
 |refl s=>intro a w h;exact h
 |trans _ _ ih1 ih2=>intro a w h;exact ih2 (ih1 h)
 |ui s ks=>
  intro a w h;obtain⟨γ,S,bm,bd,h⟩:=h;refine⟨γ,S,bm,bd,{h with size:=?_,slot:=?_,held:=h.held,defers:=h.defers,mem:=h.mem,qQ:=h.qQ}⟩
  ·simp only[St.ui,rE];exact h.size
  ·intro i
   rcases rD (ks:=ks) s.cY 0 i with h1|h1
   ·have e:(s.ui ks).slot i=.dead:=h1;rw[e];simp only[aq]
   ·have e:(s.ui ks).slot i=s.slot i:=h1;rw[e];exact h.slot i
 |nq s src hn=>
  intro a w h;obtain⟨γ,S,bm,bd,h⟩:=h;obtain⟨γ',h'⟩:=dj.nq h hn;exact⟨γ',S,bm,bd,h'⟩
 |norm s=>
  intro a w h;obtain⟨γ,S,bm,bd,h⟩:=h;exact⟨γ,S,bm,bd,dj.norm h⟩
 |@ze s id sz ver rs hm=>
  intro a w h;obtain⟨γ,S,bm,bd,h⟩:=h
  obtain⟨γ',S',k1,k2,k3⟩:=dj.Ci h (fun x t=>by cases x<;>simp only[jj]<;>(try split)<;>simp) hm (f:=jj rs ver) (fun x v ρ' hx hid dW hr=>by
   cases x with
   |dB i k=>
    simp only[bD,Option.some.injEq]at hid;subst hid;simp only[Ref,hm]at hr;simp only[jj]
    cases hk:k==ver with
    |false=>simp only[aq]
    |true=>
     have hk:k=ver:=by simpa using hk
     obtain⟨a1,cap,q1,q2,q3⟩:=hr.2 hk;simp only[aq,aJ];refine⟨a1,cap,q1,by simpa using q2,?_⟩
     rcases q3 with q3|⟨b,c,r1,r2,r3,r4⟩
     ·left;exact⟨List.eq_nil_of_length_eq_zero (by omega),trivial⟩
     ·right
      obtain⟨c1,e1,t1,t2,t3,t4⟩:=rows_block r1 (h.mem i _ hm);exact⟨b,0,c1,sz,r2,.inr r1,by simp[ag,t1],t3,by simp[aS],bI.later (fun b hb=>⟨.inl hb,rfl,rfl⟩) _ t4,by simp only[bI]⟩
   |ptr i k=>simp only[jj,aq]
   |dt i=>simp only[jj,aq]
   |cW=>exact dW.elim
   |eR=>exact dW.elim
   |_=>exact hx.elim)
  exact⟨γ',S',fun b hb=>k1 b (bm b hb),fun b hb=>by
   rcases k2 b hb with hb|⟨i,hb⟩
   ·exact bd b hb
   ·exact .inr (h.own i b hb).2,k3⟩
 |@T0 s id kn kg vg rows hm=>
  intro a w h;obtain⟨γ,S,bm,bd,h⟩:=h
  obtain⟨γ',S',k1,k2,k3⟩:=dj.Ci h (fun x t=>by cases x<;>simp[pN]) hm (f:=pN kg vg kn rows) (fun x v ρ' hx hid dW hr=>by
   cases x with
   |dt i=>
    simp only[bD,Option.some.injEq]at hid;subst hid;simp only[Ref,hm]at hr;obtain⟨b,hb,rfl⟩:=hr;obtain⟨b',es,ck,gV,hh,uu,nI⟩:=h.mem i _ hm;rw[hb]at gV;cases gV;simp only[pN,aq,aJ];exact⟨b,es,ck,rfl,.inr hb,by simp[fc,hh],uu,bU.later (fun b hb=>⟨.inl hb,rfl,rfl⟩) _ nI⟩
   |dB i k=>simp only[pN,aq]
   |ptr i k=>simp only[pN,aq]
   |cW=>exact dW.elim
   |eR=>exact dW.elim
   |_=>exact hx.elim)
  exact⟨γ',S',fun b hb=>k1 b (bm b hb),fun b hb=>by
   rcases k2 b hb with hb|⟨i,hb⟩
   ·exact bd b hb
   ·exact .inr (h.own i b hb).2,k3⟩
 |@Jm s id cs ps hm rj=>
  intro a w h;obtain⟨γ,S,bm,bd,h⟩:=h
  obtain⟨γ',S',k1,k2,k3⟩:=dj.Ci h (fun x t=>by cases x<;>simp only[kU]<;>(try split)<;>simp) hm (f:=kU ps) (fun x v ρ' hx hid dW hr=>by
   cases x with
   |ptr i k=>
    simp only[bD,Option.some.injEq]at hid;subst hid;simp only[Ref,hm]at hr;obtain⟨b,hb,rfl⟩:=hr;obtain⟨b',c,e,gV,hh,dZ,Xu⟩:=h.mem i _ hm;rw[hb]at gV;cases gV;obtain⟨us,u1,u2,u3⟩:=bz.list Xu.1;have hL:=zl h bm bd rj u1;have hC:b7 (fun b=>S b∨γ i=some b) w ps c 0:=b7.eG (a7.later (fun b hb=>⟨.inl hb,rfl,rfl⟩) _ hL) u3
    cases k with
    |zero=>
     simp only[kU,aq,aJ];exact⟨b,0,c,rfl,.inr hb,by simp[ag,hh],hC⟩
    |succ k=>
     simp only[kU,aq];exact⟨b,0,c,by rw[Nat.zero_add],.inr hb,by simp[ag,hh],hC⟩
   |dB i k=>simp only[kU,aq]
   |dt i=>simp only[kU,aq]
   |cW=>exact dW.elim
   |eR=>exact dW.elim
   |_=>exact hx.elim)
  exact⟨γ',S',fun b hb=>k1 b (bm b hb),fun b hb=>by
   rcases k2 b hb with hb|⟨i,hb⟩
   ·exact bd b hb
   ·exact .inr (h.own i b hb).2,k3⟩
 |@plain s id sz ver rs rs' hm he=>
  intro a w h;obtain⟨γ,S,bm,bd,h⟩:=h;subst he;refine⟨γ,S,bm,bd,dj.setObj h hm (fun x v hx hr=>?_) (fun hρ=>?_)⟩
  ·cases x with
   |dB i k=>
    simp only[bD,Option.some.injEq]at hx;subst hx;simp only[Ref,hm,List.length_map]at hr;simp only[Ref,St.aC,aE (bQ hm),if_true];exact hr
   |cW i k q o=>
    simp only[bD,Option.some.injEq]at hx;subst hx;simp only[Ref,hm,List.length_map]at hr;simp only[Ref,St.aC,aE (bQ hm),if_true];exact hr
   |ptr i k=>simp only[bD,Option.some.injEq]at hx;subst hx;simp only[Ref,hm]at hr
   |dt i=>simp only[bD,Option.some.injEq]at hx;subst hx;simp only[Ref,hm]at hr
   |eR i k=>simp only[bD,Option.some.injEq]at hx;subst hx;simp only[Ref,hm]at hr
   |_=>simp[bD]at hx
  ·have hO:=h.mem id _ hm
   rcases hO with⟨h1,h2⟩|⟨b,c,e,h1,h2,h3,h4,h5⟩
   ·left;exact⟨h1,by simpa using h2⟩
   ·right
    exact⟨b,c,e,h1,h2,by simpa using h3,fun r hr=>by simpa using h4 _ (List.mem_map_of_mem (f:=fun l=>l.map AV.pv) hr),bR.plain.1 h5⟩
 |@X0 s id sz ver rs hm=>
  intro a w h;obtain⟨γ,S,bm,bd,h⟩:=h;refine⟨γ,S,bm,bd,dj.setObj h hm (fun x v hx hr=>?_) (fun hρ=>?_)⟩
  ·cases x with
   |dB i k=>
    simp only[bD,Option.some.injEq]at hx;subst hx;simp only[Ref,hm]at hr;simp only[Ref,St.aC,aE (bQ hm),if_true,List.length_map];exact hr
   |cW i k q o=>
    simp only[bD,Option.some.injEq]at hx;subst hx;simp only[Ref,hm]at hr;simp only[Ref,St.aC,aE (bQ hm),if_true,List.length_map];exact hr
   |ptr i k=>simp only[bD,Option.some.injEq]at hx;subst hx;simp only[Ref,hm]at hr
   |dt i=>simp only[bD,Option.some.injEq]at hx;subst hx;simp only[Ref,hm]at hr
   |eR i k=>simp only[bD,Option.some.injEq]at hx;subst hx;simp only[Ref,hm]at hr
   |_=>simp[bD]at hx
  ·have hO:=h.mem id _ hm
   rcases hO with⟨h1,h2⟩|⟨b,c,e,h1,h2,h3,h4,h5⟩
   ·left;exact⟨h1,by rw[h2];rfl⟩
   ·right
    refine⟨b,c,e,h1,h2,by rw[List.length_map];exact h3,fun r hr=>?_,bR.plain.2 h5⟩;obtain⟨r0,Jc,rfl⟩:=List.mem_map.1 hr;rw[List.length_map];exact h4 r0 Jc
 |@full s d rows hs=>
  intro a w h;obtain⟨γ,S,bm,bd,h⟩:=h;have hd:=h.slot d;rw[hs]at hd;have:=h.put (some d) (v:=.pv (.sl rows [])) (u:=a.tmps.getD d undef) (by simp only[aq];exact fD (γ:=γ) (st:=s) (.full rows) (by simp only[AV.flat]) hd);refine⟨γ,S,bm,bd,?_⟩
  have e:a.put (some d) (a.tmps.getD d undef)=a:=by
   cases a with
   |mk tmps defers=>
    simp only[Act.put]
    congr 1
    apply Array.ext_getElem?
    intro i
    by_cases hi:i=d
    ·subst hi
     by_cases bL:i<tmps.size
     ·simp[bL]
     ·simp[bL]
    ·simp[Array.getElem?_setIfInBounds_ne (Ne.symm hi)]
  rw[e]at this;exact this
 |@own s d id sz hs hm hle=>
  intro a w h;obtain⟨γ,S,bm,bd,h⟩:=h;have hd:=h.slot d;rw[hs]at hd;simp only[aq]at hd;obtain⟨a0,hv,_⟩:=hd;have h':=dj.Ek h hm hle sz 0
  have:=h'.put (some d) (v:=.dB id 0) (u:=a.tmps.getD d undef) (by
   simp only[aq,Ref,St.aC,aE hle,if_true]
   exact⟨⟨Nat.le_refl _,by rw[hv];rfl⟩,fun _=>⟨a0,0,by simpa using hv,by simp,.inl rfl⟩⟩)
  refine⟨γ,S,bm,bd,?_⟩
  have e:a.put (some d) (a.tmps.getD d undef)=a:=by
   cases a with
   |mk tmps defers=>
    simp only[Act.put]
    congr 1
    apply Array.ext_getElem?
    intro i
    by_cases hi:i=d
    ·subst hi
     by_cases bL:i<tmps.size
     ·simp[bL]
     ·simp[bL]
    ·simp[Array.getElem?_setIfInBounds_ne (Ne.symm hi)]
  rw[e]at this;exact this
 |grow s n=>
  intro a w h;obtain⟨γ,S,bm,bd,h⟩:=h
  have hg:∀i,aA (s.mem++List.replicate n none) i=aA s.mem i:=by
   intro i;unfold aA
   by_cases hi:i<s.mem.length
   ·simp[List.getD_eq_getElem?_getD,List.getElem?_append_left hi]
   ·simp[List.getD_eq_getElem?_getD,List.getElem?_append_right (Nat.le_of_not_lt hi),List.getElem?_eq_none (Nat.le_of_not_lt hi),List.getElem?_replicate];split<;>rfl
  have hρ:∀x v,Ref γ S w s.mem x v→Ref γ S w (s.mem++List.replicate n none) x v:=
   Ref.later (cA.refl S w) (fun id ob hm=>⟨by rw[hg];exact hm,rfl,fun _ _=>⟨rfl,rfl⟩⟩)
  refine⟨γ,S,bm,bd,{h with slot:=fun i=>aq.later (cA.refl S w) hρ _ (h.slot i),held:=aF.later (cA.refl S w) hρ _ h.held,defers:=h.defers,mem:=fun id ob hm=>?_,qQ:=fun i b hb=>?_}⟩
  ·rw[hg]at hm;exact fU.later (cA.refl S w) hρ rfl (fun _ _=>rfl) (h.mem id ob hm)
  ·rw[hg];exact h.qQ i b hb
end
end Go.Am
end
