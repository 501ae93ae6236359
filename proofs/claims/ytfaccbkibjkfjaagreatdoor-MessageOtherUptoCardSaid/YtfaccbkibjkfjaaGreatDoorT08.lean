import Derived.RangeFuncIn
import Derived.RangeFuncRecord
import Derived.RangeFuncLeaves
import Derived.RangeFuncCalls
import Derived.OrdersIn
import Derived.TacticsIn
import Derived.Test.YtfaccbkibjkfjaaGreatDoorT07
import Derived.Test.YtfaccbkibjkfjaaGreatDoorT05
set_option linter.all false
set_option maxRecDepth 100000
set_option maxHeartbeats 1000000
section
namespace Go.Am
def eW (p:Nat→Prop) (n:Nat) (r:Int):Prop:=((∀k,k<n→¬p k)∧r= -1)∨∃v,v<n∧p v∧(∀k,k<v→¬p k)∧r=Int.ofNat v
theorem eW.ex (p:Nat→Prop) (n:Nat):∃r,eW p n r:=by
 have:(∀k,k<n→¬p k)∨∃v,v<n∧p v∧∀k,k<v→¬p k:=by
  induction n with
  |zero=>exact Or.inl (fun k h=>by omega)
  |succ n ih=>
   rcases ih with h|⟨v,h1,h2,h3⟩
   ·by_cases hp:p n
    ·exact Or.inr ⟨n,by omega,hp,h⟩
    ·left
     intro k hk
     by_cases e:k=n
     ·subst e;exact hp
     ·exact h k (by omega)
   ·exact Or.inr ⟨v,by omega,h2,h3⟩
 rcases this with h|⟨v,h1,h2,h3⟩
 ·exact⟨_,.inl ⟨h,rfl⟩⟩
 ·exact⟨_,.inr ⟨v,h1,h2,h3,rfl⟩⟩
theorem eW.at {p:Nat→Prop} {n:Nat} {r:Int} (h:eW p n r) {v:Nat} (hv:v<n) (hp:p v) (hk:∀k,k<v→¬p k):r=Int.ofNat v:=by
 rcases h with⟨h,-⟩|⟨u,h1,h2,h3,h4⟩
 ·exact absurd hp (h v hv)
 ·rcases qcG u v with hl|hl|hl
  ·exact absurd h2 (hk u hl)
  ·subst hl;exact h4
  ·exact absurd hp (h3 v hl)
theorem eW.none {p:Nat→Prop} {n:Nat} {r:Int} (h:eW p n r) (hk:∀k,k<n→¬p k):r= -1:=by
 rcases h with⟨-,h⟩|⟨u,h1,h2,h3,h4⟩
 ·exact h
 ·exact absurd h2 (hk u h1)
theorem eW.iff {p:Nat→Prop} {n:Nat} {r:Int} (h:eW p n r):0≤r↔∃v,v<n∧p v:=by
 rcases h with⟨h,rfl⟩|⟨u,h1,h2,h3,rfl⟩
 ·constructor
  ·intro h;omega
  ·rintro⟨v,hv,hp⟩;exact absurd hp (h v hv)
 ·constructor
  ·intro _;exact⟨u,h1,h2⟩
  ·intro _;simp
theorem vW {C:CT} {A:Ar} {I:IC} {x:AI} {xs:List AI} {r:List Item} {st s0:St} {Q:Ex→St→Prop} (hf:Fg st s0) (h:bH C A I (.ops (x::xs)::r) Q .normal s0):bH C A I (.ops (x::xs)::r) Q .normal st:=by
 simp only[bH,bP]at h ⊢;obtain⟨s1,h1,h2⟩:=h;exact⟨s1,Fg.trans hf h1,h2⟩
theorem BA {C:CT} {A:Ar} {I:IC} {is:List Item} {st:St} {Q:Ex→St→Prop} (h:bH C A I is Q .normal st):(bp.go st is).holds C A I Q:=h
theorem GU {C:CT} {A:Ar} {I:IC} {is:List Item} {p:Nat→Prop} {st:Nat→St} {Q:Ex→St→Prop} (h:∀i,p i→bH C A I is Q .normal (st i)):(bp.all p st is).holds C A I Q:=h
theorem Fg.M0 {s s':St} {id:Nat} {cs:List AV} {ps:List PV} (h1:aj s.mem id=some (.cells cs)) (h2:AV.lQ cs=some ps) (h3:s.AP id (j9 ps)=s'):Fg s s':=h3▸Fg.HU h1 h2
theorem Fg.ZC {s s':St} {id kn:Nat} {kg vg:Bool} {rows:List (List PV)} (h1:aj s.mem id=some (.map kg vg kn rows)) (h3:s.AP id (oF kg vg kn rows)=s'):Fg s s':=h3▸Fg.S4 h1
theorem Fg.sC {s s':St} {id sz bq:Nat} {rs:List (List PV)} (h1:aj s.mem id=some (.rows sz rs bq)) (h3:s.AP id (iP rs bq)=s'):Fg s s':=h3▸Fg.AQ h1
end Go.Am
end
section
namespace Go.Am
def Q4 (n:Nat):AV→AV
 |.c8 i v=>.c8 (n+i) v
 |.pv p=>.pv p
 |.full r=>.full r
 |_=>.dead
def ZF (n:Nat):AV→AV
 |.agg cs=>.agg (cs.map (Q4 n))
 |x=>Q4 n x
def ZG (n:Nat):AV→AV
 |.eN cs=>.eN (cs.map (ZF n))
 |x=>ZF n x
theorem tX {os:List (Nat×List (List PV))} {i:Nat} {ob:Obj} (h:aj (eU os) i=some ob):∃sz rs,ob=.rows sz rs 0:=by
 unfold aj eU at h;rw[qab,qbO]at h
 cases ho:os[i]? with
 |none=>rw[ho]at h;simp at h
 |some o=>rw[ho]at h;simp at h;exact⟨_,_,h.symm⟩
theorem nN {m m':List (Option Obj)} (i:Nat):aj (m++m') i=if i<m.length then aj m i else aj m' (i-m.length):=by
 unfold aj
 by_cases h:i<m.length
 ·simp[qab,qaQ h,h]
 ·simp[qab,qaV (qby h),h]
section
variable {γ:Nat→Option Nat} {γ':Nat→Option Nat} {S:Nat→Prop} {w:World} {m m':List (Option Obj)}
theorem Fk (hγ:∀i,γ' (m.length+i)=γ i) {x:AV} {v:Value} (h:lF S w (Ref γ S w m') x v):lF S w (Ref γ' S w (m++m')) (Q4 m.length x) v:=by
 cases x with
 |c8 i bq=>
  simp only[Q4,lF,Ref]at h ⊢;rw[nN,qai (by omega),qcC,hγ];exact h
 |pv p=>simpa only[Q4,lF]using h
 |full r=>simpa only[Q4,lF]using h
 |_=>simp only[Q4,lF]
theorem BJ (hγ:∀i,γ' (m.length+i)=γ i):∀{xs:List AV} {vs:List Value},au S w (Ref γ S w m') xs vs→au S w (Ref γ' S w (m++m')) (xs.map (Q4 m.length)) vs
 |[],vs,h=>by simpa only[qaF,au]using h
 |x::xs,vs,h=>by
  simp only[qaj,au]at h ⊢;obtain⟨v,r,rfl,h1,h2⟩:=h;exact⟨v,r,rfl,Fk hγ h1,BJ hγ h2⟩
theorem Fl (hγ:∀i,γ' (m.length+i)=γ i) {x:AV} {v:Value} (h:lF S w (Ref γ S w m') x v):lF S w (Ref γ' S w (m++m')) (ZF m.length x) v:=by
 cases x with
 |agg cs=>
  simp only[ZF,lF]at h ⊢;obtain⟨vs,rfl,h⟩:=h;exact⟨vs,rfl,BJ hγ h⟩
 |_=>exact Fk hγ h
theorem BK (hγ:∀i,γ' (m.length+i)=γ i):∀{xs:List AV} {vs:List Value},au S w (Ref γ S w m') xs vs→au S w (Ref γ' S w (m++m')) (xs.map (ZF m.length)) vs
 |[],vs,h=>by simpa only[qaF,au]using h
 |x::xs,vs,h=>by
  simp only[qaj,au]at h ⊢;obtain⟨v,r,rfl,h1,h2⟩:=h;exact⟨v,r,rfl,Fl hγ h1,BK hγ h2⟩
theorem Na (hγ:∀i,γ' (m.length+i)=γ i) {x:AV} {v:Value} (h:lF S w (Ref γ S w m') x v):lF S w (Ref γ' S w (m++m')) (ZG m.length x) v:=by
 cases x with
 |eN cs=>
  simp only[ZG,lF]at h ⊢;obtain⟨vs,rfl,h⟩:=h;exact⟨vs,rfl,BK hγ h⟩
 |_=>exact Fl hγ h
end
theorem yD {γ γ':Nat→Option Nat} {S:Nat→Prop} {w:World} {ρ ρ':AV→Value→Prop} {id mD:Nat} {ob:Obj} (hr:∃sz rs,ob=.rows sz rs 0) (hγ:γ' mD=γ id) (h:eK γ S w ρ id ob):eK γ' S w ρ' mD ob:=by
 obtain⟨sz,rs,rfl⟩:=hr;simp only[eK]at h ⊢;rw[hγ];exact h
theorem BL {P:Program} {G:Nat→Option (List PV)} {f:FuncId} {args:List AV} {st:St} {K:AV→St→Prop} {ps:List PV} {os:List (Nat×List (List PV))} {r:AV} (hF:oQ P G f ps os r) (hl:dB st.mem args=some (ps,false))
  (hK:K (ZG st.mem.length r) ⟨st.slots,st.held,st.base,st.mem++eU os⟩):Hf P G f args st K:=by
 intro w0 own0 hvs S0 γ S a w vs bg Cy jq eQ;have Dk:aM S w ps vs:=aM.later (fun b hb=>⟨hb.elim id (fun h=>nomatch h.1),rfl,rfl⟩) _ (ac5 jq hl eQ);refine dN.mono (fun v w' hq=>?_) (hF S w vs jq.bound jq.jn Dk);obtain⟨hb,γf,Sf,h1,h2,h3,h4,h5,h6⟩:=hq;obtain⟨hg,K3,hρ⟩:=dW.grow jq (w':=w') (S':=Sf) hb.block hb.size hb.os hb.tape hb.output h1 h2;obtain⟨n,hn⟩:∃n,n=st.mem.length:=⟨_,rfl⟩
 obtain⟨γ',hγ'⟩:∃γ':Nat→Option Nat,γ'=fun i=>if i<n then γ i else γf (i-n):=⟨_,rfl⟩
 have CL:∀i,i<n→γ' i=γ i:=fun i hi=>by rw[hγ'];simp[hi]
 have GF:∀i,γ' (n+i)=γf i:=fun i=>by rw[hγ'];show(if n+i<n then _ else _)=_;rw[qai (by omega),qcC]
 have hold:∀i b,γ i=some b→i<n:=fun i b hi=>by
  rw[hn]
  cases hm:aj st.mem i with
  |none=>exact absurd hm (jq.lU i b hi)
  |some o=>exact mS hm
 have mW:∀i b,γ' i=some b→(i<n∧γ i=some b)∨∃j,i=n+j∧γf j=some b:=fun i b hi=>by
  by_cases ec:i<n
  ·rw[CL i ec]at hi;exact .inl ⟨ec,hi⟩
  ·obtain⟨j,rfl⟩:∃j,i=n+j:=⟨i-n,by omega⟩;rw[GF]at hi;exact .inr ⟨j,rfl,hi⟩
 have hρ2:∀x v,Ref γ Sf w' st.mem x v→Ref γ' Sf w' (st.mem++eU os) x v:=Ref.later (bf.refl Sf w') (fun id ob hm=>by
  have bO:=mS hm
  exact⟨by rw[nN,qao bO];exact hm,CL id (by omega),fun _ _=>⟨rfl,rfl⟩⟩)
 refine⟨ZG st.mem.length r,_,γ',Sf,hK,fun b hb=>h1 b (bg b hb),?_,?_,?_⟩
 ·intro b fP
  rcases h2 b fP with h|h
  ·exact Cy b h
  ·have:=jq.eY;exact .inr (.inl (by omega))
 ·exact{
      size:=hg.size,slot:=fun i=>lF.later (bf.refl Sf w') hρ2 _ (hg.slot i),held:=au.later (bf.refl Sf w') hρ2 _ hg.held,defers:=hg.defers
      mem:=fun id ob hm=>by
       simp only[nN]at hm
       by_cases hi:id<st.mem.length
       ·rw[qao hi]at hm;exact eK.later (bf.refl Sf w') hρ2 (CL id (by omega)) (fun _ _=>rfl) (hg.mem id ob hm)
       ·rw[qai hi]at hm;have hj:=GF (id-st.mem.length);rw[show n+(id-st.mem.length)=id by omega]at hj;exact yD (tX hm) hj (h5 _ _ hm)
      lU:=fun i b hi=>by
       simp only[nN]
       rcases mW i b hi with⟨h,h'⟩|⟨j,rfl,h'⟩
       ·rw[qao (by omega)];exact jq.lU i b h'
       ·rw[qai (by omega),show n+j-st.mem.length=j by omega];have:=(h3 j b h').1;unfold aj eU;rw[qab,qbO,qag this];simp
      inj:=fun i j b hi hj=>by
       rcases mW i b hi with⟨h,h'⟩|⟨k,rfl,h'⟩<;>rcases mW j b hj with⟨g,g'⟩|⟨k',rfl,g'⟩
       ·exact jq.inj i j b h' g'
       ·have:=jq.eJ i b h';have:=(h3 _ b g').2.2.1;omega
       ·have:=jq.eJ j b g';have:=(h3 _ b h').2.2.1;omega
       ·rw[h4 k k' b h' g']
      own:=fun i b hi=>by
       rcases mW i b hi with⟨h,h'⟩|⟨j,rfl,h'⟩
       ·exact hg.own i b h'
       ·have:=(h3 j b h').2;have:=jq.eY;exact⟨(h3 j b h').2.1,.inl (by omega)⟩
      bound:=hg.bound
      eJ:=fun i b hi=>by
       rcases mW i b hi with⟨h,h'⟩|⟨j,rfl,h'⟩
       ·exact hg.eJ i b h'
       ·exact(h3 j b h').2.2.2
      jn:=hg.jn,kept:=hg.kept,os:=hg.os,tape:=hg.tape,output:=hg.output,eY:=hg.eY}
 ·exact Na (γ:=γf) (fun i=>by rw[←hn];exact GF i) h6
theorem CA {P:Program} {G:Nat→Option (List PV)} {A:Ar} {Q:Ex→St→Prop} {f:FuncId} {args:List AV} {d:Option Nat} {st:St} {is:List Item} {ps:List PV} {os:List (Nat×List (List PV))} {r:AV} (h:dB st.mem args=some (ps,false)) (hF:oQ P G f ps os r)
  (hk:bH (CC P G) A (Hf P G) is Q .normal (St.put ⟨st.slots,st.held,st.base,st.mem++eU os⟩ d (ZG st.mem.length r))):(bp.call f args d st is).holds (CC P G) A (Hf P G) Q:=.inr (BL hF h hk)
def G2:List Value→Value
 |[u]=>u
 |us=>.tuple us.toArray
theorem Nb {S:Nat→Prop} {w:World} {ρ:AV→Value→Prop}:∀{rs:List AV} {us:List Value},au S w ρ rs us→lF S w ρ (one? rs) (G2 us)
 |[],us,h=>by simp only[au]at h;subst h;simp only[one?,G2,lF];exact⟨[],by simp,by simp only[au]⟩
 |[x],us,h=>by simp only[au]at h;obtain⟨u,r,rfl,h3,rfl⟩:=h;exact h3
 |x::y::z,us,h=>by
  have h2:=h;simp only[au]at h;obtain⟨u,_,rfl,_,u',r',rfl,_⟩:=h;simp only[one?,G2,lF];exact⟨_,rfl,h2⟩
theorem BN {P:Program} {w0:World} {own0:Nat→Prop} {hvs:List Value×List Deferred} {G:Nat→Option (List PV)} {γ:Nat→Option Nat} {S:Nat→Prop} {st:St} {a:Act} {w:World} (h:dW w0 own0 hvs G γ S st a w) {fn:Func} {ds:List RD} {vs:List AV}
  (hd:fe P fn.results.toList=some ds) (hv:mN st ds=some vs):∃us,(results fn a.tmps).run P w=.ok (G2 us) w∧au S w (Ref γ S w st.mem) vs us:=by
 obtain⟨us,h1,h2⟩:=vM h hd hv;refine⟨us,?_,h2⟩
 have dD:(results fn a.tmps).run P w=.ok (if hh:us.toArray.size=1 then us.toArray[0]else .tuple us.toArray) w:=by
  have e:fn.results=fn.results.toList.toArray:=by simp
  unfold results;rw[e,List.mapM_toArray];simp only[Sem.run_bind,Sem.run_map,Sem.run_pure,map_eq_pure_bind];exact congrArg (fun r=>Result.andThen (Result.andThen r (fun(a:List Value) w'=>.ok a.toArray w')) (fun a w'=>.ok (if h:a.size=1 then a[0]else Value.tuple a) w')) h1
 rw[dD]
 rcases us with _|⟨x,_|⟨y,z⟩⟩<;>simp[G2]
def ri (eF:List RD) (os:List (Nat×List (List PV))) (rs:List AV):Ex→St→Prop
 |.exit _,_=>False
 |_,st=>∃vs s',mN st eF=some vs∧Fg ⟨st.slots,vs++st.held,st.base,st.mem⟩ s'∧s'.mem=eU os∧rs.length=vs.length∧∃t,s'.held=rs++t
def Nc (S:Nat→Prop) (w:World) (os:List (Nat×List (List PV))) (r:AV) (v:Value) (w':World):Prop:=
 RowKit.Below w.heap.size w w'∧∃(γ:Nat→Option Nat) (S':Nat→Prop),(∀b,S b→S' b)∧(∀b,S' b→S b∨(w.heap.size≤b∧b<w'.heap.size))∧
   (∀i b,γ i=some b→i<os.length∧¬S' b∧w.heap.size≤b∧b<w'.heap.size)∧(∀i j b,γ i=some b→γ j=some b→i=j)∧
   (∀i ob,aj (eU os) i=some ob→eK γ S' w' (fun _ _=>True) i ob)∧lF S' w' (Ref γ S' w' (eU os)) r v
theorem s7 {P:Program} {G:Nat→Option (List PV)} {fn:Func} {eF:List RD} (hr:fe P fn.results.toList=some eF) {S:Nat→Prop} {w w':World} {hvs:List Value×List Deferred} {st':St} {a':Act} {os:List (Nat×List (List PV))} {rs:List AV}
  (er:ft w (fun _=>False) hvs G S st' a' w') (hq:∃vs s',mN st' eF=some vs∧Fg ⟨st'.slots,vs++st'.held,st'.base,st'.mem⟩ s'∧s'.mem=eU os∧rs.length=vs.length∧∃t,s'.held=rs++t):∃v,(results fn a'.tmps).run P w'=.ok v w'∧Nc S w os (one? rs) v w':=by
 obtain⟨vs,s2,hv,K5,mV,hlen,t,Br⟩:=hq;obtain⟨γ0,S0,bg,Cy,h0⟩:=er;obtain⟨us,h1,h2⟩:=BN h0 hr hv;obtain⟨γ,S',bg,Cy,ke⟩:=mo K5 (⟨γ0,S0,bg,Cy,{h0 with held:=au.append h2 h0.held}⟩:ft w (fun _=>False) (us++hvs.1,hvs.2) G S ⟨st'.slots,vs++st'.held,st'.base,st'.mem⟩ a' w');have hh:=ke.held;rw[Br]at hh
 have hul:us.length=rs.length:=by rw[hlen];exact au.length h2
 have G3:=(au.cut hh).1;rw[hul,qcd]at G3;refine⟨G2 us,h1,⟨ke.os,ke.tape,ke.output,ke.eY,fun k hk=>ke.kept k hk (fun h=>h)⟩,γ,S',bg,?_,?_,ke.inj,?_,?_⟩
 ·intro b fP
  rcases Cy b fP with h3|h3|h3
  ·exact .inl h3
  ·exact .inr ⟨h3,ke.bound b fP⟩
  ·exact h3.elim
 ·intro i b hi;refine⟨?_,(ke.own i b hi).1,(ke.own i b hi).2.elim id (fun h=>h.elim),ke.eJ i b hi⟩;have hd:=ke.lU i b hi;rw[mV]at hd
  cases hm:aj (eU os) i with
  |none=>exact absurd hm hd
  |some o=>have:=mS hm;simpa[eU]using this
 ·intro i ob hi;exact yD (tX hi) rfl (ke.mem i ob (by rw[mV];exact hi))
 ·rw[mV]at G3;exact Nb G3
theorem yE {G:Nat→Option (List PV)} {S:Nat→Prop} {w:World} {vs:List Value} {ps:List PV} {n nt:Nat} (Ds:n=nt) (hS:∀b,S b→b<w.heap.size) (hG:rh G S w) (eQ:aM S w ps vs) (mE:ps.length≤nt):
  ft w (fun _=>False) ([],[]) G S (start nt ps) {tmps:=vs.toArray++Array.replicate (n-vs.toArray.size) undef,defers:=[]} w:=by
 have hlen:=aM.uE eQ
 have vJ:∀id,aj (start nt ps).mem id=none:=by
  intro id;simp only[start,aj,qab,qbD];split<;>rfl
 refine⟨fun _=>none,S,fun _ h=>h,fun _ h=>.inl h,{size:=?_,slot:=?_,held:=?_,defers:=rfl,mem:=?_,lU:=?_,inj:=?_,own:=?_,bound:=hS,eJ:=?_,jn:=hG,kept:=fun _ _ _=>rfl,os:=rfl,tape:=rfl,output:=rfl,eY:=qak _}⟩
 ·simp[start,hlen,Ds]
 ·intro i;have:=xD (nt:=nt) (ρ:=Ref (fun _=>none) S w (start nt ps).mem) eQ (nt-ps.length) i;rw[Ds];simpa[start,St.slot,hlen]using this
 ·simp only[start,au]
 ·intro id ob bL;rw[vJ id]at bL;cases bL
 ·intro i b hb;cases hb
 ·intro i j b hb;cases hb
 ·intro i b hb;cases hb
 ·intro i b hb;cases hb
theorem zC {P:Program} {G:Nat→Option (List PV)} {accs:List Nat} (hm:P.follows .mixedOrders=true) {f:FuncId} {fn:Func} {c:Code} {ac:cf} {eF:List RD} {nt:Nat} (hf:P.funcs[f]? =some fn) (hb:fn.body=some c) (hn:(fn.name== "runtime.NumGoroutine")=false)
  (hc:bD P G accs c=some ac) (hr:fe P fn.results.toList=some eF) (Ds:fn.ntmps=nt) {ps:List PV} {os:List (Nat×List (List PV))} {rs:List AV} (mE:ps.length≤nt)
  (h:bH (CC P G) aF (Hf P G) [.code ac] (ri eF os rs) .normal (start nt ps)):oQ P G f ps os (one? rs):=by
 intro S w vs hS hG eQ;unfold dN
 have bN:(callFunc f vs.toArray).run P w=.ok (.enter f vs.toArray) w:=by
  have uF:¬fn.name= "runtime.NumGoroutine" :=by simpa using hn
  simp[callFunc,run_program,hf,uF,hb]
 rw[bN];simp only;refine qdc hf hb (nH hm c hc (yE Ds hS hG eQ mE) (Qa:=ri eF os rs) h ?_);intro e st' a' w' er hq
 have key:(∃vs s',mN st' eF=some vs∧Fg ⟨st'.slots,vs++st'.held,st'.base,st'.mem⟩ s'∧s'.mem=eU os∧rs.length=vs.length∧∃t,s'.held=rs++t)→a'.defers=[]∧∃v,(results fn a'.tmps).run P w'=.ok v w'∧∃v',Ending.returned v=.returned v'∧Nc S w os (one? rs) v' w':=by
  intro hq;obtain⟨u,h1,h2⟩:=s7 hr er hq;obtain⟨γ,S',-,-,ke⟩:=er;exact⟨ke.defers,u,h1,u,rfl,h2⟩
 cases e with
 |normal=>exact key hq
 |ret=>exact key hq
 |exit id=>exact hq.elim
theorem BO {P:Program} {G:Nat→Option (List PV)} {accs:List Nat} {f:FuncId} {ac:cf} {eF:List RD} {nt:Nat} (hm:P.follows .mixedOrders=true) (h:gF P G accs f=some (ac,eF,nt)) {ps:List PV} {os:List (Nat×List (List PV))} {rs:List AV} (mE:ps.length≤nt)
  (hw:bH (CC P G) aF (Hf P G) [.code ac] (ri eF os rs) .normal (start nt ps)):oQ P G f ps os (one? rs):=by
 obtain⟨fn,c,h1,h2,h3,h4,h5,h6⟩:=acy h;exact zC hm h1 h2 h3 h4 h5 h6 mE hw
theorem fg {eF:List RD} {os:List (Nat×List (List PV))} {rs:List AV} {s s':St} {vs t:List AV} (SR:List (Option Nat)) (hv:mN s eF=some vs) (hn:jN SR=true) (ht:St.tidy ⟨s.slots,vs++s.held,s.base,s.mem⟩ [] SR=s') (hm:s'.mem=eU os) (hl:rs.length=vs.length) (hh:s'.held=rs++t):ri eF os rs .ret s:=
 ⟨vs,s',hv,Fg.ca [] SR hn ht,hm,hl,t,hh⟩
theorem o6 {C:CT} {A:Ar} {I:IC} {eF:List RD} {os:List (Nat×List (List PV))} {rs:List AV} {s:St} (h:ri eF os rs .ret s):(bp.fin .ret s).holds C A I (ri eF os rs):=h
end Go.Am
end
section
namespace Go.Am
abbrev FR (l:Nat):Fence:=Fence.wide.inRound l
section
variable {l n:Nat} {P:Program}
theorem Jm {f:FuncId} {args:Array Value} {w:World} {R:Ending→World→Prop} (h:Calls P f args w R):CallsIn (FR l) n P f args w R:=CallsIn.inRound l (callsIn_wide.2 h)
theorem Nd {row:String} {args:Array Value} {w:World} {R:Value→World→Prop} (h:Rows P row args w R):RowsIn (FR l) n P row args w R:=
 fun c cs _=>let ⟨v,w',r,s⟩:=h c cs;⟨v,w',r,stepsIn_wide.2 s⟩
theorem Fm {o:Oper} {a:Act} {w:World} {next:Act→World→Prop} {Q:Exit→Act→World→Prop} (hd:∀c,o.op≠.defer c) (h:o.wp P a w next Q):o.wpIn (FR l) n P a w next Q:=by
 refine⟨fun _ _=>trivial,?_⟩;rw[show(FR l).round=some l from rfl,Oper.semAt_some l _ o hd];unfold Oper.wp at h;generalize (execOp a.eval o).run P w=r at h ⊢
 cases r with
 |ok x w'=>
  cases x<;>simp only[Oper.upon,Oper.uponIn]at h ⊢ <;>first
   |exact h
   |exact⟨fun h=>absurd h (by simp[FR,Fence.wide]),Jm h⟩
   |exact⟨fun h=>absurd h (by simp[FR,Fence.wide]),Nd h⟩
   |exact h.elim
 |halt x w'=>cases x<;>simp only[Oper.upon,Oper.uponIn]at h ⊢ <;>exact h
theorem nO {G:Nat→Option (List PV)} {accs:List Nat} {ops:Array Oper}:∀{os:List Oper} {l:List AI},V6 P G accs ops os=some l→∀o∈os,∀c,o.op≠.defer c
 |[],_,_=>fun _ h=>by cases h
 |o::os,l,hc=>by
  simp only[V6]at hc;split at hc
  ·rename_i x hx;split at hc
   ·rename_i xs WN;intro o' XY
    rcases qam.1 XY with rfl|XY
    ·intro c K4
     have:oJ P G accs o'=none:=by unfold oJ;rw[K4]
     simp only[lb,this]at hx
     cases hx
    ·exact nO WN o' XY
   ·cases hc
  ·cases hc
theorem zD {ops:Array Oper} {Q:Exit→Act→World→Prop} (hQ:¬LetsOut Q):∀{os:List Oper},(∀o∈os,∀c,o.op≠.defer c)→∀{a:Act} {w:World},wpList P ops Q os a w→wpListIn (FR l) n P ops Q os a w
 |[],_,_,_,h=>h
 |o::os,hd,a,w,h=>by
  simp only[wpList]at h;simp only[wpListIn];split
  ·rename_i hw;rw[qao hw]at h
   rcases h with h|h
   ·exact Fm (hd o (by simp)) (qcR (fun a w h=>zD hQ (fun o ho=>hd o (by simp[ho])) h) h)
   ·exact absurd h.2 hQ
  ·rename_i hw;rw[qai hw]at h;exact⟨fun _ _=>trivial,zD hQ (fun o ho=>hd o (by simp[ho])) h⟩
theorem DE {md:Region.Mode} {ops:Array Oper} {Q:Exit→Act→World→Prop} (hQ:¬LetsOut Q) (hd:∀(i:Nat) (o:Oper),ops[i]? =some o→∀c:Call,o.op≠.defer c):∀(fuel:Nat) {listed:Array Bool} {a:Act} {w:World},wpAny P md ops Q fuel listed a w→wpAnyIn (FR l) n P md ops Q fuel listed a w
 |0,_,_,_,h=>h
 |fuel+1,listed,a,w,h=>by
  refine⟨h.1,fun i hi=>?_⟩;have h2:=wpOp_mono (fun a w h=>DE hQ hd fuel h) (h.2 i hi);unfold wpOp at h2;unfold wpOpIn;split at h2
  ·rename_i ho;simp only[ho];exact h2
  ·rename_i o ho;simp only[ho];split
   ·rename_i hw;rw[qao hw]at h2
    rcases h2 with h2|h2
    ·exact Fm (hd i o ho) h2
    ·exact absurd h2.2 hQ
   ·rename_i hw;rw[qai hw]at h2;exact⟨fun _ _=>trivial,h2⟩
def pQ (l n:Nat) (P:Program) (c:Code) (Q:Exit→Act→World→Prop) (a:Act) (w:World):Prop:=
 ∀(b:Frame) (k:List Go.Item) (cs:List Frame),b.roundOf=(FR l).round→∃e a' w',Q e a' w'∧ArrivesIn (Machine.fenced P (FR l)) P (lone (b.atR a (.code c::.inLoop c::k)) cs w) b k cs e a' w'
theorem Q5 {b:Frame} {a:Act} {todo:List Go.Item} {cs:List Frame} {w:World} (h:(b.atR a todo).about P w=none):(lone (b.atR a todo) cs w).fenced P (FR l):=fenced_calm (n:=0) trivial (room_wide _) h
theorem zE {c:Code} {Q:Exit→Act→World→Prop} {a:Act} {w:World} (h:pQ l n P c Q a w):(Code.loop c).wpIn (FR l) n P Q a w:=by
 intro b k cs hro _ _;obtain⟨e,a',w',hq,sx⟩:=h b k cs hro;exact⟨e,a',w',hq,.of_steps (.one (Q5 rfl) stepR_loop) sx⟩
theorem uq {c:Code} {Q:Exit→Act→World→Prop} {a:Act} {w:World} (h:c.wpIn (FR l) n P (Exit.then (pQ l n P c Q) Q) a w):pQ l n P c Q a w:=by
 intro b k cs hro;obtain⟨e,a₁,w₁,hq,sx⟩:=h b (.inLoop c::k) cs hro trivial (room_wide _)
 cases e with
 |normal=>
  obtain⟨e₂,a₂,w₂,hq₂,sx₂⟩:=hq b k cs hro;exact⟨e₂,a₂,w₂,hq₂,.of_steps (StepsIn.trans sx (.one (Q5 rfl) stepR_inLoop)) sx₂⟩
 |exit id=>exact⟨_,a₁,w₁,hq,.pass (x:=.inLoop c) rfl (fun _ _=>.inl (by simp)) sx⟩
 |goto l=>exact⟨_,a₁,w₁,hq,.pass (x:=.inLoop c) rfl (fun _ _=>.inl (by simp)) sx⟩
 |ret=>exact⟨_,a₁,w₁,hq,.pass (x:=.inLoop c) rfl (fun _ _=>.inl (by simp)) sx⟩
 |panic ch=>exact⟨_,a₁,w₁,hq,.pass (x:=.inLoop c) rfl (fun _ _=>.inl (by simp)) sx⟩
 |outgrown=>exact⟨_,a₁,w₁,hq,.pass (x:=.inLoop c) rfl (fun _ _=>.inl (by simp)) sx⟩
end
section
variable {P:Program} {w0:World} {own0:Nat→Prop} {hvs:List Value×List Deferred} {G:Nat→Option (List PV)} {S0:Nat→Prop} {accs:List Nat} {r n:Nat}
theorem BP (hm:P.follows .mixedOrders=true):∀(c:Code) {ac:cf} {st:St} {a:Act} {w:World} {Qa:Ex→St→Prop} {Q:Exit→Act→World→Prop},bD P G accs c=some ac→ft w0 own0 hvs G S0 st a w→fw (CC P G) aF (Hf P G) ac st Qa→
  (∀e st' a' w',ft w0 own0 hvs G S0 st' a' w'→Qa e st'→Q e.conv a' w')→¬LetsOut Q→c.wpIn (FR r) n P Q a w:=by
 intro c
 induction c with
 |skip=>intro ac st a w Qa Q hc hs h hq hQ;simp only[bD,qaa]at hc;subst hc;exact wpIn_skip (hq .normal _ _ _ hs h)
 |refuse s=>intro ac st a w Qa Q hc hs h hq hQ;simp only[bD,qaa]at hc;subst hc;simp[fw,bP,gO,nr,ml,KA,St.ev]at h
 |exit id=>intro ac st a w Qa Q hc hs h hq hQ;simp only[bD,qaa]at hc;subst hc;exact wpIn_exit (hq (.exit id) _ _ _ hs h)
 |ret=>intro ac st a w Qa Q hc hs h hq hQ;simp only[bD,qaa]at hc;subst hc;exact wpIn_ret (hq .ret _ _ _ hs h)
 |region id ops draw=>
  intro ac st a w Qa Q hc hs h hq hQ
  cases draw with
  |false=>
   simp only[bD]at hc;obtain⟨l,hl,rfl⟩:=qah.1 hc;exact wpIn_region_list (zD hQ (nO hl) (zf hl hs h fun st' a' w' er hk=>hq .normal st' a' w' er hk))
  |true=>
   simp only[bD]at hc;split at hc
   ·rename_i l hl;split at hc
    ·rename_i CP;simp only[qaa]at hc;subst hc;obtain⟨s0,hf,h⟩:=h;have hs:=mo hf hs
     have hd:∀(i:Nat) (o:Oper),ops[i]? =some o→∀c:Call,o.op≠.defer c:=fun i o ho=>nO hl o (by rw[←qbc]at ho;exact qbE ho)
     rcases h with h|h
     ·obtain⟨r,hr,hk⟩:=lz h;refine wpIn_region_any hm (DE hQ hd _ (IJ (st0:=s0) hl rfl CP hr (fun a' w' er=>hq .normal _ a' w' er hk) ops.size _ _ _ (by simp) ?_ ?_ ?_))
      ·simp
      ·intro i hi;simp[qbM]at hi;split at hi<;>simp at hi
      ·have:cM (fun i=>(Array.replicate ops.size false).getD i false) 0 (r.map (·.1)) s0=s0:=by
        have h0:=dZ r 0 0 s0;simp only[qbo,fc]at h0;refine Eq.trans (aaV _ _ _ fun i _ _=>?_) h0.symm;simp[qbM];split<;>rfl
       rw[this];exact nG hs rfl rfl rfl rfl
     ·refine wpIn_region_any hm (DE hQ hd _ (EY hl rfl CP h (fun st' a' w' er hk=>hq .normal st' a' w' er hk) _ (by simp) ?_ _ _ (nG hs rfl rfl rfl rfl)));intro i;simp[qbM];split<;>simp
    ·cases hc
   ·cases hc
 |seq x y T0 IL=>
  intro ac st a w Qa Q hc hs h hq hQ;simp only[bD]at hc;split at hc
  ·rename_i ax hx;split at hc
   ·rename_i ay hy;simp only[qaa]at hc;subst hc;refine wpIn_seq (T0 hx hs h ?_ (fun⟨a,w,h⟩=>hQ ⟨a,w,h⟩));intro e st' a' w' er hk
    cases e with
    |normal=>exact IL hy er hk hq hQ
    |ret=>exact hq .ret _ _ _ er hk
    |exit id=>exact hq (.exit id) _ _ _ er hk
   ·cases hc
  ·cases hc
 |cond c x y T0 IL=>
  intro ac st a w Qa Q hc hs h hq hQ;simp only[bD]at hc;split at hc
  ·rename_i c' E0;split at hc
   ·rename_i ax hx;split at hc
    ·rename_i ay hy;simp only[qaa]at hc;subst hc;simp only[fw]at h;obtain⟨γ,S,bg,Cy,hS⟩:=hs;have he:=hS.fR E0;have hs:ft w0 own0 hvs G S0 st a w:=⟨γ,S,bg,Cy,hS⟩;split at h
     ·rename_i t ht;rw[ht]at he;simp only[lF,aD]at he;refine wpIn_cond he ?_
      cases t with
      |true=>exact T0 hx hs h hq hQ
      |false=>exact IL hy hs h hq hQ
     ·exact h.elim
    ·cases hc
   ·cases hc
  ·cases hc
 |block id b ih=>
  intro ac st a w Qa Q hc hs h hq hQ;simp only[bD]at hc;obtain⟨ab,hb,rfl⟩:=qah.1 hc;refine wpIn_block (ih hb hs h ?_ (fun⟨a,w,h⟩=>hQ ⟨a,w,h⟩));intro e st' a' w' er hk
  cases e with
  |normal=>exact hq .normal _ _ _ er hk
  |ret=>exact hq .ret _ _ _ er hk
  |exit j=>
   simp only at hk;simp only[Ex.conv,Exit.inBlock]
   by_cases hj:j=id
   ·subst hj;simp only[qau]at hk;simp only[qax];exact hq .normal _ _ _ er hk
   ·rw[qai hj];rw[qar.2 hj]at hk;exact hq (.exit j) _ _ _ er hk
 |loop b ih=>
  intro ac st a w Qa Q hc hs h hq hQ;simp only[bD]at hc;obtain⟨ab,hb,rfl⟩:=qah.1 hc;refine zE (h (fun s=>∀a w,ft w0 own0 hvs G S0 s a w→pQ r n P b Q a w) ?_ a w hs);intro s s0 hf bg a' w' jq;refine uq (ih hb (mo hf jq) bg ?_ (fun⟨a,w,h⟩=>hQ ⟨a,w,h⟩));intro e st' a'' tA er hk
  cases e with
  |normal=>exact hk a'' tA er
  |ret=>exact hq .ret _ _ _ er hk
  |exit j=>exact hq (.exit j) _ _ _ er hk
 |_=>intro ac st a w Qa Q hc;simp[bD]at hc
variable {γ:Nat→Option Nat} {S:Nat→Prop} {st:St} {a:Act} {w:World}
theorem dW.book (h:dW w0 own0 hvs G γ S st a w) {w':World} {k:Nat} (hw:∀b,b≠k→w'.heap[b]? =w.heap[b]?) (dH:w'.heap.size=w.heap.size) (Gx:w'.os=w.os) (Gy:w'.tape=w.tape) (om:w'.output=w.output)
  (hγ:∀i,γ i≠some k) (hS:¬S k) (hk:w0.heap.size≤k):dW w0 own0 hvs G γ S st a w':=by
 have hl:bf S w S w':=fun b hb=>⟨hb,dC (hw b (fun e=>hS (e▸hb)))⟩
 have hb:∀i b,γ i=some b→w'.heap[b]? =w.heap[b]?:=fun i b hb=>hw b (fun e=>hγ i (e▸hb))
 have hρ:=Ref.later (γ:=γ) (γ':=γ) (mem:=st.mem) (mem':=st.mem) hl fun id ob' hm=>⟨hm,rfl,fun b h'=>dC (hb id b h')⟩
 exact{
     size:=h.size,slot:=fun i=>lF.later hl hρ _ (h.slot i),held:=au.later hl hρ _ h.held,defers:=h.defers
     mem:=fun id ob' hm=>eK.later hl hρ rfl (hb id) (h.mem id ob' hm)
     lU:=h.lU,inj:=h.inj,own:=h.own
     bound:=fun b hb=>by rw[dH];exact h.bound b hb
     eJ:=fun i b hb=>by rw[dH];exact h.eJ i b hb
     jn:=fun g row hg=>by
      obtain⟨h1,c,h2,h3,h4⟩:=h.jn g row hg;exact⟨h1,c,((hl g h1).2.1).trans h2,dm.later hl row h3,h4⟩
     kept:=fun b hb hn=>(hw b (by omega)).trans (h.kept b hb hn)
     os:=Gx.trans h.os,tape:=Gy.trans h.tape,output:=om.trans h.output
     eY:=by rw[dH];exact h.eY}
theorem dW.shift (h:dW w0 own0 hvs G γ S st a w):dW w (fun b=>∃i,γ i=some b) hvs G γ S st a w:=
 {h with own:=fun i b hi=>⟨(h.own i b hi).1,.inr ⟨i,hi⟩⟩,kept:=fun _ _ _=>rfl,os:=rfl,tape:=rfl,output:=rfl,eY:=qak _}
theorem dW.zF (h:dW w0 own0 hvs G γ S st a w) {ZH:List Value×List Deferred} {γ':Nat→Option Nat} {S':Nat→Prop} {st':St} {a':Act} {w':World} (h':dW w (fun b=>∃i,γ i=some b) ZH G γ' S' st' a' w'):
  dW w0 own0 ZH G γ' S' st' a' w':=
 {h' with
  own:=fun i b hi=>⟨(h'.own i b hi).1,by
   rcases(h'.own i b hi).2 with h1|⟨j,h1⟩
   ·exact .inl (qbr h.eY h1)
   ·exact(h.own j b h1).2⟩
  kept:=fun b hb hn=>(h'.kept b (qde hb h.eY) (fun⟨j,hj⟩=>(h.own j b hj).2.elim (fun h1=>by omega) hn)).trans (h.kept b hb hn)
  os:=h'.os.trans h.os,tape:=h'.tape.trans h.tape,output:=h'.output.trans h.output,eY:=qbr h.eY h'.eY}
theorem dW.push (h:dW w0 own0 hvs G γ S st a w) {slots:List AV} {tmps:Array Value} (dH:slots.length=tmps.size) (oa:∀i,lF S w (Ref γ S w st.mem) (slots.getD i .dead) (tmps.getD i undef)):
  dW w0 own0 (a.tmps.toList++hvs.1,[]) G γ S ⟨slots,st.slots++st.held,st.base,st.mem⟩ ⟨tmps,[]⟩ w:=
 {h with
  size:=dH,slot:=oa,defers:=rfl
  held:=au.append (au.vP (by simpa using h.size) (fun i=>by
   have:=h.slot i
   simpa only[St.slot,qaJ,qab,qbc]using this)) h.held}
theorem dW.pop {slots held:List AV} {b0:Nat} (hl:slots.length=a.tmps.size) {ds:List Deferred} (hd:a.defers=ds) {st':St} {a':Act} (h':dW w0 own0 (a.tmps.toList++hvs.1,[]) G γ S st' a' w) (hh:st'.held=slots++held):
  dW w0 own0 (hvs.1,ds) G γ S ⟨slots,held,b0,st'.mem⟩ a w:=by
 have G3:=h'.held;rw[hh]at G3;obtain⟨c1,c2⟩:=au.cut G3
 have hn:a.tmps.toList.length=slots.length:=by simpa using hl.symm
 rw[hn,qcd]at c1;rw[hn,qda]at c2
 exact{h' with
  size:=hl,held:=c2,defers:=hd
  slot:=fun i=>by
   have:=au.slots c1 i
   simpa only[St.slot,qaJ,qab,qbc]using this}
end
end Go.Am
end
section
namespace Go.Am
def ItC (P:Program) (G:Nat→Option (List PV)) (gf:FuncId) (caps:List PV) (xs:List (List PV)):Prop:=
 (∀args w,(callFunc gf args).run P w=.ok (.enter gf args) w)∧
 ∀(S:Nat→Prop) (w:World) (vs:List Value),(∀b,S b→b<w.heap.size)→rh G S w→aM S w caps vs→
 ∀(l:Nat) (J:Nat→(Nat→Prop)→World→Prop) (Jx:World→Prop),
  (∀k T W W',J k T W→RowKit.Below W.heap.size W W'→J k (fun b=>T b∨(W.heap.size≤b∧b<W'.heap.size)) W')→
  (∀W W',Jx W→RowKit.Below W.heap.size W W'→Jx W')→
  (∀k (hk:k<xs.length) T W us,J k T W→aM (fun _=>False) W xs[k] us→YieldAt Fence.wide 0 P l us.toArray W fun e W'=>
   (e=.returned (.bool true)∧J (k+1) T W'∧W.heap.size≤W'.heap.size∧∀b,T b→W'.heap[b]? =W.heap[b]?)∨(e=.returned (.bool false)∧Jx W'))→
  J 0 S w→CallsIn Fence.wide 0 P gf (#[.func (.yield l) #[] #[]]++vs.toArray) w fun e W'=>(∃v,e=.returned v)∧((∃T,J xs.length T W')∨Jx W')
def G4:List Nat→List PV→List AV→List AV
 |p::ps,x::xs,sl=>G4 ps xs (sl.set p (.pv x))
 |_,_,sl=>sl
theorem BQ {S:Nat→Prop} {w:World} {ρ:AV→Value→Prop}:∀{ps:List Nat} {xs:List PV} {us:List Value} {sl:List AV} {tmps:Array Value},aM (fun _=>False) w xs us→sl.length=tmps.size→(∀i,lF S w ρ (sl.getD i .dead) (tmps.getD i undef))→
  (G4 ps xs sl).length=((ps.zip us).foldl (fun t (p,v)=>t.setIfInBounds p v) tmps).size∧∀i,lF S w ρ ((G4 ps xs sl).getD i .dead) (((ps.zip us).foldl (fun t (p,v)=>t.setIfInBounds p v) tmps).getD i undef)
 |[],xs,us,sl,tmps,_,dH,h=>by cases xs<;>exact⟨dH,h⟩
 |p::ps,[],us,sl,tmps,hx,dH,h=>by
  simp only[aM]at hx;subst hx;exact⟨dH,h⟩
 |p::ps,x::xs,us,sl,tmps,hx,dH,h=>by
  simp only[aM]at hx;obtain⟨v,r,rfl,h1,h2⟩:=hx;simp only[G4,List.zip_cons_cons,qbu];refine BQ h2 (by simpa using dH) (fun i=>?_)
  by_cases hi:i=p
  ·subst hi
   by_cases bO:i<sl.length
   ·have C2:i<tmps.size:=by omega
    have e1:(sl.set i (.pv x)).getD i .dead=.pv x:=by simp[qab,bO]
    have e2:(tmps.setIfInBounds i v).getD i undef=v:=by simp[C2]
    rw[e1,e2];simp only[lF];exact aD.later (fun _ h=>h.elim) _ h1
   ·have e1:(sl.set i (.pv x)).getD i .dead=.dead:=by simp[qab,bO]
    rw[e1];simp only[lF]
  ·have e1:(sl.set p (.pv x)).getD i .dead=sl.getD i .dead:=by simp[qab,qbF (qbN hi)]
   have e2:(tmps.setIfInBounds p v).getD i undef=tmps.getD i undef:=by simp[qaJ,qbe (qbN hi)]
   rw[e1,e2];exact h i
def wg (P:Program) (G:Nat→Option (List PV)) (A:Ar) (id t:Nat) (ps:List Nat) (aa ab uI:cf) (F:Ex→St→Prop) (st:St):Prop:=
 ∃s0:St,Fg st s0∧∃(gf:FuncId) (caps:List PV) (xs:List (List PV)) (u:Nat→List (Option Obj)) (ok:Nat→Prop),s0.slot t=.pv (.gM gf caps)∧ItC P G gf caps xs∧(∀x∈xs,x.length=ps.length)∧Fg s0 ⟨s0.slots,s0.held,s0.base,u 0⟩∧
  (∀k (hk:k<xs.length),(∀j,j<k→ok j)→fw (CC P G) A (Hf P G) aa ⟨G4 ps xs[k] s0.slots,s0.slots++s0.held,s0.base,u k⟩ fun e s=>e=.normal∧fw (CC P G) A (Hf P G) ab s fun e s'=>∃s2,Fg s' s2∧s2.held=s0.slots++s0.held∧match e with
   |.normal=>ok k∧s2.mem=u (k+1)
   |.ret=>F .ret ⟨s0.slots,s0.held,s0.base,s2.mem⟩
   |.exit j=>j=id∧fw (CC P G) A (Hf P G) uI ⟨s0.slots,s0.held,s0.base,s2.mem⟩ F)∧
  ((∀j,j<xs.length→ok j)→fw (CC P G) A (Hf P G) uI ⟨s0.slots,s0.held,s0.base,u xs.length⟩ F)
abbrev adH (D:Nat):Deferred:={target:=.collected D,args:=#[]}
section
variable {P:Program} {w0:World} {own0:Nat→Prop} {hvs:List Value×List Deferred} {G:Nat→Option (List PV)} {S0:Nat→Prop} {accs:List Nat}
def DF (w0:World) (own0:Nat→Prop) (hvs:List Value×List Deferred) (G:Nat→Option (List PV)) (S0:Nat→Prop) (D:Nat) (st:St) (a:Act) (w:World):Prop:=
 ∃γ S,(∀b,S0 b→S b)∧(∀b,S b→S0 b∨w0.heap.size≤b∨own0 b)∧dW w0 own0 (hvs.1,adH D::hvs.2) G γ S st a w∧¬S D∧(∀i,γ i≠some D)∧w0.heap.size≤D∧w.heap[D]? =some (.deferred (some []))
structure nd (γ:Nat→Option Nat) (S:Nat→Prop) (W:World) (D:Nat) (r:Loop):Prop where
 sd:¬S D
 sl:¬S (D+1)
 gd:∀i,γ i≠some D
 gl:∀i,γ i≠some (D+1)
 hl:W.heap[D+1]? =some (.loop r)
 hd:W.heap[D]? =some (.deferred (some []))
theorem nd.lt {γ:Nat→Option Nat} {S:Nat→Prop} {W:World} {D:Nat} {r:Loop} (h:nd γ S W D r):D+1<W.heap.size:=(qaK.1 h.hl).1
theorem BR {γ γ':Nat→Option Nat} {S S':Nat→Prop} {W W':World} {D:Nat} {r:Loop} {hvs:List Value×List Deferred} {st:St} {a:Act} (h:nd γ S W D r) (h':dW W (fun b=>∃i,γ i=some b) hvs G γ' S' st a W') (hs:∀b,S' b→S b∨W.heap.size≤b∨∃i,γ i=some b):
  nd γ' S' W' D r:=by
 have bO:=h.lt
 have no:∀b,b<W.heap.size→(∀i,γ i≠some b)→¬S b→¬S' b∧(∀i,γ' i≠some b)∧W'.heap[b]? =W.heap[b]?:=fun b hb hg hS=>
  ⟨fun fP=>by rcases hs b fP with h1|h1|⟨i,h1⟩;exact hS h1;omega;exact hg i h1,
   fun i hi=>by rcases(h'.own i b hi).2 with h1|⟨j,h1⟩;omega;exact hg j h1,
   h'.kept b hb (fun⟨i,hi⟩=>hg i hi)⟩
 obtain⟨d1,d2,d3⟩:=no D (by omega) h.gd h.sd;obtain⟨l1,l2,l3⟩:=no (D+1) bO h.gl h.sl;exact⟨d1,l1,d2,l2,l3.trans h.hl,d3.trans h.hd⟩
theorem r7 {γ:Nat→Option Nat} {S:Nat→Prop} {W:World} {D:Nat} {r:Loop} (h:nd γ S W D r) (r':Loop):nd γ S (W.putObj (D+1) (.loop r')) D r':=
 ⟨h.sd,h.sl,h.gd,h.gl,World.putObj_heap_same h.lt,(World.putObj_heap_other (by omega)).trans h.hd⟩
theorem dW.Jn {γ:Nat→Option Nat} {S:Nat→Prop} {W:World} {D:Nat} {r:Loop} {st:St} {a:Act} (h:dW w0 own0 hvs G γ S st a W) (hb:nd γ S W D r) (hD:w0.heap.size≤D) (r':Loop):dW w0 own0 hvs G γ S st a (W.putObj (D+1) (.loop r')):=
 dW.book h (k:=D+1) (fun b hb=>World.putObj_heap_other (fun e=>hb e)) (by simp) rfl rfl rfl hb.gl hb.sl (by omega)
theorem Jo (hm:P.follows .mixedOrders=true) {assign body:Code} {aa ab uI:cf} (ha:bD P G accs assign=some aa) (hb:bD P G accs body=some ab) {ps:Array Tmp} {t id:Nat} {a:Act} {w:World} {st:St} {Q:Exit→Act→World→Prop} {F:Ex→St→Prop}
  (jq:ft w0 own0 hvs G S0 st a w) (h:wg P G aF id t ps.toList aa ab uI F st)
  (XB:∀st' D W,DF w0 own0 hvs G S0 D st' {a with defers:=adH D::a.defers} W→fw (CC P G) aF (Hf P G) uI st' F→Q .normal {a with defers:=adH D::a.defers} W)
  (Y4:∀st' D W,DF w0 own0 hvs G S0 D st' {a with defers:=adH D::a.defers} W→F .ret st'→Q .ret {a with defers:=adH D::a.defers} W)
  (hq3:∀st' D W,DF w0 own0 hvs G S0 D st' {a with defers:=adH D::a.defers} W→fw (CC P G) aF (Hf P G) uI st' F→Q (.exit id) {a with defers:=adH D::a.defers} W):
  (Code.rangeFunc (.tmp t) ps assign body).wp P Q a w:=by
 obtain⟨s0,hf0,gf,caps,xs,u,ok,ht,⟨heg,hit⟩,oX,hf1,Uz,hend⟩:=h;have ZI:=mo hf1 (mo hf0 jq);obtain⟨γ0,SS,bg,Cy,h1⟩:=ZI;have htv:=h1.slot t;rw[show St.slot ⟨s0.slots,s0.held,s0.base,u 0⟩ t=s0.slot t from rfl,ht]at htv;simp only[lF,aD]at htv;obtain⟨vs,bZ,Fo⟩:=htv;refine(wpIn_wide (n:=0)).1 (wpIn_rangeFunc ?_);intro fn HL
 obtain⟨rec,vD⟩:∃rec:LoopState→Option Code→Loop,rec=fun st pe=>{state:=st,pending:=pe,fn,tmps:=a.tmps,params:=ps,assign,body,defers:=w.heap.size}:=⟨_,rfl⟩
 obtain⟨D,hD⟩:∃D,D=w.heap.size:=⟨_,rfl⟩;obtain⟨W1,Y9⟩:∃W1,(w.alloc (.deferred (some []))).alloc (.loop (rec .ready none))=W1:=⟨_,rfl⟩
 have hL1:W1.heap[D+1]? =some (.loop (rec .ready none)):=by
  rw[←Y9,hD];have:=World.alloc_heap_new (w.alloc (.deferred (some []))) (.loop (rec .ready none));rwa [World.size_alloc]at this
 have hK1:W1.heap[D]? =some (.deferred (some [])):=by
  rw[←Y9,hD];exact(RowKit.Below.heap_alloc _ _ _ (by simp)).trans (World.alloc_heap_new w _)
 have Q6:∀b,b<w.heap.size→W1.heap[b]? =w.heap[b]?:=fun b hb=>by
  rw[←Y9];exact(et (by simp;omega)).trans (et hb)
 have Tf:w.heap.size≤W1.heap.size:=by rw[←Y9];simp;omega
 have UA:W1.os=w.os∧W1.tape=w.tape∧W1.output=w.output:=by rw[←Y9];exact⟨rfl,rfl,rfl⟩
 have DG:=(dW.grow h1 Q6 Tf UA.1 UA.2.1 UA.2.2 (S':=SS) (fun _ h=>h) (fun _ h=>.inl h)).1
 have W5:w0.heap.size≤D:=by rw[hD];exact h1.eY
 have hbk1:nd γ0 SS W1 D (rec .ready none):=
  ⟨fun h=>by have:=h1.bound _ h;omega,fun h=>by have:=h1.bound _ h;omega,fun i h=>by have:=h1.eJ i _ h;omega,fun i h=>by have:=h1.eJ i _ h;omega,hL1,hK1⟩
 obtain⟨J,hJ⟩:∃J:Nat→(Nat→Prop)→World→Prop,J=fun k T W=>∃γ S,(∀b,S0 b→S b)∧(∀b,S b→S0 b∨w0.heap.size≤b∨own0 b)∧dW w0 own0 hvs G γ S ⟨s0.slots,s0.held,s0.base,u k⟩ a W∧(∀b,T b→S b)∧nd γ S W D (rec .ready none)∧∀j,j<k→ok j:=⟨_,rfl⟩
 obtain⟨Jx,ZJ⟩:∃Jx:World→Prop,Jx=fun W=>∃c m γ S,(∀b,S0 b→S b)∧(∀b,S b→S0 b∨w0.heap.size≤b∨own0 b)∧dW w0 own0 hvs G γ S ⟨s0.slots,s0.held,s0.base,m⟩ a W∧nd γ S W D (rec .done (some c))∧
  ((c=.ret∧F .ret ⟨s0.slots,s0.held,s0.base,m⟩)∨(c=.exit id∧fw (CC P G) aF (Hf P G) uI ⟨s0.slots,s0.held,s0.base,m⟩ F)):=⟨_,rfl⟩
 have grow:∀{γ:Nat→Option Nat} {S:Nat→Prop} {W W':World} {r:Loop} {st:St},dW w0 own0 hvs G γ S st a W→nd γ S W D r→RowKit.Below W.heap.size W W'→
   dW w0 own0 hvs G γ (fun b=>S b∨(W.heap.size≤b∧b<W'.heap.size)) st a W'∧nd γ (fun b=>S b∨(W.heap.size≤b∧b<W'.heap.size)) W' D r:=fun hS hB hw=>by
  have bO:=hB.lt
  exact⟨(dW.grow hS hw.block hw.size hw.os hw.tape hw.output (fun _ h=>.inl h) (fun _ h=>h)).1,
   ⟨fun h=>h.elim hB.sd (fun h=>by omega),fun h=>h.elim hB.sl (fun h=>by omega),hB.gd,hB.gl,(hw.block _ bO).trans hB.hl,(hw.block _ (by omega)).trans hB.hd⟩⟩
 have hS1:∀{S:Nat→Prop} {W W':World} {w0s:w0.heap.size≤W.heap.size},(∀b,S b→S0 b∨w0.heap.size≤b∨own0 b)→∀b,(S b∨(W.heap.size≤b∧b<W'.heap.size))→S0 b∨w0.heap.size≤b∨own0 b:=fun{S W W' w0s} h b hb=>hb.elim (h b) (fun h=>.inr (.inl (by omega)))
 have mE:∀(k:Nat) (hk:k<xs.length) (us:List Value) (W:World),aM (fun _=>False) W xs[k] us→us.length=ps.size:=fun k hk us W hus=>by
  rw[aM.uE hus,oX _ (qaf hk)];simp
 have key:CallsIn Fence.wide 0 P gf (#[.func (.yield (D+1)) #[] #[]]++vs.toArray) W1 fun e W'=>(∃v,e=.returned v)∧((∃T,J xs.length T W')∨Jx W'):=by
  refine hit SS W1 vs DG.bound DG.jn (aM.later (fun b hb=>⟨hb,dC (Q6 b (h1.bound b hb))⟩) _ Fo) (D+1) J Jx ?_ ?_ ?_ ?_
  ·intro k T W W' hj hw;rw[hJ]at hj ⊢;obtain⟨γ,S,a1,a2,a3,a4,a5,a6⟩:=hj;obtain⟨g1,g2⟩:=grow a3 a5 hw;exact⟨γ,_,fun b hb=>.inl (a1 b hb),hS1 (w0s:=a3.eY) a2,g1,fun b hb=>hb.imp (a4 b) (fun h=>h),g2,a6⟩
  ·intro W W' hj hw;rw[ZJ]at hj ⊢;obtain⟨c,m,γ,S,a1,a2,a3,a4,a5⟩:=hj;obtain⟨g1,g2⟩:=grow a3 a4 hw;exact⟨c,m,γ,_,fun b hb=>.inl (a1 b hb),hS1 (w0s:=a3.eY) a2,g1,g2,a5⟩
  ·intro k hk T W us hj hus;rw[hJ]at hj;obtain⟨γ,S,a1,a2,a3,a4,a5,a6⟩:=hj;have hy:=run_yield (P:=P) (args:=us.toArray) a5.hl (by rw[vD];simpa using mE k hk us W hus);rw[vD]at hy;refine⟨fn,_,assign,body,hy,roundIn_of_wpIn HL ?_⟩;have xg:=BQ (S:=S) (w:=W) (ρ:=Ref γ S W (u k)) (ps:=ps.toList) (sl:=s0.slots) (tmps:=a.tmps) hus a3.size (fun i=>a3.slot i)
   have htm:(ps.zip us.toArray).foldl (fun t (p,v)=>t.setIfInBounds p v) a.tmps=(ps.toList.zip us).foldl (fun t (p,v)=>t.setIfInBounds p v) a.tmps:=by
    rw[←Array.foldl_toList,Array.toList_zip]
   dsimp only;rw[htm];have hp:=dW.push a3 xg.1 xg.2;refine BP hm assign ha (S0:=S) ⟨γ,S,fun _ h=>h,fun _ h=>.inl h,dW.shift hp⟩ (Uz k hk a6) ?_ (fun⟨_,_,h⟩=>h);rintro e Zp a1' w1 ⟨γ1,S1,b1,b2,b3⟩ ⟨rfl,ZK⟩;have bk1:=BR a5 b3 b2;have u1:=dW.zF hp b3;have bk2:=r7 bk1 {rec .ready none with state:=.busy};have u2:=dW.Jn u1 bk1 W5 {rec .ready none with state:=.busy};refine⟨_,run_beginRound bk1.hl (by rw[vD]),?_⟩
   refine BP hm body hb (S0:=S1) ⟨γ1,S1,fun _ h=>h,fun _ h=>.inl h,dW.shift u2⟩ ZK ?_ (fun⟨_,_,h⟩=>h);rintro e EZ a2' w3 wR ⟨s2,K5,Br,hq⟩;obtain⟨γ3,S3,c1,c2,c3⟩:=mo K5 wR;have UB:=BR bk2 c3 c2;have u3:=dW.zF u2 c3;have u4:=dW.pop (b0:=s0.base) (by simpa using a3.size) a3.defers u3 Br
   have hS3:∀b,S3 b→S0 b∨w0.heap.size≤b∨own0 b:=fun b hb=>by
    rcases c2 b hb with h|h|⟨i,h⟩
    ·rcases b2 b h with h|h|⟨i,h⟩
     ·exact a2 b h
     ·exact .inr (.inl (qbr a3.eY h))
     ·exact .inr (a3.own i b h).2
    ·exact .inr (.inl (qbr u2.eY h))
    ·exact .inr (u2.own i b h).2
   have Nf:∀b,S b→S3 b:=fun b hb=>c1 b (b1 b hb)
   have hszW:W.heap.size≤w3.heap.size:=by
    have:=b3.eY;have:=c3.eY;simp at this;omega
   have ZL:∀b,S b→∀r',(w3.putObj (D+1) (.loop r')).heap[b]? =W.heap[b]?:=fun b hb r'=>by
    have MB:b≠D+1:=fun e=>a5.sl (e▸hb)
    have bO:=a3.bound b hb;have e1:=b3.kept b bO (fun⟨i,hi⟩=>(a3.own i b hi).1 hb);have e2:=c3.kept b (by have:=b3.eY;simp;omega) (fun⟨i,hi⟩=>(u2.own i b hi).1 (b1 b hb));exact(World.putObj_heap_other (fun e=>MB e)).trans (e2.trans ((World.putObj_heap_other (fun e=>MB e)).trans e1))
   have fin:∀jump:Option Code,(Instr.endRound (D+1) jump).run P w3=.ok (.bool jump.isNone) (w3.putObj (D+1) (.loop (rec (if jump.isNone then .ready else .done) jump))):=fun jump=>by
    have:=run_endRound (P:=P) jump UB.hl;rw[vD]at this ⊢;exact this
   cases e with
   |normal=>
    dsimp only at hq;refine⟨_,_,fin none,.inl ⟨rfl,?_,by simpa using hszW,fun b hb=>ZL b (a4 b hb) _⟩⟩;rw[hJ]
    refine⟨γ3,S3,fun b hb=>Nf b (a1 b hb),hS3,?_,fun b hb=>Nf b (a4 b hb),r7 UB _,fun j hj=>by
     by_cases e:j=k
     ·rw[e];exact hq.1
     ·exact a6 j (by omega)⟩
    rw[←hq.2];exact dW.Jn u4 UB W5 _
   |ret=>
    refine⟨_,_,fin (some .ret),.inr ⟨rfl,?_⟩⟩;rw[ZJ];exact⟨.ret,s2.mem,γ3,S3,fun b hb=>Nf b (a1 b hb),hS3,dW.Jn u4 UB W5 _,r7 UB _,.inl ⟨rfl,hq⟩⟩
   |exit j=>
    obtain⟨rfl,hq⟩:=hq;refine⟨_,_,fin (some (.exit j)),.inr ⟨rfl,?_⟩⟩;rw[ZJ];exact⟨.exit j,s2.mem,γ3,S3,fun b hb=>Nf b (a1 b hb),hS3,dW.Jn u4 UB W5 _,r7 UB _,.inr ⟨rfl,hq⟩⟩
  ·rw[hJ];exact⟨γ0,SS,bg,Cy,DG,fun _ h=>h,hbk1,fun j hj=>absurd hj (Nat.not_lt_zero _)⟩
 refine⟨D+1,[adH D],W1,{target:=.fn (.func gf) vs.toArray,args:=#[.func (.yield (D+1)) #[] #[]]},W1,gf,
  #[.func (.yield (D+1)) #[] #[]]++vs.toArray,W1,?_,?_,fun _ _=>trivial,?_,fun h=>absurd h (by simp[Fence.wide]),?_⟩
 ·rw[←Y9,vD,hD];exact run_enterLoop_outer _ _ _ _ _
 ·simp only[resolve,show a.eval (.tmp t)=.func (.func gf) #[] vs.toArray from bZ];simp[go_sem]
 ·simp[invoke,go_sem,heg]
 ·refine CallsIn.mono key ?_
  have toD:∀{γ:Nat→Option Nat} {S:Nat→Prop} {W:World} {r:Loop} {m:List (Option Obj)},(∀b,S0 b→S b)→(∀b,S b→S0 b∨w0.heap.size≤b∨own0 b)→dW w0 own0 hvs G γ S ⟨s0.slots,s0.held,s0.base,m⟩ a W→nd γ S W D r→∀r',DF w0 own0 hvs G S0 D ⟨s0.slots,s0.held,s0.base,m⟩ {a with defers:=adH D::a.defers} (W.putObj (D+1) (.loop r')):=fun h1 h2 h3 h4 r'=>
   ⟨_,_,h1,h2,{dW.Jn h3 h4 W5 r' with defers:=by rw[h3.defers]},h4.sd,h4.gd,W5,(World.putObj_heap_other (by omega)).trans h4.hd⟩
  rintro e W2 ⟨⟨v,rfl⟩,⟨T,hj⟩|hj⟩
  ·rw[hJ]at hj;obtain⟨γ,S,a1,a2,a3,-,a5,a6⟩:=hj;refine⟨none,_,by have:=run_endLoop (P:=P) a5.hl (by rw[vD];simp);rw[vD]at this;exact this,?_⟩;exact XB _ D _ (toD a1 a2 a3 a5 _) (hend a6)
  ·rw[ZJ]at hj;obtain⟨c,m,γ,S,a1,a2,a3,a5,hc⟩:=hj;refine⟨some c,_,by have:=run_endLoop (P:=P) a5.hl (by rw[vD];simp);rw[vD]at this;exact this,?_⟩
   rcases hc with⟨rfl,hc⟩|⟨rfl,hc⟩
   ·exact wpIn_ret (Y4 _ D _ (toD a1 a2 a3 a5 _) hc)
   ·exact wpIn_exit (hq3 _ D _ (toD a1 a2 a3 a5 _) hc)
end
end Go.Am
end
section
namespace Go.Am
def Jp:Code→Option (Code×Nat×Nat×Array Tmp×Code×Code)
 |.seq c d=>match d with
  |.block id e=>match e with
   |.rangeFunc (.tmp t) ps a b=>some (c,id,t,ps,a,b)
   |_=>none
  |_=>none
 |_=>none
def s8:Code→Option (Code×Nat×Nat×Array Tmp×Code×Code×Code)
 |.seq x y=>match Jp x with
  |some (c,id,t,ps,a,b)=>some (c,id,t,ps,a,b,y)
  |none=>match s8 y with
   |some (c,r)=>some (.seq x c,r)
   |none=>none
 |_=>none
theorem Jq {x c:Code} {id t:Nat} {ps:Array Tmp} {a b:Code} (h:Jp x=some (c,id,t,ps,a,b)):x=.seq c (.block id (.rangeFunc (.tmp t) ps a b)):=by
 cases x with
 |seq c' d=>
  cases d with
  |block mD e=>
   cases e with
   |rangeFunc g ps' a' b'=>
    cases g with
    |tmp t'=>
     simp only[Jp,qaa,qas]at h;obtain⟨rfl,rfl,rfl,rfl,rfl,rfl⟩:=h;rfl
    |_=>cases h
   |_=>cases h
  |_=>cases h
 |_=>cases h
section
variable {P:Program} {w0:World} {own0:Nat→Prop} {G:Nat→Option (List PV)} {S0:Nat→Prop} {accs:List Nat}
theorem Fp (hm:P.follows .mixedOrders=true) {y:Code} {ay:cf} (hy:bD P G accs y=some ay) {hvs:List Value×List Deferred} {D:Nat} {st:St} {a:Act} {w:World} {F:Ex→St→Prop} {Q:Exit→Act→World→Prop}
  (hs:DF w0 own0 hvs G S0 D st a w) (h:fw (CC P G) aF (Hf P G) ay st F) (hq:∀e st' a' w',DF w0 own0 hvs G S0 D st' a' w'→F e st'→Q e.conv a' w'):y.wp P Q a w:=by
 obtain⟨γ,S,a1,a2,a3,d1,d2,d3,d4⟩:=hs;refine nH hm y hy (S0:=S) ⟨γ,S,fun _ h=>h,fun _ h=>.inl h,dW.shift a3⟩ h ?_;rintro e st' a' w' ⟨γ',S',b1,b2,b3⟩ hk;have bO:D<w.heap.size:=(qaK.1 d4).1;refine hq e st' a' w' ⟨γ',S',fun b hb=>b1 b (a1 b hb),fun b hb=>?_,dW.zF a3 b3,fun h=>?_,fun i h=>?_,d3,(b3.kept D bO (fun⟨i,h⟩=>d2 i h)).trans d4⟩ hk
 ·rcases b2 b hb with h|h|⟨i,h⟩
  ·exact a2 b h
  ·exact .inr (.inl (qbr a3.eY h))
  ·exact .inr (a3.own i b h).2
 ·rcases b2 D h with h|h|⟨i,h⟩
  ·exact d1 h
  ·omega
  ·exact d2 i h
 ·rcases(b3.own i D h).2 with h|⟨j,h⟩
  ·omega
  ·exact d2 j h
theorem Jr (hm:P.follows .mixedOrders=true) {hvs:List Value×List Deferred} {id t:Nat} {ps:Array Tmp} {Za bd d:Code} {aa ab uI:cf} (ha:bD P G accs Za=some aa) (hb:bD P G accs bd=some ab) (hd:bD P G accs d=some uI) {F:Ex→St→Prop} (hF:∀j s,¬F (.exit j) s) {Q:Exit→Act→World→Prop}
  (hqA:∀e st' a' w',ft w0 own0 hvs G S0 st' a' w'→F e st'→Q e.conv a' w') (hqD:∀e D st' a' w',DF w0 own0 hvs G S0 D st' a' w'→F e st'→Q e.conv a' w'):
  ∀(c:Code) {c1:Code} {HN:cf} {st:St} {a:Act} {w:World},s8 c=some (c1,id,t,ps,Za,bd,d)→bD P G accs c1=some HN→ft w0 own0 hvs G S0 st a w→
   fw (CC P G) aF (Hf P G) HN st (fun e s=>match e with|.normal=>wg P G aF id t ps.toList aa ab uI F s|e=>F e s)→c.wp P Q a w:=by
 intro c
 induction c with
 |seq x y _ IL=>
  intro c1 HN st a w mG hc hs h;simp only[s8]at mG;split at mG
  ·rename_i c' mD t' ps' a' b' hh;simp only[qaa,qas]at mG;obtain⟨rfl,rfl,rfl,rfl,rfl,rfl,rfl⟩:=mG;rw[Jq hh];refine wp_seq (wp_seq (nH hm _ hc hs h ?_));intro e st' a' w' er hk
   cases e with
   |normal=>
    refine wp_block (Jo hm ha hb er hk ?_ ?_ ?_)
    ·intro EZ D W hD h2;exact Fp hm hd hD h2 (fun e DB a3 w3 h3 h4=>hqD e D DB a3 w3 h3 h4)
    ·intro EZ D W hD h2;exact hqD .ret D _ _ _ hD h2
    ·intro EZ D W hD h2;simp only[Exit.inBlock,qax];exact Fp hm hd hD h2 (fun e DB a3 w3 h3 h4=>hqD e D DB a3 w3 h3 h4)
   |ret=>exact hqA .ret _ _ _ er hk
   |exit j=>exact absurd hk (hF j st')
  ·split at mG
   ·rename_i c' r hr;simp only[qaa,qas]at mG;obtain⟨rfl,ni⟩:=mG;subst ni;simp only[bD]at hc;split at hc
    ·rename_i ax hx;split at hc
     ·rename_i ac' E0;simp only[qaa]at hc;subst hc;refine wp_seq (nH hm x hx hs h ?_);intro e st' a' w' er hk
      cases e with
      |normal=>exact IL hr E0 er hk
      |ret=>exact hqA .ret _ _ _ er hk
      |exit j=>exact absurd hk (hF j st')
     ·cases hc
    ·cases hc
   ·cases mG
 |_=>intro c1 HN st a w mG;simp[s8]at mG
end
def Fq (P:Program) (G:Nat→Option (List PV)) (accs:List Nat) (f:FuncId):Option (cf×Nat×Nat×List Nat×cf×cf×cf×List RD×Nat):=
 match P.funcs[f]? with
 |none=>none
 |some fn=>match fn.body with
  |none=>none
  |some c=>match fn.name== "runtime.NumGoroutine" with
   |true=>none
   |false=>match s8 c with
    |none=>none
    |some (c1,id,t,ps,a,b,d)=>match bD P G accs c1 with
     |none=>none
     |some HN=>match bD P G accs a with
      |none=>none
      |some aa=>match bD P G accs b with
       |none=>none
       |some ab=>match bD P G accs d with
        |none=>none
        |some uI=>match fe P fn.results.toList with
         |none=>none
         |some eF=>some (HN,id,t,ps.toList,aa,ab,uI,eF,fn.ntmps)
theorem DH {P:Program} {G:Nat→Option (List PV)} {accs:List Nat} {f:FuncId} {HN aa ab uI:cf} {id t:Nat} {pl:List Nat} {eF:List RD} {nt:Nat} (h:Fq P G accs f=some (HN,id,t,pl,aa,ab,uI,eF,nt)):
  ∃fn c c1 ps a b d,P.funcs[f]? =some fn∧fn.body=some c∧(fn.name== "runtime.NumGoroutine")=false∧s8 c=some (c1,id,t,ps,a,b,d)∧ps.toList=pl∧bD P G accs c1=some HN∧bD P G accs a=some aa∧bD P G accs b=some ab∧bD P G accs d=some uI∧fe P fn.results.toList=some eF∧fn.ntmps=nt:=by
 unfold Fq at h;split at h
 ·cases h
 rename_i fn HL;split at h
 ·cases h
 rename_i c hc;split at h
 ·cases h
 rename_i hn;split at h
 ·cases h
 rename_i c1 mD t' ps a b d mG;split at h
 ·cases h
 rename_i x1 h1;split at h
 ·cases h
 rename_i x2 h2;split at h
 ·cases h
 rename_i x3 h3;split at h
 ·cases h
 rename_i x4 h4;split at h
 ·cases h
 rename_i x5 h5;simp only[qaa,qas]at h;obtain⟨rfl,rfl,rfl,rfl,rfl,rfl,rfl,rfl,rfl⟩:=h;exact⟨fn,c,c1,ps,a,b,d,HL,hc,hn,mG,rfl,h1,h2,h3,h4,h5,rfl⟩
theorem BS {P:Program} {G:Nat→Option (List PV)} {accs:List Nat} {f:FuncId} {HN aa ab uI:cf} {id t:Nat} {pl:List Nat} {eF:List RD} {nt:Nat} (hm:P.follows .mixedOrders=true) (h:Fq P G accs f=some (HN,id,t,pl,aa,ab,uI,eF,nt)) {ps:List PV} {os:List (Nat×List (List PV))} {rs:List AV} (mE:ps.length≤nt)
  (hw:fw (CC P G) aF (Hf P G) HN (start nt ps) (fun e s=>match e with|.normal=>wg P G aF id t pl aa ab uI (ri eF os rs) s|e=>ri eF os rs e s)):oQ P G f ps os (one? rs):=by
 obtain⟨fn,c,c1,tps,a,b,d,hf,hb,hn,mG,rfl,h1,h2,h3,h4,hr,Ds⟩:=DH h;intro S w vs hS hG eQ;unfold dN
 have bN:(callFunc f vs.toArray).run P w=.ok (.enter f vs.toArray) w:=by
  have uF:¬fn.name= "runtime.NumGoroutine" :=by simpa using hn
  simp[callFunc,run_program,hf,uF,hb]
 rw[bN];simp only;refine callsIn_wide.1 (callsIn_of_wp_marks (F:=Fence.wide) (n:=0) hf hb trivial (wpIn_wide.2 (Jr hm h2 h3 h4 (F:=ri eF os rs) (fun j s hx=>hx) ?_ ?_ c mG h1 (yE Ds hS hG eQ mE) hw)) rfl)
 ·intro e st' a' w' er hq
  have key:(∃vs s',mN st' eF=some vs∧Fg ⟨st'.slots,vs++st'.held,st'.base,st'.mem⟩ s'∧s'.mem=eU os∧rs.length=vs.length∧∃t,s'.held=rs++t)→LeavesInM Fence.wide 0 P fn a'.tmps (fun e tA=>∃v,e=.returned v∧Nc S w os (one? rs) v tA) a'.defers .returning w':=by
   intro hq;obtain⟨u,h1,h2⟩:=s7 hr er hq;obtain⟨γ,S',-,-,ke⟩:=er;rw[ke.defers];exact⟨u,h1,u,rfl,h2⟩
  cases e with
  |normal=>exact key hq
  |ret=>exact key hq
  |exit id=>exact hq.elim
 ·intro e D st' a' w' er hq
  have key:(∃vs s',mN st' eF=some vs∧Fg ⟨st'.slots,vs++st'.held,st'.base,st'.mem⟩ s'∧s'.mem=eU os∧rs.length=vs.length∧∃t,s'.held=rs++t)→LeavesInM Fence.wide 0 P fn a'.tmps (fun e tA=>∃v,e=.returned v∧Nc S w os (one? rs) v tA) a'.defers .returning w':=by
   intro hq;obtain⟨γ,S',a1,a2,a3,d1,d2,d3,d4⟩:=er;rw[a3.defers];refine⟨by simp,.inl ⟨D,_,rfl,run_takeDeferred d4,?_⟩⟩;have wR:ft w (fun _=>False) _ G S st' a' (w'.putObj D (.deferred none)):=⟨γ,S',a1,a2,dW.book a3 (k:=D) (fun b hb=>World.putObj_heap_other (fun e=>hb e)) (by simp) rfl rfl rfl d2 d1 d3⟩;obtain⟨u,h1,h2⟩:=s7 hr wR hq;exact⟨u,h1,u,rfl,h2⟩
  cases e with
  |normal=>exact key hq
  |ret=>exact key hq
  |exit id=>exact hq.elim
theorem Fs {S:Nat→Prop} {w:World} {ρ:AV→Value→Prop}:∀{ps:List PV} {vs:List Value},au S w ρ (ps.map .pv) vs→aM S w ps vs
 |[],vs,h=>by simpa only[qaF,au,aM]using h
 |p::ps,vs,h=>by
  simp only[qaj,au,lF]at h;obtain⟨v,r,rfl,h1,h2⟩:=h;simp only[aM];exact⟨v,r,rfl,h1,Fs h2⟩
theorem DI {P:Program} {G:Nat→Option (List PV)} {f:FuncId} {ps rs:List PV} (h:oQ P G f ps [] (one? (rs.map .pv))):bE P G f ps (match rs with|[p]=>p|rs=>.eN rs):=by
 intro S w vs hS hG eQ;refine dN.mono (fun v w' hq=>?_) (h S w vs hS hG eQ);obtain⟨hb,γ,S',h1,h2,-,-,-,h6⟩:=hq;refine⟨hb,?_⟩
 have hL:bf S' w' (fun b=>S b∨(w.heap.size≤b∧b<w'.heap.size)) w':=fun b hb=>⟨h2 b hb,rfl,rfl⟩
 rcases rs with _|⟨x,_|⟨y,z⟩⟩
 ·simp only[qaF,one?,lF]at h6;obtain⟨us,rfl,h6⟩:=h6;simp only[au]at h6;simp only[aD];exact⟨us,rfl,by simp only[aM];exact h6⟩
 ·simp only[qaj,qaF,one?,lF]at h6;exact aD.later hL _ h6
 ·simp only[qaj,one?,lF]at h6;obtain⟨us,rfl,h6⟩:=h6;simp only[aD];refine⟨us,rfl,aM.later hL _ ?_⟩;exact Fs (by simpa only[qaj]using h6)
theorem j0 {C:CT} {A:Ar} {I:IC} {Q:Ex→St→Prop} {e:Ex} {s:St} (h:Q e s):(bp.fin e s).holds C A I Q:=h
theorem G5 {P:Program} {G:Nat→Option (List PV)} {A:Ar} {id t:Nat} {ps:List Nat} {aa ab uI:cf} {F:Ex→St→Prop} {st:St} (s0:St) (hf:Fg st s0) (gf:FuncId) (caps:List PV) (xs:List (List PV)) (u:Nat→List (Option Obj)) (ok:Nat→Prop) (ht:s0.slot t=.pv (.gM gf caps)) (hit:ItC P G gf caps xs) (hx:∀x∈xs,x.length=ps.length)
  (hu:⟨s0.slots,s0.held,s0.base,u 0⟩=s0)
  (hr:∀k (hk:k<xs.length),(∀j,j<k→ok j)→fw (CC P G) A (Hf P G) aa ⟨G4 ps xs[k] s0.slots,s0.slots++s0.held,s0.base,u k⟩ fun e s=>e=.normal∧fw (CC P G) A (Hf P G) ab s fun e s'=>∃s2,Fg s' s2∧s2.held=s0.slots++s0.held∧match e with
   |.normal=>ok k∧s2.mem=u (k+1)
   |.ret=>F .ret ⟨s0.slots,s0.held,s0.base,s2.mem⟩
   |.exit j=>j=id∧fw (CC P G) A (Hf P G) uI ⟨s0.slots,s0.held,s0.base,s2.mem⟩ F)
  (he:(∀j,j<xs.length→ok j)→fw (CC P G) A (Hf P G) uI ⟨s0.slots,s0.held,s0.base,u xs.length⟩ F):wg P G A id t ps aa ab uI F st:=
 ⟨s0,hf,gf,caps,xs,u,ok,ht,hit,hx,by rw[hu];exact Fg.refl _,hr,he⟩
theorem afr {P:Program} {G:Nat→Option (List PV)} {A:Ar} {Q:Ex→St→Prop} {f:FuncId} {args:List AV} {d:Option Nat} {st:St} {is:List Item} {ps:List PV} {sz:Nat} {rows:List (List PV)} (h:dB st.mem args=some (ps,false)) (hd:jW args=true) (hF:oQ P G f ps [(sz,rows)] (.c8 0 0))
  (hm:aj st.mem (st.base+d.getD 0)=none) (hl:st.base+d.getD 0<st.mem.length) (hk:bH (CC P G) A (Hf P G) is Q .normal ((st.aq (st.base+d.getD 0) (.rows sz rows 0)).put d (.c8 (st.base+d.getD 0) 0))):(bp.afq f args d st is).holds (CC P G) A (Hf P G) Q:=
 .inr ⟨hd,ps,sz,rows,h,⟨rows,rfl,hF⟩,hm,hl,hk⟩
end Go.Am
end
section
namespace Go.Am
def MO (eF:List RD) (n base:Nat) (K:AV→St→Prop) (e:Ex) (st:St):Prop:=∃s',Fg st s'∧u0 eF n base K e s'
theorem Oa {P:Program} {G:Nat→Option (List PV)} {accs:List Nat} {f:FuncId} {ac:cf} {eF:List RD} {nt:Nat} (hm:P.follows .mixedOrders=true) (h:gF P G accs f=some (ac,eF,nt)) {args:List AV} {st:St} {K:AV→St→Prop}
  (hw:fw (CC P G) aF (Hf P G) ac (enter nt args st) (MO eF st.slots.length st.base K)):Hf P G f args st K:=by
 obtain⟨fn,c,hf,hb,hn,hc,hr,Ds⟩:=acy h;intro w0 own0 hvs S0 γ S a w vs bg Cy jq eQ;have hlen:=au.length eQ;unfold dN
 have bN:(callFunc f vs.toArray).run P w=.ok (.enter f vs.toArray) w:=by
  have uF:¬fn.name= "runtime.NumGoroutine" :=by simpa using hn
  simp[callFunc,run_program,hf,uF,hb]
 rw[bN];simp only;refine qdc hf hb ?_
 have W9:∀i,aj (st.mem++List.replicate nt none) i=aj st.mem i:=by
  intro i;unfold aj
  by_cases hi:i<st.mem.length
  ·simp[qab,qaQ hi]
  ·simp[qab,qaV (qby hi),qa0 (qby hi),qbD];split<;>rfl
 have hρ:∀x v,Ref γ S w st.mem x v→Ref γ S w (st.mem++List.replicate nt none) x v:=
  Ref.later (bf.refl S w) (fun id ob hm=>⟨by rw[W9];exact hm,rfl,fun _ _=>⟨rfl,rfl⟩⟩)
 have vK:au S w (Ref γ S w st.mem) st.slots a.tmps.toList:=au.vP (by simpa using jq.size) (fun i=>by
  have:=jq.slot i
  simpa only[St.slot,qaJ,qab,qbc]using this)
 have hE:ft w0 own0 (a.tmps.toList++hvs.1,[]) G S0 (enter nt args st) {tmps:=vs.toArray++Array.replicate (fn.ntmps-vs.toArray.size) undef,defers:=[]} w:=by
  refine⟨γ,S,bg,Cy,{jq with size:=?_,slot:=?_,held:=?_,defers:=rfl,mem:=?_,lU:=?_}⟩
  ·simp[enter,hlen,Ds]
  ·intro i;have h1:au S w (Ref γ S w (enter nt args st).mem) (args++List.replicate (nt-args.length) .dead) (vs++List.replicate (nt-args.length) undef):=au.append (au.later (bf.refl S w) hρ _ eQ) (au.XZ _);have:=au.slots h1 i;simpa[enter,St.slot,hlen,Ds,qab,qaJ,←qbc]using this
  ·exact au.later (bf.refl S w) hρ _ (au.append vK jq.held)
  ·intro id ob hm;simp only[enter]at hm;rw[W9]at hm;exact eK.later (bf.refl S w) hρ rfl (fun _ _=>rfl) (jq.mem id ob hm)
  ·intro i b hb;simp only[enter];rw[W9];exact jq.lU i b hb
 refine nH hm c hc hE hw ?_;intro e Zp a' w' er hq;obtain⟨st',K5,hq⟩:=hq;obtain⟨γ',S',Xa,Xd,ke⟩:=mo K5 er
 have key:(match lT eF st' with|some v=>K v (leave st.slots.length st.base st')|none=>False)→a'.defers=[]∧∃v,(results fn a'.tmps).run P w'=.ok v w'∧∃v',Ending.returned v=.returned v'∧
   ∃r afW γ' S',K r afW∧(∀b,S0 b→S' b)∧(∀b,S' b→S0 b∨w0.heap.size≤b∨own0 b)∧dW w0 own0 hvs G γ' S' afW a w'∧lF S' w' (Ref γ' S' w' afW.mem) r v':=by
  intro hq;split at hq
  ·rename_i v hv;obtain⟨u,h1,h2⟩:=vN ke hr hv
   have hρ':∀x v,Ref γ' S' w' st'.mem x v→Ref γ' S' w' (AR st'.base st'.mem) x v:=
    Ref.later (bf.refl S' w') (fun id ob hm=>⟨by rw[oU];exact hm,rfl,fun _ _=>⟨rfl,rfl⟩⟩)
   have Br:=au.later (bf.refl S' w') hρ' _ ke.held;obtain⟨c1,c2⟩:=au.cut Br
   have X0:a.tmps.toList.length=st.slots.length:=by simpa using jq.size.symm
   rw[X0]at c1 c2;have Zo:=au.length c1;refine⟨ke.defers,u,h1,u,rfl,v,_,γ',S',hq,Xa,Xd,{ke with size:=?_,slot:=?_,held:=c2,defers:=jq.defers,mem:=?_,lU:=?_},lF.later (bf.refl S' w') hρ' _ h2⟩
   ·simp only[leave];simpa using Zo.symm
   ·intro i;have:=au.slots c1 i;simpa only[leave,St.slot,qaJ,qab,qbc]using this
   ·intro id ob hm;simp only[leave]at hm;rw[oU]at hm;exact eK.later (bf.refl S' w') hρ' rfl (fun _ _=>rfl) (ke.mem id ob hm)
   ·intro i b hb;simp only[leave];rw[oU];exact ke.lU i b hb
  ·exact hq.elim
 cases e with
 |normal=>exact key hq
 |ret=>exact key hq
 |exit id=>exact hq.elim
theorem IQ {eF:List RD} {n b:Nat} {K:AV→St→Prop} {s s':St} {v:AV} (hf:Fg s s') (hv:lT eF s'=some v) (h:K v (leave n b s')):MO eF n b K .ret s:=by
 refine⟨s',hf,?_⟩;simp only[u0,hv];exact h
theorem aie {C:CT} {A:Ar} {I:IC} {eF:List RD} {n b:Nat} {K:AV→St→Prop} {s s':St} {v:AV} (hf:Fg s s') (hv:lT eF s'=some v) (h:K v (leave n b s')):(bp.fin .ret s).holds C A I (MO eF n b K):=IQ hf hv h
end Go.Am
end
section
open Go Go.Am
namespace Go.Am
theorem vX {P:Program} {G:Nat→Option (List PV)} {f:FuncId} (bN:∀v w,(callFunc f #[v]).run P w=.ok (.value v) w) {x:AV} {st:St} {K:AV→St→Prop} (hk:K x st):Hf P G f [x] st K:=by
 intro w0 own0 hvs S0 γ S a w vs h0 h1 hs hx;simp only[au]at hx;obtain⟨v,r,rfl,hv,rfl⟩:=hx;unfold dN;rw[show([v]:List Value).toArray=#[v] from rfl,bN v w];exact⟨x,st,γ,S,hk,h0,h1,hs,hv⟩
theorem acS {P:Program} {G:Nat→Option (List PV)} {A:Ar} {Q:Ex→St→Prop} {f:FuncId} {x:AV} {d:Option Nat} {st:St} {is:List Item} (bN:∀v w,(callFunc f #[v]).run P w=.ok (.value v) w)
  (hk:bH (CC P G) A (Hf P G) is Q .normal (st.put d x)):(bp.call f [x] d st is).holds (CC P G) A (Hf P G) Q:=.inr (vX bN hk)
theorem Yf {P:Program} {G:Nat→Option (List PV)} {A:Ar} {Q:Ex→St→Prop} {f:FuncId} {args:List AV} {d:Option Nat} {st:St} {is:List Item} (h:Hf P G f args st (fun v st'=>bH (CC P G) A (Hf P G) is Q .normal (st'.put d v))):(bp.call f args d st is).holds (CC P G) A (Hf P G) Q:=.inr h
end Go.Am
end
section
namespace Go.Am
mutual
def PV.lN:PV→PV→Bool
 |.bool a,.bool b=>a==b
 |.int k a,.int k' b=>decide (k=k')&&decide (a=b)
 |.str a,.str b=>decide (a=b)
 |.mh,.mh=>true
 |.yS,.yS=>true
 |.j8,.j8=>true
 |.oh,.oh=>true
 |.gM f a,.gM g b=>decide (f=g)&&PV.ko a b
 |.iface t a,.iface u b=>decide (t=u)&&PV.lN a b
 |.agg a,.agg b=>PV.ko a b
 |.eN a,.eN b=>PV.ko a b
 |.sl a b,.sl c d=>PV.iH a c&&PV.iH b d
 |.ptr a,.ptr b=>PV.ko a b
 |.mp a b c d,.mp a' b' c' d'=>(a==a')&&(b==b')&&decide (c=c')&&PV.iH d d'
 |_,_=>false
def PV.ko:List PV→List PV→Bool
 |[],[]=>true
 |a::r,b::s=>PV.lN a b&&PV.ko r s
 |_,_=>false
def PV.iH:List (List PV)→List (List PV)→Bool
 |[],[]=>true
 |a::r,b::s=>PV.ko a b&&PV.iH r s
 |_,_=>false
end
mutual
theorem PV.lC:∀(a b:PV),PV.lN a b=true→a=b
 |.bool a,b,h=>by cases b<;>simp_all [PV.lN]
 |.int k a,b,h=>by cases b<;>simp_all [PV.lN]
 |.str a,b,h=>by cases b<;>simp_all [PV.lN]
 |.mh,b,h=>by cases b<;>simp_all [PV.lN]
 |.yS,b,h=>by cases b<;>simp_all [PV.lN]
 |.j8,b,h=>by cases b<;>simp_all [PV.lN]
 |.oh,b,h=>by cases b<;>simp_all [PV.lN]
 |.gM f a,b,h=>by
  cases b<;>simp[PV.lN]at h
  obtain⟨rfl,h⟩:=h;rw[PV.fr _ _ h]
 |.iface t a,b,h=>by
  cases b<;>simp[PV.lN]at h
  obtain⟨rfl,h⟩:=h;rw[PV.lC _ _ h]
 |.agg a,b,h=>by
  cases b<;>simp[PV.lN]at h
  rw[PV.fr _ _ h]
 |.eN a,b,h=>by
  cases b<;>simp[PV.lN]at h
  rw[PV.fr _ _ h]
 |.sl a c,b,h=>by
  cases b<;>simp[PV.lN]at h
  rw[PV.fW _ _ h.1,PV.fW _ _ h.2]
 |.ptr a,b,h=>by
  cases b<;>simp[PV.lN]at h
  rw[PV.fr _ _ h]
 |.mp a c d e,b,h=>by
  cases b<;>simp[PV.lN]at h
  obtain⟨⟨⟨rfl,rfl⟩,rfl⟩,h⟩:=h;rw[PV.fW _ _ h]
theorem PV.fr:∀(a b:List PV),PV.ko a b=true→a=b
 |[],[],_=>rfl
 |[],_::_,h=>by simp[PV.ko]at h
 |_::_,[],h=>by simp[PV.ko]at h
 |a::r,b::s,h=>by
  simp[PV.ko]at h;rw[PV.lC _ _ h.1,PV.fr _ _ h.2]
theorem PV.fW:∀(a b:List (List PV)),PV.iH a b=true→a=b
 |[],[],_=>rfl
 |[],_::_,h=>by simp[PV.iH]at h
 |_::_,[],h=>by simp[PV.iH]at h
 |a::r,b::s,h=>by
  simp[PV.iH]at h;rw[PV.fr _ _ h.1,PV.fW _ _ h.2]
end
end Go.Am
end
section
namespace Go.Am
def iB:Out→Prop
 |.dG p _|.ix p _ _ _|.jK p _ _=>p
 |_=>True
def Dw (mem:List (Option Obj)):sE→Prop
 |.pure o=>iB o
 |.rd id f=>∀ob,aj mem id=some ob→iB (f ob)
def uJ (sz:Nat) (rows:List (List PV)):Bool:=rows.all fun r=>r.length==sz
theorem xE {sz:Nat} {rows:List (List PV)} (h:uJ sz rows=true):aK sz rows:=by
 intro r hr;have:=qa1.1 h r hr;simpa using this
def Fa (sz:Nat) (rows:List (List PV)):Bool:=rows.all fun r=>(r.length==sz)&&r.all fun p=>(AV.pv p).one
theorem Dx {sz:Nat} {rows:List (List PV)} (h:Fa sz rows=true):fS sz rows:=by
 intro r hr;have:=qa1.1 h r hr;simp only[qaG,qbA,qa1]at this;exact this
def qp (xs ys:List (List PV)) (bytes sz:Nat):Bool:=
 Nat.ble ((xs.length+ys.length+256)*bytes) 70368744177664&&(Nat.ble (xs.length+ys.length) 70368744177664&&(Fa sz ys&&uJ sz xs))
theorem o4 {xs ys:List (List PV)} {bytes sz:Nat} (h:qp xs ys bytes sz=true):aF.oj xs ys bytes sz:=by
 simp only[qp,qaG]at h;exact⟨qaH h.1,qaH h.2.1,Dx h.2.2.1,xE h.2.2.2⟩
def jA {α:Type}:List α→Bool
 |[]=>true
 |_::_=>false
def Uv (xs ys:List (List PV)):Bool:=jA xs|| !jA ys
theorem M1 {xs ys:List (List PV)} (h:Uv xs ys=true):aF.Qn xs ys:=by
 cases xs<;>cases ys<;>simp_all [Uv,jA,aF]
def Fb (xs ys:List (List AV)) (bytes sz:Nat):Bool:=
 Nat.ble ((xs.length+ys.length+256)*bytes) 70368744177664&&(Nat.ble (xs.length+ys.length) 70368744177664&&((ys.all fun r=>(r.length==sz)&&kE r)&&(xs.all fun r=>r.length==sz)))
theorem BB {xs ys:List (List AV)} {bytes sz:Nat} (h:Fb xs ys bytes sz=true):aF.AL xs ys bytes sz:=by
 simp only[Fb,qaG,qa1,qbA]at h;exact⟨qaH h.1,qaH h.2.1,h.2.2.1,h.2.2.2⟩
def xk (j:Int) (rows:List (List PV)) (sz:Nat):Bool:=decide (0≤j)&&(decide (j<rows.length)&&((rows.getD j.toNat []).length==sz))
theorem rT {j:Int} {rows:List (List PV)} {sz:Nat} (h:xk j rows sz=true):aF.tu j rows sz:=by
 simp only[xk,qaG,qae,qbA]at h;exact h
def M3 (j:Int) (rows:List (List AV)) (sz:Nat):Bool:=decide (0≤j)&&(decide (j<rows.length)&&((rows.getD j.toNat []).length==sz))
theorem M4 {j:Int} {rows:List (List AV)} {sz:Nat} (h:M3 j rows sz=true):aF.ain j rows sz:=by
 simp only[M3,qaG,qae,qbA]at h;exact h
def rU (l h:Int) (rows:List (List PV)) (sz:Nat):Bool:=decide (0≤l)&&(decide (l≤h)&&(decide (h≤rows.length)&&(decide (l=0)||uJ sz rows)))
theorem na {l h:Int} {rows:List (List PV)} {sz:Nat} (e:rU l h rows sz=true):aF.wZ l h rows sz:=by
 simp only[rU,qaG,qb7,qae]at e;exact⟨e.1,e.2.1,e.2.2.1,e.2.2.2.imp id xE⟩
def Uw (l h:Int) (rows spare:List (List PV)) (sz:Nat):Bool:=decide (0≤l)&&(decide (l≤h)&&(decide (h≤rows.length+spare.length)&&(decide (l=0)||uJ sz (rows++spare))))
theorem M5 {l h:Int} {rows spare:List (List PV)} {sz:Nat} (e:Uw l h rows spare sz=true):aF.Xg l h rows spare sz:=by
 simp only[Uw,qaG,qb7,qae]at e;exact⟨e.1,e.2.1,e.2.2.1,e.2.2.2.imp id xE⟩
def rV (rows:List (List PV)):Bool:=rows.all fun r=>match r with|[.int .u8 _]=>true|_=>false
theorem o5 {rows:List (List PV)} (h:rV rows=true):aF.qE rows:=by
 intro r hr;have:=qa1.1 h r hr;split at this
 ·exact⟨_,rfl⟩
 ·cases this
def iu:List Nat→List PV→List PV→Bool
 |[],[],[]=>true
 |0::sh,.bool _::r,.bool _::s=>iu sh r s
 |1::sh,.int k _::r,.int k' _::s=>decide (k=k')&&iu sh r s
 |2::sh,.str _::r,.str _::s=>iu sh r s
 |_,_,_=>false
theorem nK:∀{sh:List Nat} {a b:List PV},iu sh a b=true→aR sh a b:=by
 intro sh a b h
 fun_induction iu sh a b with
 |case1=>simp[aR]
 |case2 sh _ r _ s ih=>simp only[aR];exact ih h
 |case3 sh k _ r k' _ s ih=>simp only[aR];simp only[qaG,qae]at h;exact⟨h.1,ih h.2⟩
 |case4 sh _ r _ s ih=>simp only[aR];exact ih h
 |case5=>cases h
def uo (sh:List Nat) (kn:Nat) (rows:List (List PV)) (k:List PV):Bool:=(k.length==kn)&&(iu sh k k&&rows.all fun r=>iu sh k (r.take kn))
theorem rW {sh:List Nat} {kn:Nat} {rows:List (List PV)} {k:List PV} (h:uo sh kn rows k=true):aF.CZ sh kn rows k:=by
 simp only[uo,qaG,qbA,qa1]at h;exact⟨h.1,nK h.2.1,fun r hr=>nK (h.2.2 r hr)⟩
def BC (s:List UInt8):List (List UInt8×AV)→Bool
 |[]=>true
 |(t,_)::r=>(!decide (s=t))&&BC s r
theorem BD {s:List UInt8}:∀{l:List (List UInt8×AV)},BC s l=true→anew s l
 |[],_=>trivial
 |(t,v)::r,h=>by
  simp only[BC,qaG,Bool.not_eq_true',qad]at h;exact⟨h.1,BD h.2⟩
def GV (j:Int) (n:Nat):Bool:=decide (0≤j)&&decide (j<n)
theorem uK {j:Int} {n:Nat} (h:GV j n=true):aF.PS j n:=by
 simp only[GV,qaG,qae]at h;exact h
def M6 (l c:Int) (b:Nat):Bool:=decide (0≤l)&&(decide (l≤c)&&(decide (c*b≤140737488355328)&&decide (c≤140737488355328)))
theorem M7 {l c:Int} {b:Nat} (h:M6 l c b=true):aF.WD l c b:=by
 simp only[M6,qaG,qae]at h;exact h
def sW (sz:Nat) (x:AV) (lo hi:Option Int):Bool:=
 match x with
 |.pv (.sl rows spare)=>match hi with
  |none=>rU (lo.getD 0) rows.length rows sz
  |some h=>match spare with
   |[]=>rU (lo.getD 0) h rows sz
   |s=>Uw (lo.getD 0) h rows s sz
 |.full rows=>match hi with
  |none=>rU (lo.getD 0) rows.length rows sz
  |some h=>rU (lo.getD 0) h rows sz
 |_=>true
theorem rX {sz:Nat} {x:AV} {lo hi:Option Int} (h:sW sz x lo hi=true):iB (nj aF sz x lo hi):=by
 unfold nj;split
 ·rename_i rows spare
  cases hi with
  |none=>exact na h
  |some hh=>
   cases spare with
   |nil=>exact na h
   |cons a r=>exact M5 h
 ·cases hi with
  |none=>exact na h
  |some hh=>exact na h
 ·trivial
def uL (mem:List (Option Obj)) (sz:Nat) (x:AV) (lo hi:Option Int):Bool:=
 match x with
 |.c8 id _=>match aj mem id with
  |some (.eO rs _)=>sW sz (.pv (.sl rs [])) lo hi
  |some (.rows _ rs _)=>rU (lo.getD 0) (hi.getD rs.length) rs sz
  |_=>true
 |x=>sW sz x lo hi
theorem Dy {mem:List (Option Obj)} {sz:Nat} {x:AV} {lo hi:Option Int} (h:uL mem sz x lo hi=true):Dw mem (mI aF sz x lo hi):=by
 unfold uL at h;split at h
 ·simp only[mI,Dw];intro ob bL;rw[bL]at h;split
  ·split
   ·exact rX h
   ·trivial
  ·split
   ·exact na h
   ·trivial
  ·trivial
 ·rename_i hn;unfold mI;split
  ·rename_i a b;exact(hn a b rfl).elim
  ·exact rX h
def jk (mem:List (Option Obj)) (id:Nat) (f:List (List PV)→Bool) (g:List (List AV)→Bool):Bool:=
 match aj mem id with
 |some (.rows _ rs _)=>f rs
 |some (.eO rs _)=>f rs
 |some (.cL _ rs _)=>f rs
 |some (.cg _ rs _)=>g rs
 |_=>true
def Jd (mem:List (Option Obj)) (sz bytes:Nat) (x y:AV):Bool:=
 match x with
 |.full xs=>match uv xs y with
  |true=>true
  |false=>match gE aF y with
   |some ys=>qp xs ys bytes sz&&Uv xs ys
   |none=>match y with
    |.kM ys=>Fb (xs.map (·.map .pv)) ys bytes sz&& !jA ys
    |_=>true
 |.c8 id _=>jk mem id
  (fun rs=>match gE aF y with|some ys=>qp rs ys bytes sz|none=>true)
  (fun rs=>match pB aF y with|some ys=>Fb rs ys bytes sz|none=>true)
 |_=>true
def ck (mem:List (Option Obj)) (op:wQ) (ρ:bR→AV):Bool:=
 match op with
 |.bin op x y=>match ρ x,ρ y with
  |.pv (.int _ _),.pv (.int _ b)=>match op with
   |.quo|.rem=> !decide (b=0)
   |.shl|.shr=>decide (0≤b)
   |_=>true
  |.pv (.str a),.pv (.str b)=>match op with
   |.add=>Nat.ble (a.length+b.length) 9223372036854775807
   |_=>true
  |_,_=>true
 |.beq _ sh x y=>match(ρ x).flat,(ρ y).flat with
  |some (.agg xs),some (.agg ys)=>iu sh xs ys
  |_,_=>true
 |.Li sz x lo hi=>match cX ρ lo,cX ρ hi with
  |some l,some h=>uL mem sz (ρ x) l h
  |_,_=>true
 |.sH x lo hi=>match cX ρ lo,cX ρ hi with
  |some l,some h=>match ρ x with
   |.pv (.str s)=>decide (0≤l.getD 0)&&(decide (l.getD 0≤h.getD s.length)&&decide (h.getD s.length≤s.length))
   |_=>true
  |_,_=>true
 |.idx x i sz=>match ρ i with
  |.pv (.int _ j)=>match ρ x with
   |.pv (.sl rows _)=>xk j rows sz
   |.full rows=>xk j rows sz
   |.c8 id _=>jk mem id (fun rs=>xk j rs sz) (fun rs=>M3 j rs sz)
   |_=>true
  |_=>true
 |.SL x i=>match ρ x,ρ i with
  |.pv (.str s),.pv (.int _ j)=>decide (0≤j)&&decide (j<s.length)
  |_,_=>true
 |.app sz bytes x y=>Jd mem sz bytes (ρ x) (ρ y)
 |.Ql x=>match ρ x with
  |.pv (.sl rows _)=>rV rows
  |.full rows=>rV rows
  |.c8 id _=>jk mem id rV fun _=>true
  |_=>true
 |.SK _ bytes _ l c=>match ρ l,ρ c with
  |.pv (.int .i64 l),.pv (.int .i64 c)=>M6 l c bytes
  |_,_=>true
 |.UM sz x hi=>match ρ hi with
  |.pv (.int _ h)=>match ρ x with
   |.c8 id _=>jk mem id (fun rs=>rU 0 h rs sz) fun _=>true
   |_=>true
  |_=>true
 |.Lj _ i n _=>match ρ i with
  |.pv (.int _ j)=>GV j n
  |_=>true
 |.SV _ i n=>match ρ i with
  |.pv (.int _ j)=>GV j n
  |_=>true
 |.Ll kg sh _ _ m k=>match ρ m with
  |.pv .oh=>match keyOf kg sh.length (ρ k)with|some kc=>uo sh sh.length [] kc|none=>true
  |.pv (.mp _ _ kn rows)=>match keyOf kg kn (ρ k)with|some kc=>uo sh kn rows kc|none=>true
  |.dt id=>match aj mem id with
   |some (.map _ _ kn rows)=>match keyOf kg kn (ρ k)with|some kc=>uo sh kn rows kc|none=>true
   |_=>true
  |_=>true
 |.Qm kg sh _ m k _=>match ρ m with
  |.dt id=>match aj mem id with
   |some (.map _ _ kn rows)=>match keyOf kg kn (ρ k)with|some kc=>uo sh kn rows kc|none=>true
   |some (.iw rows)=>match oC kg sh (ρ k)with|some s=>BC s rows|none=>true
   |_=>true
  |_=>true
 |.sI kg sh _ m k=>match ρ m with
  |.dt id=>match aj mem id with
   |some (.map _ _ kn rows)=>match keyOf kg kn (ρ k)with|some kc=>uo sh kn rows kc|none=>true
   |_=>true
  |_=>true
 |.AH _ m s _=>match ρ m,ρ s with
  |.dt id,.eT _ i=>match aj mem id with
   |some (.map _ _ _ rows)=>decide (0≤i)&&decide (i<rows.length)
   |_=>true
  |_,_=>true
 |.CX x=>match ρ x with
  |.pv (.sl rows sp)=> !jA (rows++sp)
  |_=>true
 |.SY x=>match ρ x with
  |.c8 id _=>jk mem id (fun rs=>xk 0 rs 1) fun _=>true
  |_=>true
 |.SZ _ x n=>match ρ n,ρ x with
  |.pv (.int _ n),.cR id _ j _=>jk mem id (fun rs=>rV rs&&(decide (n=rs.length)&&(decide (j=0)&&qp rs [] 1 1))) fun _=>true
  |_,_=>true
 |.AJ _ x y=>match gE aF (ρ y)with
  |some ys=>match ρ x with
   |.full []=>qp [] ys 1 1&& !jA ys
   |.c8 id _=>jk mem id (fun rs=>qp rs ys 1 1&& !jA ys) fun _=>true
   |_=>true
  |none=>true
 |_=>true
theorem kU {α:Type} {l:List α} (h:(!jA l)=true):l≠[]:=by
 intro e;subst e;simp[jA]at h
theorem vY {cs:List AV} {off:Nat} {n:Option Nat}:iB (js cs off n):=by
 unfold js;split<;>split<;>trivial
theorem tW {cs:List PV} {off:Nat} {n:Option Nat}:iB (il cs off n):=by
 unfold il;split<;>split<;>trivial
theorem yz {op:BinOp} {b:Bool}:iB (mH op b):=by
 unfold mH;split<;>trivial
theorem vZ {k:List UInt8} {z:AV} {ok:Bool}:∀{l:List (List UInt8×AV)},iB (jM aF k z ok l)
 |[]=>trivial
 |(s,v)::r=>by
  unfold jM;split
  ·trivial
  ·exact vZ
theorem Q3 {mem:List (Option Obj)} {k:Nat} {op:wQ} {ρ:bR→AV} (h:ck mem op ρ=true):Dw mem (KA aF k op ρ):=by
 cases op with
 |mv|alloc|SJ|call|CW|SX|Ww|SP|c8|SI=>
  simp only[KA];repeat' (first|trivial|split)
 |pick|box|mk|Wt|Wu|Xe|Wv|ext|AF|lens|SN|Ws|pad|SQ|SU|Wy|WA|sJ|WB|WC|pp=>
  simp only[KA];repeat' (first|trivial|exact yz|(intro ob bL;dsimp only)|split)
 |len x=>simp only[KA,yX];repeat' (first|trivial|(intro ob bL;dsimp only)|split)
 |Wx x=>simp only[KA,uw];repeat' (first|trivial|(intro ob bL;dsimp only)|split)
 |Wz x=>simp only[KA,ae2];repeat' (first|trivial|(intro ob bL;dsimp only)|split)
 |Gr x=>simp only[KA,ae3];repeat' (first|trivial|(intro ob bL;dsimp only)|split)
 |Gs x=>simp only[KA,ux];repeat' (first|trivial|(intro ob bL;dsimp only)|split)
 |ld x n=>simp only[KA,ur];repeat' (first|trivial|exact vY|exact tW|(intro ob bL;dsimp only)|split)
 |st x y n=>simp only[KA,rq];repeat' (first|trivial|(intro ob bL;dsimp only)|split)
 |SW x off n=>simp only[KA];repeat' (first|trivial|exact vY|exact tW|split)
 |AG fn op x y=>simp only[KA];show iB _;unfold EI;repeat' (first|trivial|exact yz|split)
 |CV op x y=>simp only[KA];show iB _;unfold EH;repeat' (first|trivial|split)
 |CU op x y=>simp only[KA];show iB _;unfold yV uu;repeat' (first|trivial|split)
 |un op x=>simp only[KA];show iB _;unfold Lv;repeat' (first|trivial|split)
 |bin op x y=>
  simp only[KA];show iB (xK aF op (ρ x) (ρ y));simp only[ck]at h;unfold xK;split
  ·rename_i k a k' b hx hy;rw[hx,hy]at h;simp only at h;split
   ·exact(qaZ h:(0:Int)≤b)
   ·exact(qaZ h:(0:Int)≤b)
   ·split
    ·cases op<;>simp only[uT]<;>first|trivial|(exact(by simpa using h:b≠0))
    ·trivial
  ·rename_i a b hx hy;rw[hx,hy]at h;simp only at h
   cases op<;>simp only[uU]<;>first|trivial|exact qaH h
  ·trivial
 |beq op sh x y=>
  simp only[KA];show iB (AO aF op sh (ρ x) (ρ y));simp only[ck]at h;unfold AO;split
  ·rename_i xs ys hx hy;rw[hx,hy]at h;simp only at h
   cases op<;>first|trivial|exact nK h
  ·trivial
 |Li sz x lo hi=>
  simp only[KA];simp only[ck]at h;split
  ·rename_i l hh h1 h2;rw[h1,h2]at h;exact Dy h
  ·trivial
 |sH x lo hi=>
  simp only[KA];simp only[ck]at h;split
  ·rename_i l hh h1 h2;rw[h1,h2]at h;show iB (oB aF (ρ x) l hh);unfold oB;split
   ·rename_i s hx;rw[hx]at h;simp only[qaG,qae]at h;exact h
   ·trivial
  ·trivial
 |idx x i sz=>
  simp only[KA];simp only[ck]at h;split
  ·rename_i k j hi;rw[hi]at h;simp only at h;unfold yW;split
   ·rename_i hx;rw[hx]at h;exact rT h
   ·rename_i hx;rw[hx]at h;exact rT h
   ·rename_i hx;rw[hx]at h;intro ob bL;dsimp only;simp only[jk,bL]at h;split
    ·split
     ·exact rT h
     ·trivial
    ·split
     ·exact rT h
     ·trivial
    ·split
     ·exact M4 h
     ·trivial
    ·trivial
   ·trivial
  ·trivial
 |SL x i=>
  simp only[KA];simp only[ck]at h;split
  ·rename_i s k j hx hi;rw[hx,hi]at h;simp only[qaG,qae]at h;exact h
  ·trivial
 |app sz bytes x y=>
  simp only[KA];simp only[ck]at h;unfold Jd at h;unfold yY;split
  ·rename_i xs hx;rw[hx]at h;simp only at h;split
   ·trivial
   ·rename_i he;rw[he]at h;simp only at h;split
    ·rename_i ys hy;rw[hy]at h;simp only[qaG]at h;exact⟨o4 h.1,M1 h.2⟩
    ·rename_i hy;rw[hy]at h;simp only at h;split
     ·rename_i ys hya;rw[hya]at h;simp only[qaG]at h;exact⟨BB h.1,kU h.2⟩
     ·trivial
  ·rename_i id bq hx;rw[hx]at h;simp only at h;intro ob bL;dsimp only;simp only[jk,bL]at h;split
   ·split
    ·split
     ·split
      ·rename_i ys hy;simp only[hy]at h;exact o4 h
      ·trivial
     ·trivial
    ·trivial
   ·split
    ·split
     ·split
      ·rename_i ys hy;simp only[hy]at h;exact BB h
      ·trivial
     ·trivial
    ·trivial
   ·trivial
  ·trivial
 |Ql x=>
  simp only[KA];simp only[ck]at h;split
  ·rename_i hx;rw[hx]at h;exact o5 h
  ·rename_i hx;rw[hx]at h;exact o5 h
  ·rename_i hx;rw[hx]at h;intro ob bL;dsimp only;simp only[jk,bL]at h;split
   ·split
    ·exact o5 h
    ·trivial
   ·split
    ·exact o5 h
    ·trivial
   ·trivial
  ·trivial
 |SK sz bytes z l c=>
  simp only[KA];simp only[ck]at h;split
  ·rename_i h1 h2;rw[h1,h2]at h;exact M7 h
  ·trivial
 |UM sz x hi=>
  simp only[KA];simp only[ck]at h;split
  ·rename_i k hh h1;rw[h1]at h;simp only at h;unfold ru;split
   ·rename_i hx;rw[hx]at h;intro ob bL;dsimp only;simp only[jk,bL]at h;split
    ·split
     ·exact na h
     ·trivial
    ·trivial
   ·trivial
  ·trivial
 |Lj x i n sz=>
  simp only[KA];simp only[ck]at h;split
  ·rename_i hi;rw[hi]at h;exact uK h
  ·rename_i hi;rw[hi]at h;exact uK h
  ·trivial
 |SV x i n=>
  simp only[KA];simp only[ck]at h;split
  ·rename_i hi;rw[hi]at h;split
   ·exact uK h
   ·trivial
  ·rename_i hi;rw[hi]at h;split
   ·exact uK h
   ·trivial
  ·trivial
 |Ll kg sh z ok m k=>
  simp only[KA,uW];simp only[ck]at h;split
  ·rename_i hm;rw[hm]at h;split
   ·rename_i hk;simp only[hk]at h;exact rW h
   ·trivial
  ·rename_i hm;rw[hm]at h;split
   ·split
    ·rename_i hk;simp only[hk]at h;exact rW h
    ·trivial
   ·trivial
  ·rename_i hm;rw[hm]at h;intro ob bL;dsimp only;simp only[bL]at h;split
   ·split
    ·split
     ·rename_i hk;simp only[hk]at h;exact rW h
     ·trivial
    ·trivial
   ·split
    ·exact vZ
    ·trivial
   ·trivial
  ·trivial
 |Qm kg sh n m k v=>
  simp only[KA,EJ];simp only[ck]at h;split
  ·rename_i hm;rw[hm]at h;intro ob bL;dsimp only;simp only[bL]at h;split
   ·split
    ·split
     ·rename_i hk;split
      ·simp only[hk]at h;exact rW h
      ·trivial
     ·trivial
    ·trivial
   ·split
    ·rename_i hk;split
     ·simp only[hk]at h;exact BD h
     ·trivial
    ·trivial
   ·trivial
  ·trivial
 |sI kg sh z m k=>
  simp only[KA,uX];simp only[ck]at h;split
  ·rename_i hm;rw[hm]at h;intro ob bL;dsimp only;simp only[bL]at h;split
   ·split
    ·split
     ·rename_i hk;simp only[hk]at h;exact rW h
     ·trivial
    ·trivial
   ·trivial
  ·trivial
 |AH n m s v=>
  simp only[KA,yZ];simp only[ck]at h;split
  ·rename_i hm hs;rw[hm,hs]at h;simp only at h;split
   ·intro ob bL;dsimp only;simp only[bL]at h;split
    ·split
     ·simp only[qaG,qae]at h;exact h
     ·trivial
    ·trivial
   ·trivial
  ·trivial
 |CX x=>
  simp only[KA];simp only[ck]at h;split
  ·rename_i hx;rw[hx]at h;exact .inr (kU h)
  ·trivial
 |SY x=>
  simp only[KA];simp only[ck]at h;split
  ·rename_i hx;rw[hx]at h;intro ob bL;dsimp only;simp only[jk,bL]at h;split
   ·split
    ·exact rT h
    ·trivial
   ·trivial
  ·trivial
 |SZ t x n=>
  simp only[KA];simp only[ck]at h;split
  ·rename_i hn;split
   ·split
    ·rename_i hx;rw[hn,hx]at h;simp only at h;intro ob bL;dsimp only;simp only[jk,bL]at h;split
     ·split
      ·split
       ·simp only[qaG,qae]at h;exact⟨o5 h.1,h.2.1,h.2.2.1,o4 h.2.2.2⟩
       ·trivial
      ·trivial
     ·trivial
    ·trivial
   ·trivial
  ·trivial
 |AJ t x y=>
  simp only[KA];simp only[ck]at h;split
  ·rename_i ys hy;rw[hy]at h;simp only at h;split
   ·rename_i hx;rw[hx]at h;simp only[qaG]at h;exact⟨o4 h.1,kU h.2⟩
   ·rename_i hx;rw[hx]at h;intro ob bL;dsimp only;simp only[jk,bL]at h;split
    ·split
     ·split
      ·simp only[qaG]at h;exact⟨o4 h.1,kU h.2⟩
      ·trivial
     ·trivial
    ·trivial
   ·trivial
  ·trivial
end Go.Am
end
section
namespace Go.Am
mutual
def AV.lN:AV→AV→Bool
 |.pv a,.pv b=>PV.lN a b
 |.agg a,.agg b=>AV.ko a b
 |.eN a,.eN b=>AV.ko a b
 |.c8 i v,.c8 j u=>decide (i=j)&&decide (v=u)
 |.ptr i o,.ptr j q=>decide (i=j)&&decide (o=q)
 |.cR i v j o,.cR i' v' j' o'=>decide (i=i')&&(decide (v=v')&&(decide (j=j')&&decide (o=o')))
 |.fQ r o,.fQ s q=>PV.ko r s&&decide (o=q)
 |.full a,.full b=>PV.iH a b
 |.gM f a,.gM g b=>decide (f=g)&&AV.ko a b
 |.Ay f a,.Ay g b=>decide (f=g)&&AV.ko a b
 |.kM a,.kM b=>AV.iH a b
 |.dt i,.dt j=>decide (i=j)
 |.eT i n,.eT j m=>decide (i=j)&&decide (n=m)
 |.iU t,.iU u=>decide (t=u)
 |.dead,.dead=>true
 |_,_=>false
def AV.ko:List AV→List AV→Bool
 |[],[]=>true
 |a::r,b::s=>AV.lN a b&&AV.ko r s
 |_,_=>false
def AV.iH:List (List AV)→List (List AV)→Bool
 |[],[]=>true
 |a::r,b::s=>AV.ko a b&&AV.iH r s
 |_,_=>false
end
mutual
theorem AV.lC:∀(a b:AV),AV.lN a b=true→a=b
 |.pv a,b,h=>by
  cases b<;>simp[AV.lN]at h
  rw[PV.lC _ _ h]
 |.agg a,b,h=>by
  cases b<;>simp[AV.lN]at h
  rw[AV.fr _ _ h]
 |.eN a,b,h=>by
  cases b<;>simp[AV.lN]at h
  rw[AV.fr _ _ h]
 |.c8 i v,b,h=>by cases b<;>simp_all [AV.lN]
 |.ptr i v,b,h=>by cases b<;>simp_all [AV.lN]
 |.cR i v j o,b,h=>by cases b<;>simp_all [AV.lN]
 |.fQ r o,b,h=>by
  cases b<;>simp[AV.lN]at h
  rw[PV.fr _ _ h.1,h.2]
 |.full a,b,h=>by
  cases b<;>simp[AV.lN]at h
  rw[PV.fW _ _ h]
 |.gM f a,b,h=>by
  cases b<;>simp[AV.lN]at h
  rw[h.1,AV.fr _ _ h.2]
 |.Ay f a,b,h=>by
  cases b<;>simp[AV.lN]at h
  rw[h.1,AV.fr _ _ h.2]
 |.kM a,b,h=>by
  cases b<;>simp[AV.lN]at h
  rw[AV.fW _ _ h]
 |.dt i,b,h=>by cases b<;>simp_all [AV.lN]
 |.eT i n,b,h=>by cases b<;>simp_all [AV.lN]
 |.iU i,b,h=>by cases b<;>simp_all [AV.lN]
 |.dead,b,h=>by cases b<;>simp_all [AV.lN]
theorem AV.fr:∀(a b:List AV),AV.ko a b=true→a=b
 |[],[],_=>rfl
 |[],_::_,h=>by simp[AV.ko]at h
 |_::_,[],h=>by simp[AV.ko]at h
 |a::r,b::s,h=>by
  simp[AV.ko]at h;rw[AV.lC _ _ h.1,AV.fr _ _ h.2]
theorem AV.fW:∀(a b:List (List AV)),AV.iH a b=true→a=b
 |[],[],_=>rfl
 |[],_::_,h=>by simp[AV.iH]at h
 |_::_,[],h=>by simp[AV.iH]at h
 |a::r,b::s,h=>by
  simp[AV.iH]at h;rw[AV.fr _ _ h.1,AV.fW _ _ h.2]
end
def yA:List (List UInt8×AV)→List (List UInt8×AV)→Bool
 |[],[]=>true
 |(a,x)::r,(b,y)::s=>decide (a=b)&&(AV.lN x y&&yA r s)
 |_,_=>false
theorem BF:∀(a b:List (List UInt8×AV)),yA a b=true→a=b
 |[],[],_=>rfl
 |[],_::_,h=>by simp[yA]at h
 |_::_,[],h=>by simp[yA]at h
 |(a,x)::r,(b,y)::s,h=>by
  simp[yA]at h;rw[h.1,AV.lC _ _ h.2.1,BF _ _ h.2.2]
def Obj.lN:Obj→Obj→Bool
 |.cells a,.cells b=>AV.ko a b
 |.rows n a v,.rows m b u=>decide (n=m)&&(PV.iH a b&&decide (v=u))
 |.eO a v,.eO b u=>PV.iH a b&&decide (v=u)
 |.cg n a v,.cg m b u=>decide (n=m)&&(AV.iH a b&&decide (v=u))
 |.map a b c d,.map a' b' c' d'=>(a==a')&&((b==b')&&(decide (c=c')&&PV.iH d d'))
 |.iw a,.iw b=>yA a b
 |.fz s i,.fz t j=>decide (s=t)&&decide (i=j)
 |.eu a l,.eu b m=>PV.lN a b&&decide (l=m)
 |.cL n a v,.cL m b u=>decide (n=m)&&(PV.iH a b&&decide (v=u))
 |_,_=>false
theorem Obj.lC (a b:Obj) (h:Obj.lN a b=true):a=b:=by
 cases a<;>cases b<;>simp[Obj.lN]at h
 ·rw[AV.fr _ _ h]
 ·rw[h.1,PV.fW _ _ h.2.1,h.2.2]
 ·rw[PV.fW _ _ h.1,h.2]
 ·rw[h.1,AV.fW _ _ h.2.1,h.2.2]
 ·rw[h.1,h.2.1,h.2.2.1,PV.fW _ _ h.2.2.2]
 ·rw[BF _ _ h]
 ·rw[h.1,h.2]
 ·rw[PV.lC _ _ h.1,h.2]
 ·rw[h.1,PV.fW _ _ h.2.1,h.2.2]
def mu:List (Option Obj)→List (Option Obj)→Bool
 |[],[]=>true
 |none::r,none::s=>mu r s
 |some a::r,some b::s=>Obj.lN a b&&mu r s
 |_,_=>false
theorem sX:∀(a b:List (Option Obj)),mu a b=true→a=b
 |[],[],_=>rfl
 |[],_::_,h=>by simp[mu]at h
 |_::_,[],h=>by simp[mu]at h
 |none::r,none::s,h=>by
  simp only[mu]at h;rw[sX _ _ h]
 |none::r,some b::s,h=>by simp[mu]at h
 |some a::r,none::s,h=>by simp[mu]at h
 |some a::r,some b::s,h=>by
  simp[mu]at h;rw[Obj.lC _ _ h.1,sX _ _ h.2]
def St.lN (a b:St):Bool:=AV.ko a.slots b.slots&&(AV.ko a.held b.held&&(decide (a.base=b.base)&&mu a.mem b.mem))
theorem St.lC (a b:St) (h:St.lN a b=true):a=b:=by
 cases a;cases b
 simp[St.lN]at h;rw[AV.fr _ _ h.1,AV.fr _ _ h.2.1,h.2.2.1,sX _ _ h.2.2.2]
end Go.Am
end
section
namespace Go.Am
noncomputable def nth {α:Type} (z:α) (l:List α):Nat→α:=
 List.rec (motive:=fun _=>Nat→α) (fun _=>z) (fun x _ ih n=>Nat.rec (motive:=fun _=>α) x (fun m _=>ih m) n) l
theorem Dz {α:Type} (z:α):∀(l:List α) (i:Nat),nth z l i=l.getD i z
 |[],i=>by simp[nth]
 |x::r,0=>rfl
 |x::r,m+1=>(Dz z r m).trans (by simp)
noncomputable def zx (mem:List (Option Obj)) (id:Nat):Option Obj:=nth none mem id
theorem nL (mem:List (Option Obj)) (id:Nat):zx mem id=aj mem id:=Dz none mem id
noncomputable def Je (st:St) (x:bR):AV:=match st with
 |⟨s,_,_,_⟩=>match x with
  |.t i=>nth .dead s i
  |.k p=>match p with
   |.sl rows spare=>match rows with
    |[]=>match spare with
     |[]=>.full []
     |y::r=>.pv (.sl [] (y::r))
    |y::r=>.pv (.sl (y::r) spare)
   |p=>.pv p
  |.g row=>.fQ row 0
theorem sY (st:St):Je st=st.ev:=by
 funext x
 cases st with
 |mk s h b m=>
 cases x with
 |t i=>exact Dz .dead s i
 |g row=>rfl
 |k p=>
  cases p with
  |sl rows spare=>cases rows<;>cases spare<;>rfl
  |_=>rfl
section
variable {R:Type}
def iC (n:Nat) (k:Nat→R):R:=match n with
 |0=>k 0
 |m+1=>k (Nat.succ m)
theorem iT (n:Nat) (k:Nat→R):iC n k=k n:=by cases n<;>rfl
def BG (n:Int) (k:Int→R):R:=match n with
 |.ofNat m=>iC m fun m=>k (.ofNat m)
 |.negSucc m=>iC m fun m=>k (.negSucc m)
theorem pO (n:Int) (k:Int→R):BG n k=k n:=by cases n<;>simp only[BG,iT]
def Fc (b:Bool) (k:Bool→R):R:=match b with
 |true=>k true
 |false=>k false
theorem CG (b:Bool) (k:Bool→R):Fc b k=k b:=by cases b<;>rfl
noncomputable def pP {α:Type} (l:List α):(List α→R)→R:=
 List.rec (motive:=fun _=>(List α→R)→R) (fun k=>k []) (fun x _ ih k=>ih fun r'=>k (x::r')) l
theorem ja {α:Type}:∀(l:List α) (k:List α→R),pP l k=k l
 |[],_=>rfl
 |x::r,k=>ja r fun r'=>k (x::r')
noncomputable def M8 {α:Type} (l:List α):Nat→α→(List α→R)→R:=
 List.rec (motive:=fun _=>Nat→α→(List α→R)→R) (fun _ _ k=>k []) (fun x r ih n v k=>Nat.rec (motive:=fun _=>R) (k (v::r)) (fun m _=>ih m v fun r'=>k (x::r')) n) l
theorem uM {α:Type}:∀(l:List α) (n:Nat) (v:α) (k:List α→R),M8 l n v k=k (l.set n v)
 |[],_,_,_=>rfl
 |x::r,0,v,k=>rfl
 |x::r,m+1,v,k=>uM r m v fun r'=>k (x::r')
noncomputable def CH:List UInt8→(List UInt8→R)→R
 |[],k=>k []
 |x::r,k=>iC x.toNat fun n=>CH r fun r'=>k (UInt8.ofNat n::r')
theorem sZ:∀(l:List UInt8) (k:List UInt8→R),CH l k=k l
 |[],_=>rfl
 |x::r,k=>by simp only[CH,iT,sZ r,UInt8.ofNat_toNat]
noncomputable def pvF (xB:Bool) (p:PV) (k:PV→R):R:=match p with
 |.bool b=>Fc b fun b=>k (.bool b)
 |.int t n=>BG n fun n=>k (.int t n)
 |.str s=>match xB with
  |true=>CH s fun s=>k (.str s)
  |false=>k (.str s)
 |.sl rows spare=>match xB with
  |true=>pP rows fun rows=>k (.sl rows spare)
  |false=>k (.sl rows spare)
 |p=>k p
theorem Ux (h:Bool) (p:PV) (k:PV→R):pvF h p k=k p:=by
 cases p<;>simp only[pvF,CG,pO]<;>cases h<;>simp only[sZ,ja]
noncomputable def La (xB:Bool) (v:AV) (k:AV→R):R:=match v with
 |.pv p=>pvF xB p fun p=>k (.pv p)
 |.c8 id bq=>iC id fun id=>iC bq fun bq=>k (.c8 id bq)
 |.ptr id off=>iC id fun id=>iC off fun off=>k (.ptr id off)
 |.cR id bq j off=>iC id fun id=>iC bq fun bq=>BG j fun j=>iC off fun off=>k (.cR id bq j off)
 |.fQ row off=>iC off fun off=>k (.fQ row off)
 |.full rows=>pP rows fun rows=>k (.full rows)
 |.agg cs=>pP cs fun cs=>k (.agg cs)
 |.eN vs=>pP vs fun vs=>k (.eN vs)
 |v=>k v
theorem iD (h:Bool) (v:AV) (k:AV→R):La h v k=k v:=by
 cases v<;>simp only[La,Ux,iT,pO,ja]
noncomputable def Uy (o:Obj) (k:Obj→R):R:=match o with
 |.cells cs=>pP cs fun cs=>k (.cells cs)
 |.rows sz rs bq=>pP rs fun rs=>iC bq fun bq=>k (.rows sz rs bq)
 |.eO rs bq=>k (.eO rs bq)
 |.cg sz rs bq=>pP rs fun rs=>iC bq fun bq=>k (.cg sz rs bq)
 |.map a b c rows=>pP rows fun rows=>k (.map a b c rows)
 |.iw rows=>pP rows fun rows=>k (.iw rows)
 |.fz s pos=>BG pos fun pos=>k (.fz s pos)
 |.eu src seen=>k (.eu src seen)
 |.cL t rs bq=>pP rs fun rs=>iC bq fun bq=>k (.cL t rs bq)
theorem M9 (o:Obj) (k:Obj→R):Uy o k=k o:=by
 cases o<;>simp only[Uy,iT,pO,ja]
noncomputable def mw (st:St) (d:Option Nat) (v:AV) (k:St→R):R:=match st with
 |⟨s,h,b,m⟩=>match d with
  |none=>k ⟨s,h,b,m⟩
  |some d=>M8 s d v fun s=>k ⟨s,h,b,m⟩
theorem gn (st:St) (d:Option Nat) (v:AV) (k:St→R):mw st d v k=k (st.put d v):=by
 cases st;cases d<;>simp only[mw,St.put,uM]
noncomputable def GW (st:St) (id:Nat) (o:Obj) (k:St→R):R:=match st with
 |⟨s,h,b,m⟩=>Uy o fun o=>match Nat.ble (id+1) m.length with
  |true=>M8 m id (some o) fun m=>k ⟨s,h,b,m⟩
  |false=>pP (m++[some o]) fun m=>k ⟨s,h,b,m⟩
theorem l7 (st:St) (id:Nat) (o:Obj) (k:St→R):GW st id o k=k (st.aq id o):=by
 cases st with
 |mk s h b m=>
  simp only[GW,M9,St.aq,qG,uM,ja];split<;>rename_i hb<;>simp only[hb]
noncomputable def HM (st:St) (k:St→R):R:=match st with
 |⟨s,h,b,m⟩=>pP s fun s=>pP h fun h=>iC b fun b=>pP m fun m=>k ⟨s,h,b,m⟩
theorem lD (st:St) (k:St→R):HM st k=k st:=by
 cases st;simp only[HM,ja,iT]
end
def Fe:Nat→Nat→List (Option Nat)
 |_,0=>[]
 |i,n+1=>some i::Fe (i+1) n
def dz:Nat→List (Option Obj)→List (Option Nat)
 |_,[]=>[]
 |i,none::r=>dz (i+1) r
 |i,some _::r=>some i::dz (i+1) r
def St.closer (st:St):List (Option Nat):=Fe 0 (st.base+st.slots.length)++dz (st.base+st.slots.length) (st.mem.drop (st.base+st.slots.length))
noncomputable def adT {R:Type} (st:St) (k:St→R):R:=
 match Nat.ble st.mem.length (st.base+st.slots.length+120)with
 |true=>k st
 |false=>pP st.closer fun src=>match jN src with
  |true=>HM (st.mj src) k
  |false=>k st
theorem GX {R:Type} (st:St) (k:St→R):∃st',Fg st st'∧adT st k=k st':=by
 unfold adT;split
 ·exact⟨st,.refl _,rfl⟩
 ·rw[ja];split
  ·rename_i h;exact⟨_,.mj st _ h,lD _ _⟩
  ·exact⟨st,.refl _,rfl⟩
inductive RC where
 |fin (e:Ex) (st:St)
 |stop (x:Option AI) (f:FuncId) (args:List AV) (st:St) (is:List Item) (why:Nat)
def RC.holds (Q:Ex→St→Prop):RC→Prop
 |.fin e st=>Q e st
 |.stop ..=>False
abbrev BI:=FuncId→List PV→Option PV
def nM:wQ→Bool
 |.bin ..|.sH ..|.Ql _|.Xe _|.Li ..|.UM ..|.SU ..=>true
 |_=>false
def adU:List AV→Option (List PV)
 |[]=>some []
 |.pv p::r=>match adU r with|some l=>some (p::l)|none=>none
 |_::_=>none
theorem yB:∀{l:List AV} {ps:List PV},adU l=some ps→l=ps.map .pv
 |[],ps,h=>by simp only[adU,qaa]at h;subst h;rfl
 |x::r,ps,h=>by
  cases x with
  |pv p=>
   simp only[adU]at h;split at h
   ·rename_i l hl;simp only[qaa]at h;subst h;rw[yB hl];rfl
   ·cases h
  |_=>simp[adU]at h
def rY:List (List AV)→Option (List (List PV))
 |[]=>some []
 |x::r=>match adU x with
  |some p=>match rY r with|some l=>some (p::l)|none=>none
  |none=>none
theorem wa:∀{l:List (List AV)} {ps:List (List PV)},rY l=some ps→l=ps.map (·.map .pv)
 |[],ps,h=>by simp only[rY,qaa]at h;subst h;rfl
 |x::r,ps,h=>by
  simp only[rY]at h;split at h
  ·rename_i p hp;split at h
   ·rename_i l hl;simp only[qaa]at h;subst h;rw[wa hl,yB hp];rfl
   ·cases h
  ·cases h
def zy (st:St) (id:Nat):St:=match aj st.mem id with
 |some (.rows _ rs bq)=>st.AP id (iP rs bq)
 |some (.cg sz rs bq)=>match rY rs with
  |some N3=>match aj (st.aq id (.rows sz N3 bq)).mem id with
   |some (.rows _ rs2 ver2)=>(st.aq id (.rows sz N3 bq)).AP id (iP rs2 ver2)
   |_=>st
  |none=>st
 |some (.map kg vg kn rows)=>st.AP id (oF kg vg kn rows)
 |_=>st
theorem GY (st:St) (id:Nat):Fg st (zy st id):=by
 unfold zy;split
 ·rename_i h;exact .AQ h
 ·rename_i h;split
  ·rename_i N3 hr;split
   ·rename_i h2;exact .trans (.plain h (wa hr)) (.AQ h2)
   ·exact .refl _
  ·exact .refl _
 ·rename_i h;exact .S4 h
 ·exact .refl _
noncomputable def my {R:Type}:List (Option Nat)→St→(St→R)→R
 |[],st,k=>k st
 |none::r,st,k=>my r st k
 |some id::r,st,k=>HM (zy st id) fun st=>my r st k
theorem kV {R:Type}:∀(l:List (Option Nat)) (st:St) (k:St→R),∃st',Fg st st'∧my l st k=k st'
 |[],st,k=>⟨st,.refl _,rfl⟩
 |none::r,st,k=>kV r st k
 |some id::r,st,k=>by
  obtain⟨st',h1,h2⟩:=kV r (zy st id) k;exact⟨st',.trans (GY st id) h1,by simp only[my,lD];exact h2⟩
section
variable (T:Mj) (B:BI)
def xl (d:Option Nat) (k:Nat) (st:St):Out→Option Ev
 |.val v=>some ⟨d,v,none⟩
 |.dG _ v=>some ⟨d,v,none⟩
 |.dp id o v=>match Nat.ble (id+1) st.mem.length with|true=>some ⟨d,v,some (id,o)⟩|false=>none
 |.ix _ id o v=>match Nat.ble (id+1) st.mem.length with|true=>some ⟨d,v,some (id,o)⟩|false=>none
 |.new o v=>match aj st.mem k with
  |none=>match Nat.ble (k+1) st.mem.length with|true=>some ⟨d,v,some (k,o)⟩|false=>none
  |some _=>none
 |.jK _ o v=>match aj st.mem k with
  |none=>match Nat.ble (k+1) st.mem.length with|true=>some ⟨d,v,some (k,o)⟩|false=>none
  |some _=>none
 |.call f args=>match dB st.mem args with
  |some (ps,b)=>match B f ps with
   |some res=>match(match b with|true=>res.jf|false=>true)with|true=>some ⟨d,.pv res,none⟩|false=>none
   |none=>none
  |none=>none
 |_=>none
def ZD (d:Option Nat) (k:Nat) (st:St):sE→Option Ev
 |.pure o=>xl B d k st o
 |.rd id f=>match aj st.mem id with
  |some ob=>xl B d k st (f ob)
  |none=>none
def Jf (x:AI) (st:St):Option (Ev×eP):=
 match guardOf st x.g with
 |some true=>match ck st.mem x.op st.ev with
  |true=>match ZD B x.d (st.base+x.d.getD 0) st (KA aF (st.base+x.d.getD 0) x.op st.ev)with
   |some e=>some (e,eC (st.base+x.d.getD 0) st (KA aF (st.base+x.d.getD 0) x.op st.ev))
   |none=>none
  |false=>none
 |some false=>some (⟨x.d,tw,none⟩,gR)
 |none=>none
def wb:List AI→List (List Nat)→List eP→St→Option (List (Ev×eP))
 |[],_,_,_=>some []
 |x::xs,lt,cE,st=>match Jf B x st with
  |some (e,f)=>match iy (lt.headD []) f 0 cE with
   |true=>match wb xs lt.tail (cE++[f]) (e.app st)with
    |some r=>some ((e,f)::r)
    |none=>none
   |false=>none
  |none=>none
def zz (lt:List (List Nat)) (c:Nat):Nat→Nat→List (List Bool)
 |_,0=>[[]]
 |i,n+1=>match(i==c)||(lt.getD i []).contains c with
  |true=>(zz lt c (i+1) n).map (false::·)
  |false=>match(lt.getD c []).contains i with
   |true=>(zz lt c (i+1) n).map (true::·)
   |false=>(zz lt c (i+1) n).map (false::·)++(zz lt c (i+1) n).map (true::·)
def Jg (lt:List (List Nat)) (Z:List Bool):Bool:=(List.range Z.length).all fun i=> !(Z.getD i false)||(lt.getD i []).all fun k=>Z.getD k false
noncomputable def Ff (go:List Item→St→RC) (x:AI) (l2:List AI) (lt:List (List Nat)) (st:St):Option St:=
 match KA aF (st.fresh x) x.op st.ev with
 |.pure (.call f args)=>match T f with
  |some (ac,eF,nt)=>match HM (enter nt args st) (go [.code ac,.frame eF st.slots.length st.base x.d,.fD l2 lt []])with
   |.fin .normal s=>some s
   |_=>none
  |none=>none
 |_=>none
def od (hs:FuncId→Bool):Nat→List AI→Option (Nat×AI)
 |_,[]=>none
 |i,x::r=>match x.op with
  |.call f _=>match hs f with|true=>some (i,x)|false=>od hs (i+1) r
  |.AF _ _=>match hs 999999 with|true=>some (i,x)|false=>od hs (i+1) r
  |_=>od hs (i+1) r
noncomputable def Jh (go:List Item→St→RC) (c:Nat) (x:AI) (ops:List AI) (lt:List (List Nat)) (es:List Ev) (st:St) (s1:St):List (List Bool)→Bool
 |[]=>true
 |Z::r=>match Jg lt Z with
  |false=>Jh go c x ops lt es st s1 r
  |true=>match HM (cM (fun i=>Z.getD i false) 0 es st) fun stz=>Ff T go x (jg (fun i=>(i==c)||Z.getD i false) 0 ops) lt stz with
   |some s=>match St.lN s s1 with|true=>Jh go c x ops lt es st s1 r|false=>false
   |none=>false
noncomputable def Fh (go:List Item→St→RC) (c:Nat) (x:AI) (ops:List AI) (lt:List (List Nat)) (st:St):Option St:=
 match xM ops with
 |false=>none
 |true=>match x.g with
  |some _=>none
  |none=>match wb B (jg (fun i=>(i==c)||(lt.getD i []).contains c) 0 ops) lt [] st with
   |none=>none
   |some r=>match HM (cM (fun i=> !((i==c)||(lt.getD i []).contains c)) 0 (r.map (·.1)) st) fun stz=>Ff T go x (jg (fun i=>(i==c)|| !((i==c)||(lt.getD i []).contains c)) 0 ops) lt stz with
    |none=>none
    |some s1=>match Jh T go c x ops lt (r.map (·.1)) st s1 (zz lt c 0 ops.length)with
     |true=>some s1
     |false=>none
end
section
variable (T:Mj) (B:BI) (ox pf hs:FuncId→Bool)
noncomputable def oy (dr:Bool) (x:AI) (m:Nat) (st:St) (is gk:List Item) (go:List Item→St→RC):Out→RC
 |.bad=>.stop (some x) 0 [] st gk 0
 |.val v=>La (nM x.op) v fun v=>mw st x.d v (go is)
 |.dG _ v=>La (nM x.op) v fun v=>mw st x.d v (go is)
 |.dp id o v=>match xO dr id st.mem.length with
  |true=>GW st id o fun st'=>La (nM x.op) v fun v=>mw st' x.d v (go is)
  |false=>.stop (some x) 0 [] st gk 1
 |.ix _ id o v=>match xO dr id st.mem.length with
  |true=>GW st id o fun st'=>La (nM x.op) v fun v=>mw st' x.d v (go is)
  |false=>.stop (some x) 0 [] st gk 1
 |.new o v=>match zx st.mem m with
  |none=>match Nat.ble (qI dr m) st.mem.length with
   |true=>GW st m o fun st'=>La (nM x.op) v fun v=>mw st' x.d v (go is)
   |false=>.stop (some x) 0 [] st gk 2
  |some _=>.stop (some x) 0 [] st gk 3
 |.jK _ o v=>match zx st.mem m with
  |none=>match Nat.ble (qI dr m) st.mem.length with
   |true=>GW st m o fun st'=>La (nM x.op) v fun v=>mw st' x.d v (go is)
   |false=>.stop (some x) 0 [] st gk 2
  |some _=>.stop (some x) 0 [] st gk 3
 |.call f args=>match(match dr with|true=>none|false=>match pf f with|true=>none|false=>T f)with
  |some (ac,eF,nt)=>HM (enter nt args st) (go (.code ac::.frame eF st.slots.length st.base x.d::is))
  |none=>match(match dr with|true=>false|false=>ox f)with
   |true=>match args with
    |[a]=>mw st x.d a (go is)
    |_=>.stop (some x) f args st gk 4
   |false=>match dB st.mem args with
    |some (ps,b)=>match B f ps with
     |some res=>match(match b with|true=>res.jf|false=>true)with
      |true=>mw st x.d (.pv res) (go is)
      |false=>.stop (some x) f args st gk 5
     |none=>.stop (some x) f args st gk 6
    |none=>.stop (some x) f args st gk 7
 |.all ..=>.stop (some x) 0 [] st gk 8
noncomputable def GZ (dr:Bool) (x:AI) (m:Nat) (st:St) (is gk:List Item) (go:List Item→St→RC):RC:=
 match ck st.mem x.op (Je st)with
 |true=>match KA aF m x.op (Je st)with
  |.pure o=>oy T B ox pf dr x m st is gk go o
  |.rd id f=>match zx st.mem id with
   |some ob=>oy T B ox pf dr x m st is gk go (f ob)
   |none=>.stop (some x) 0 [] st gk 9
 |false=>.stop (some x) 0 [] st gk 10
noncomputable def Fi (x:AI) (xs:List AI) (lt:List (List Nat)) (cE:List eP) (r:List Item) (st:St) (go:List Item→St→RC):RC:=
 match iy (lt.headD []) (eC (st.base+x.d.getD 0) st (KA aF (st.base+x.d.getD 0) x.op st.ev)) 0 cE with
 |true=>GZ T B ox pf true x (st.base+x.d.getD 0) st (.fD xs lt.tail (cE++[eC (st.base+x.d.getD 0) st (KA aF (st.base+x.d.getD 0) x.op st.ev)])::r) (.fD (x::xs) lt cE::r) go
 |false=>.stop (some x) 0 [] st (.fD (x::xs) lt cE::r) 11
noncomputable def xm (st:St):Option (Nat×Bool)→Option Bool
 |none=>some true
 |some (j,want)=>match Je st (.t j)with
  |.pv (.bool b)=>match b with
   |true=>match want with|true=>some true|false=>some false
   |false=>match want with|true=>some false|false=>some true
  |.pv (.eN _)=>some false
  |_=>none
noncomputable def YI:Nat→List Item→St→RC
 |0,is,st=>.stop none 0 [] st is 12
 |_+1,[],st=>.fin .normal st
 |n+1,i::r,st=>match i with
  |.frame eF m base d=>match lT eF st with
   |some v=>HM (leave m base st) fun st'=>La false v fun v=>mw st' d v (YI n r)
   |none=>.stop none 0 [] st (i::r) 13
  |.ops l=>match l with
   |[]=>YI n r st
   |x::xs=>match xm st x.g with
    |some true=>GZ T B ox pf false x (st.fresh x) st (.ops xs::r) (.ops (x::xs)::r) (YI n)
    |some false=>mw st x.d tw (YI n (.ops xs::r))
    |none=>.stop (some x) 0 [] st (.ops (x::xs)::r) 14
  |.fD l lt cE=>match l with
   |[]=>YI n r st
   |x::xs=>match xm st x.g with
    |some true=>Fi T B ox pf x xs lt cE r st (YI n)
    |some false=>mw st x.d tw (YI n (.fD xs lt.tail (cE++[gR])::r))
    |none=>.stop (some x) 0 [] st (.ops (x::xs)::r) 14
  |.Az _=>YI n r st
  |.code c=>match c with
   |.skip=>YI n r st
   |.pA ops lt=>match lt with
    |none=>match hs 2000000 with
     |false=>YI n (.ops ops::r) st
     |true=>match od (fun f=>hs (f+3000000)) 0 ops with
      |none=>YI n (.ops ops::r) st
      |some _=>pP (dz 0 st.mem) fun l=>my l st fun st=>my l st fun st=>my l st fun st=>YI n (.ops ops::r) st
    |some lt=>match od hs 0 ops with
     |none=>match od (fun f=>hs (f+1000000)) 0 ops with
      |none=>YI n (.fD ops lt []::r) st
      |some _=>pP (dz 0 st.mem) fun l=>my l st fun st=>YI n (.fD ops lt []::r) st
     |some (c,x)=>match Fh T B (YI n) c x ops lt st with
      |some s1=>HM s1 (YI n r)
      |none=>.stop (some x) 0 [] st (.code (.pA ops (some lt))::r) 18
   |.seq a b=>YI n (.code a::.code b::r) st
   |.cond c a b=>match Je st c with
    |.pv (.bool t)=>match t with|true=>YI n (.code a::r) st|false=>YI n (.code b::r) st
    |_=>.stop none 0 [] st r 15
   |.block id b=>YI n (.code b::.Az id::r) st
   |.loop b=>adT st fun st=>YI n (.code b::.code (.loop b)::r) st
   |.exit id=>match exitTo id r with|some r'=>YI n r' st|none=>.stop none 0 [] st r 16
   |.ret=>match kb r with
    |some ((eF,m,base,d),r')=>match lT eF st with
     |some v=>HM (leave m base st) fun st'=>La false v fun v=>mw st' d v (YI n r')
     |none=>.stop none 0 [] st r 17
    |none=>.fin .ret st
end
section
variable {C:CT} {I:IC} {T:Mj} {B:BI} {ox pf hs:FuncId→Bool}
variable (hI:Gv I) (hT:oI C aF I T) (hB:∀f ps res,B f ps=some res→C f ps none res) (hid:∀f,ox f=true→∀x st K,K x st→I f [x] st K)
include hI hT hB hid
theorem wc {dr:Bool} {x:AI} {m:Nat} {st:St} {is gk:List Item} {go:List Item→St→RC} {Q:Ex→St→Prop} {o:Out} (hp:iB o)
  (hk:∀is s,(go is s).holds Q→bH C aF I is Q .normal s)
  (h:(oy T B ox pf dr x m st is gk go o).holds Q):ml C (oH dr I) m x st (fun s=>bH C aF I is Q .normal s) o:=by
 have jh:∀{n:Nat},Nat.ble (qI dr m) n=true→ae4 (oH dr I) m n:=by
  intro n hn;have:=qaH hn
  cases dr
  ·exact this
  ·exact this
 have HX:∀{id n:Nat},xO dr id n=true→EK (oH dr I) id n:=by
  intro id n hn
  cases dr
  ·trivial
  ·exact qaH hn
 cases o with
 |bad=>exact h.elim
 |val v=>simp only[oy,iD,gn]at h;exact hk _ _ h
 |dG p v=>simp only[oy,iD,gn]at h;exact⟨hp,hk _ _ h⟩
 |dp id o v=>
  simp only[oy,iD,gn,l7,nL]at h;split at h
  ·rename_i hu;exact⟨HX hu,hk _ _ h⟩
  ·exact h.elim
 |ix p id o v=>
  simp only[oy,iD,gn,l7,nL]at h;split at h
  ·rename_i hu;exact⟨HX hu,hp,hk _ _ h⟩
  ·exact h.elim
 |new o v=>
  simp only[oy,iD,gn,l7,nL]at h;split at h
  ·rename_i hm;split at h
   ·rename_i hd;exact⟨hm,jh hd,hk _ _ h⟩
   ·exact h.elim
  ·exact h.elim
 |jK p o v=>
  simp only[oy,iD,gn,l7,nL]at h;split at h
  ·rename_i hm;split at h
   ·rename_i hd;exact⟨hm,jh hd,hp,hk _ _ h⟩
   ·exact h.elim
  ·exact h.elim
 |call f args=>
  simp only[oy,lD,gn]at h;split at h
  ·rename_i ac eF nt ht
   cases dr with
   |true=>cases ht
   |false=>
    have ht':T f=some (ac,eF,nt):=by
     cases hp:pf f
     ·simpa only[hp]using ht
     ·simp only[hp]at ht;cases ht
    exact .inr (hT f ac eF nt ht' args st _ (hk _ _ h))
  ·split at h
   ·rename_i hi
    cases dr with
    |true=>cases hi
    |false=>
     split at h
     ·exact .inr (hid f hi _ _ _ (hk _ _ h))
     ·exact h.elim
   ·split at h
    ·rename_i ps b hl;split at h
     ·rename_i res hr;split at h
      ·rename_i hs;refine .inl ⟨ps,b,res,hl,hB _ _ _ hr,?_,hk _ _ h⟩;intro hb;subst hb;exact hs
      ·exact h.elim
     ·exact h.elim
    ·exact h.elim
 |all p id o v=>exact h.elim
theorem we {dr:Bool} {x:AI} {m:Nat} {st:St} {is gk:List Item} {go:List Item→St→RC} {Q:Ex→St→Prop}
  (hk:∀is s,(go is s).holds Q→bH C aF I is Q .normal s)
  (h:(GZ T B ox pf dr x m st is gk go).holds Q):gO C aF (oH dr I) m x st (fun s=>bH C aF I is Q .normal s):=by
 unfold GZ at h;simp only[sY,nL]at h;unfold gO;split at h
 ·rename_i hc;have hp:=Q3 (k:=m) hc
  revert h hp
  cases KA aF m x.op st.ev with
  |pure o=>intro h hp;exact wc hI hT hB hid hp hk h
  |rd id f=>
   intro h hp;simp only at h;simp only[nr];split at h
   ·rename_i ob bL;rw[bL];exact wc hI hT hB hid (hp ob bL) hk h
   ·exact h.elim
 ·exact h.elim
omit hI hT hB hid in
theorem Ji {x:AI} {xs:List AI} {st:St} {K:St→Prop} (h:xm st x.g=some true) (hw:gO C aF (some I) (st.fresh x) x st fun st'=>bP C aF I xs st' K):bP C aF I (x::xs) st K:=by
 simp only[bP];refine⟨st,.refl _,?_⟩
 cases hg:x.g with
 |none=>exact hw
 |some jw=>
  obtain⟨j,want⟩:=jw;rw[hg]at h;simp only[xm,sY,St.ev]at h;simp only;split
  ·rename_i b hs;rw[hs]at h;simp only at h
   cases b<;>cases want<;>first|exact hw|cases h
  ·rename_i l hs;rw[hs]at h
   cases h
  ·rename_i h1 h2;split at h
   ·rename_i b hs;exact h1 b hs
   ·rename_i l hs;exact h2 l hs
   ·cases h
omit hI hT hB hid in
theorem G0 {x:AI} {xs:List AI} {st:St} {K:St→Prop} (h:xm st x.g=some false) (hw:bP C aF I xs (st.put x.d tw) K):bP C aF I (x::xs) st K:=by
 simp only[bP];refine⟨st,.refl _,?_⟩
 cases hg:x.g with
 |none=>rw[hg]at h;cases h
 |some jw=>
  obtain⟨j,want⟩:=jw;rw[hg]at h;simp only[xm,sY,St.ev]at h;simp only;split
  ·rename_i b hs;rw[hs]at h;simp only at h
   cases b<;>cases want<;>first|exact hw|cases h
  ·exact hw
  ·rename_i h1 h2;split at h
   ·rename_i b hs;exact h1 b hs
   ·rename_i l hs;exact h2 l hs
   ·cases h
omit hI hT hB hid in
theorem ZE {x:AI} {xs:List AI} {lt:List (List Nat)} {cE:List eP} {st:St} {K:St→Prop} {b:Bool} (h:xm st x.g=some b)
  (hw:match b with
   |true=>iy (lt.headD []) (eC (st.base+x.d.getD 0) st (KA aF (st.base+x.d.getD 0) x.op st.ev)) 0 cE=true∧
    gO C aF none (st.base+x.d.getD 0) x st fun st'=>ek C aF xs lt.tail (cE++[eC (st.base+x.d.getD 0) st (KA aF (st.base+x.d.getD 0) x.op st.ev)]) st' K
   |false=>ek C aF xs lt.tail (cE++[gR]) (st.put x.d tw) K):ek C aF (x::xs) lt cE st K:=by
 simp only[ek]
 cases hg:x.g with
 |none=>rw[hg]at h;cases h;exact hw
 |some jw=>
  obtain⟨j,want⟩:=jw;rw[hg]at h;simp only[xm,sY,St.ev]at h;simp only
  cases hs:st.slot j with
  |pv p=>
   rw[hs]at h
   cases p with
   |bool c=>cases c<;>cases want<;>simp only[qaa]at h<;>subst h<;>exact hw
   |eN l=>simp only[qaa]at h;subst h;exact hw
   |_=>cases h
  |_=>rw[hs]at h;cases h
theorem Fj {d:Option Nat} {k:Nat} {st:St} {o:Out} {e:Ev} (hp:iB o) (h:xl B d k st o=some e):dd C d k st o e:=by
 cases o with
 |val v=>simp only[xl,qaa]at h;exact h.symm
 |dG p v=>simp only[xl,qaa]at h;exact⟨hp,h.symm⟩
 |dp id o v=>
  simp only[xl]at h;split at h
  ·rename_i hb;simp only[qaa]at h;exact⟨qaH hb,h.symm⟩
  ·cases h
 |ix p id o v=>
  simp only[xl]at h;split at h
  ·rename_i hb;simp only[qaa]at h;exact⟨qaH hb,hp,h.symm⟩
  ·cases h
 |new o v=>
  simp only[xl]at h;split at h
  ·rename_i hm;split at h
   ·rename_i hb;simp only[qaa]at h;exact⟨hm,qaH hb,h.symm⟩
   ·cases h
  ·cases h
 |jK p o v=>
  simp only[xl]at h;split at h
  ·rename_i hm;split at h
   ·rename_i hb;simp only[qaa]at h;exact⟨hm,qaH hb,hp,h.symm⟩
   ·cases h
  ·cases h
 |call f args=>
  simp only[xl]at h;split at h
  ·rename_i ps b hl;split at h
   ·rename_i res hr;split at h
    ·rename_i hs;simp only[qaa]at h;exact .inl ⟨ps,b,res,hl,hB _ _ _ hr,fun hb=>by subst hb;exact hs,h.symm⟩
    ·cases h
   ·cases h
  ·cases h
 |bad=>cases h
 |all p id o v=>cases h
theorem Jj {x:AI} {st:St} {e:Ev} {f:eP} (h:Jf B x st=some (e,f)):HH C aF x st e f:=by
 unfold Jf at h;split at h
 ·rename_i hg;split at h
  ·rename_i hc;have hp:=Q3 (k:=st.base+x.d.getD 0) hc;split at h
   ·rename_i e' he;simp only[qaa,qas]at h;obtain⟨rfl,rfl⟩:=h;refine .inl ⟨hg,?_,rfl⟩
    revert he hp
    cases KA aF (st.base+x.d.getD 0) x.op st.ev with
    |pure o=>intro hp he;exact Fj hI hT hB hid hp he
    |rd id f=>
     intro hp he;simp only[ZD]at he;split at he
     ·rename_i ob bL;exact⟨ob,bL,Fj hI hT hB hid (hp ob bL) he⟩
     ·cases he
   ·cases h
  ·cases h
 ·rename_i hg;simp only[qaa,qas]at h;exact .inr ⟨hg,h.1.symm,h.2.symm⟩
 ·cases h
theorem yC:∀{l:List AI} {lt:List (List Nat)} {cE:List eP} {st:St} {r:List (Ev×eP)},wb B l lt cE st=some r→Trace C aF l lt cE st r
 |[],_,_,_,r,h=>by simp only[wb,qaa]at h;exact h.symm
 |x::xs,lt,cE,st,r,h=>by
  simp only[wb]at h;split at h
  ·rename_i e f he;split at h
   ·rename_i ha;split at h
    ·rename_i r' hr;simp only[qaa]at h;exact⟨e,f,r',h.symm,Jj hI hT hB hid he,ha,yC hr⟩
    ·cases h
   ·cases h
  ·cases h
omit hI hT hB hid in
theorem BH (lt:List (List Nat)) (c:Nat):∀(n i:Nat) (Z:List Bool),Z.length=n→(∀j,j<n→(i+j=c∨c∈lt.getD (i+j) [])→Z.getD j false=false)→(∀j,j<n→i+j∈lt.getD c []→¬(i+j=c∨c∈lt.getD (i+j) [])→Z.getD j false=true)→Z∈zz lt c i n
 |0,i,Z,hl,_,_=>by
  rw[qcE]at hl;subst hl;simp[zz]
 |n+1,i,[],hl,_,_=>by simp at hl
 |n+1,i,b::Z,hl,h1,h2=>by
  have hr:Z∈zz lt c (i+1) n:=BH lt c n (i+1) Z (by simpa using hl)
   (fun j hj h=>by have:=h1 (j+1) (by omega) (by rwa [show i+(j+1)=i+1+j by omega]);simpa using this)
   (fun j hj h h'=>by have:=h2 (j+1) (by omega) (by rwa [show i+(j+1)=i+1+j by omega]) (by rwa [show i+(j+1)=i+1+j by omega]);simpa using this)
  unfold zz;split
  ·rename_i hc;simp only[qb7,qbA,qbS]at hc;have hb:=h1 0 (by omega) (by simpa using hc);simp at hb;subst hb;exact qaw.2 ⟨Z,hr,rfl⟩
  ·rename_i hc;simp only[Bool.or_eq_false_iff,qar,ne_eq]at hc
   have E0:¬(i=c∨c∈lt.getD i []):=by
    rintro(h|h)
    ·exact hc.1 h
    ·have:=qbS.2 h;rw[hc.2]at this;cases this
   split
   ·rename_i hm;have hb:=h2 0 (by omega) (by simpa using qbS.1 hm) (by simpa using E0);simp at hb;subst hb;exact qaw.2 ⟨Z,hr,rfl⟩
   ·cases b
    ·exact qcU _ (qaw.2 ⟨Z,hr,rfl⟩)
    ·exact List.mem_append_right _ (qaw.2 ⟨Z,hr,rfl⟩)
theorem Jk {go:List Item→St→RC} (Dh:∀Q is s,(go is s).holds Q→bH C aF I is Q .normal s) {x:AI} {l2:List AI} {lt:List (List Nat)} {st s:St} (h:Ff T go x l2 lt st=some s):
  gO C aF (some I) (st.fresh x) x st fun st'=>ek C aF l2 lt [] st' fun s'=>s'=s:=by
 unfold Ff at h;unfold gO;split at h
 ·rename_i f args he;rw[he];split at h
  ·rename_i ac eF nt ht;rw[lD]at h;split at h
   ·rename_i s' hr;simp only[qaa]at h;subst h;refine .inr (hT f ac eF nt ht args st _ ?_);have:=Dh (fun e s2=>match e with|.normal=>s2=s'|_=>False) [.code ac,.frame eF st.slots.length st.base x.d,.fD l2 lt []] (enter nt args st) (by rw[hr];rfl);exact this
   ·cases h
  ·cases h
 ·cases h
theorem zA {go:List Item→St→RC} (Dh:∀Q is s,(go is s).holds Q→bH C aF I is Q .normal s) {c:Nat} {x:AI} {ops:List AI} {lt:List (List Nat)} {es:List Ev} {st s1:St}:∀{l:List (List Bool)},Jh T go c x ops lt es st s1 l=true→∀Z∈l,Jg lt Z=true→
  gO C aF (some I) ((cM (fun i=>Z.getD i false) 0 es st).fresh x) x (cM (fun i=>Z.getD i false) 0 es st) fun st'=>ek C aF (jg (fun i=>(i==c)||Z.getD i false) 0 ops) lt [] st' fun s'=>s'=s1
 |[],_,Z,hZ,_=>by cases hZ
 |Y::r,h,Z,hZ,hd=>by
  unfold Jh at h;split at h
  ·rename_i hy
   rcases qam.1 hZ with rfl|hZ
   ·rw[hy]at hd;cases hd
   ·exact zA Dh h Z hZ hd
  ·rw[lD]at h;split at h
   ·rename_i s hs;split at h
    ·rename_i he;have:=St.lC _ _ he;subst this
     rcases qam.1 hZ with rfl|hZ
     ·exact Jk hI hT hB hid Dh hs
     ·exact zA Dh h Z hZ hd
    ·cases h
   ·cases h
theorem Jl {go:List Item→St→RC} (Dh:∀Q is s,(go is s).holds Q→bH C aF I is Q .normal s) {c:Nat} {x:AI} {ops:List AI} {lt:List (List Nat)} {st s1:St} (hx:ops[c]? =some x) (h:Fh T B go c x ops lt st=some s1):
  HV C aF I ops lt st fun s=>s=s1:=by
 unfold Fh at h;split at h
 ·cases h
 ·rename_i h0;split at h
  ·cases h
  ·rename_i hg;split at h
   ·cases h
   ·rename_i r hr;split at h
    ·cases h
    ·rename_i s2 wR;split at h
     ·rename_i ha;simp only[qaa]at h;subst h;refine⟨h0,c,x,hx,hg,r,yC hI hT hB hid hr,fun Z hZ=>?_⟩;obtain⟨z1,z2,z3,z4,z5⟩:=hZ;refine zA hI hT hB hid Dh ha Z (BH lt c _ 0 Z z1 ?_ ?_) ?_
      ·intro j hj QB;rw[qaA]at QB
       rcases QB with rfl|QB
       ·exact z2
       ·exact z5 j hj QB
      ·intro j hj hm _;rw[qaA]at hm;exact z3 j hm
      ·unfold Jg;rw[qa1];intro i hi;rw[qbU,z1]at hi;rw[qb7]
       cases hv:Z.getD i false with
       |false=>left;rfl
       |true=>
        right
        rw[qa1]
        exact fun k hk=>z4 i hi hv k hk
     ·cases h
omit hI hT hB hid in
theorem rZ {hs:FuncId→Bool}:∀{l:List AI} {i c:Nat} {x:AI},od hs i l=some (c,x)→i≤c∧l[c-i]? =some x
 |[],_,_,_,h=>by cases h
 |y::r,i,c,x,h=>by
  have step:od hs (i+1) r=some (c,x)→i≤c∧(y::r)[c-i]? =some x:=fun h=>by
   obtain⟨h1,h2⟩:=rZ h;refine⟨by omega,?_⟩;rw[show c-i=(c-(i+1))+1 by omega];simpa using h2
  unfold od at h;split at h
  ·split at h
   ·simp only[qaa,qas]at h;obtain⟨rfl,rfl⟩:=h;simp
   ·exact step h
  ·split at h
   ·simp only[qaa,qas]at h;obtain⟨rfl,rfl⟩:=h;simp
   ·exact step h
  ·exact step h
theorem DA:∀(n:Nat) (Q:Ex→St→Prop) (is:List Item) (st:St),(YI T B ox pf hs n is st).holds Q→bH C aF I is Q .normal st:=by
 intro n
 induction n with
 |zero=>intro Q is st h;exact h.elim
 |succ n ih=>
  intro Q is st h
  match is with
  |[]=>exact h
  |.frame eF m base d::r=>
   simp only[YI]at h;simp only[bH,u0];split at h
   ·rename_i v hv;simp only[lD,iD,gn]at h;rw[hv];exact ih _ _ _ h
   ·exact h.elim
  |.ops []::r=>exact ih _ r st h
  |.ops (x::xs)::r=>
   simp only[YI]at h;split at h
   ·rename_i hg;exact Ji hg (we hI hT hB hid (dr:=false) (fun is s hs=>ih _ is s hs) h)
   ·rename_i hg;rw[gn]at h;exact G0 hg (ih _ (.ops xs::r) _ h)
   ·exact h.elim
  |.fD [] _ _::r=>exact ih _ r st h
  |.fD (x::xs) lt cE::r=>
   simp only[YI]at h;split at h
   ·rename_i hg;unfold Fi at h;split at h
    ·rename_i hf;exact ZE hg ⟨hf,we hI hT hB hid (dr:=true) (fun is s hs=>ih _ is s hs) h⟩
    ·exact h.elim
   ·rename_i hg;rw[gn]at h;exact ZE hg (ih _ (.fD xs lt.tail (cE++[gR])::r) _ h)
   ·exact h.elim
  |.Az _::r=>exact ih _ r st h
  |.code c::r=>
   cases c with
   |skip=>exact ih _ r st h
   |pA ops lt=>
    cases lt with
    |none=>
     simp only[YI]at h;split at h
     ·exact ih _ (.ops ops::r) st h
     ·split at h
      ·exact ih _ (.ops ops::r) st h
      ·rename_i _ cx hf;rw[ja]at h;obtain⟨s1,f1,e1⟩:=kV (dz 0 st.mem) st (fun Zp=>my (dz 0 st.mem) Zp fun EZ=>my (dz 0 st.mem) EZ fun DB=>YI T B ox pf hs n (.ops ops::r) DB);rw[e1]at h;obtain⟨s2,f2,e2⟩:=kV (dz 0 st.mem) s1 (fun EZ=>my (dz 0 st.mem) EZ fun DB=>YI T B ox pf hs n (.ops ops::r) DB);rw[e2]at h;obtain⟨s3,f3,e3⟩:=kV (dz 0 st.mem) s2 (fun DB=>YI T B ox pf hs n (.ops ops::r) DB);rw[e3]at h
       have hh:=ih _ (.ops ops::r) s3 h
       cases ops with
       |nil=>cases hf
       |cons y ys=>exact vW (.trans f1 (.trans f2 f3)) hh
    |some lt=>
     simp only[YI]at h;split at h
     ·split at h
      ·exact⟨st,.refl _,.inl (ih _ (.fD ops lt []::r) st h)⟩
      ·rw[ja]at h;obtain⟨s1,hf,e1⟩:=kV (dz 0 st.mem) st (fun st=>YI T B ox pf hs n (.fD ops lt []::r) st);rw[e1]at h;exact⟨s1,hf,.inl (ih _ (.fD ops lt []::r) s1 h)⟩
     ·rename_i c x hf;split at h
      ·rename_i s1 Cy;rw[lD]at h;have hx:=(rZ hf).2;rw[qdu]at hx;exact⟨st,.refl _,.inr (xN hI (K:=fun s=>s=s1) (fun s hs=>by rw[hs];exact ih _ r s1 h) (Jl hI hT hB hid ih hx Cy))⟩
      ·exact h.elim
   |seq a b=>
    have:=ih _ (.code a::.code b::r) st h;refine fC hI a ?_ this;intro e s hs
    cases e with
    |normal=>exact hs
    |ret=>exact hs
    |exit id=>exact hs
   |cond c a b=>
    simp only[YI,sY]at h;split at h
    ·rename_i t hc;simp only[bH,fw,hc];split at h
     ·exact ih _ (.code a::r) st h
     ·exact ih _ (.code b::r) st h
    ·exact h.elim
   |block id b=>
    have:=ih _ (.code b::.Az id::r) st h;refine fC hI b ?_ this;intro e s hs
    cases e with
    |normal=>exact hs
    |ret=>exact hs
    |exit j=>
     simp only[bH]at hs
     have hc:(id==j)=(j==id):=by rw[qbX];constructor<;>intro h<;>exact qbA.2 (qbA.1 h).symm
     rw[hc]at hs;exact hs
   |loop b=>
    simp only[YI]at h;obtain⟨st',hf,he⟩:=GX st (fun st=>YI T B ox pf hs n (.code b::.code (.loop b)::r) st);rw[he]at h;have:=ih _ (.code b::.code (.loop b)::r) st' h;refine k8 hI hf (fC hI b ?_ this);intro e s hs
    cases e with
    |normal=>exact hs
    |ret=>exact hs
    |exit j=>exact hs
   |exit id=>
    simp only[YI]at h;split at h
    ·rename_i r' ni;exact iq id r Q st r' ni (ih _ _ st h)
    ·exact h.elim
   |ret=>
    simp only[YI]at h;show bH C aF I r Q .ret st;rw[jv];split at h
    ·rename_i eF m base d r' hr;rw[hr];simp only[u0];split at h
     ·rename_i v hv;simp only[lD,iD,gn]at h;rw[hv];exact ih _ _ _ h
     ·exact h.elim
    ·rename_i hr;rw[hr];exact h
end
noncomputable def zB (eF:List RD) (st:St):Option PV:=match fN eF st with
 |some p=>some p
 |none=>pP (dz 0 st.mem) fun l=>my l st fun st=>my l st fun st=>my l st fun st=>fN eF st
theorem G1 {eF:List RD} {st:St} {res:PV} (h:zB eF st=some res):∃s',Fg st s'∧fN eF s'=some res:=by
 unfold zB at h;split at h
 ·rename_i p hp;cases h;exact⟨st,.refl _,hp⟩
 ·rw[ja]at h;obtain⟨s1,h1,e1⟩:=kV (dz 0 st.mem) st (fun Zp=>my (dz 0 st.mem) Zp fun EZ=>my (dz 0 st.mem) EZ fun DB=>fN eF DB);rw[e1]at h;obtain⟨s2,h2,e2⟩:=kV (dz 0 st.mem) s1 (fun EZ=>my (dz 0 st.mem) EZ fun DB=>fN eF DB);rw[e2]at h;obtain⟨s3,h3,e3⟩:=kV (dz 0 st.mem) s2 (fun DB=>fN eF DB);rw[e3]at h;exact⟨s3,.trans h1 (.trans h2 h3),h⟩
noncomputable def RC.data (eF:List RD):RC→Option PV
 |.fin .normal st=>zB eF st
 |.fin .ret st=>zB eF st
 |_=>none
theorem RC.DC {eF:List RD} {res:PV} {r:RC} (h:r.data eF=some res):r.holds (E1 eF res):=by
 cases r with
 |fin e st=>cases e<;>simp only[RC.data]at h<;>first|exact G1 h|cases h
 |stop=>cases h
theorem pure_run {P:Program} {G:Nat→Option (List PV)} {T:Mj} {B:BI} {ox pf hs:FuncId→Bool} (hm:P.follows .mixedOrders=true) (hT:oI (CC P G) aF (Hf P G) T) (hB:∀f ps res,B f ps=some res→bE P G f ps res)
  (hid:∀f,ox f=true→∀v w,(callFunc f #[v]).run P w=.ok (.value v) w) {accs:List Nat} {f:FuncId} {ac:cf} {eF:List RD} {nt:Nat} (hc:gF P G accs f=some (ac,eF,nt)) {ps:List PV} {res:PV} (hle:ps.length≤nt) (n:Nat)
  (h:(YI T B ox pf hs n [.code ac] (start nt ps)).data eF=some res):bE P G f ps res:=
 IM hm hc hle (DA (Hf.mono P G) hT hB (fun f hf x st K hK=>vX (hid f hf) hK) n _ _ _ (RC.DC h))
end Go.Am
namespace Go.Am
end Go.Am
end
