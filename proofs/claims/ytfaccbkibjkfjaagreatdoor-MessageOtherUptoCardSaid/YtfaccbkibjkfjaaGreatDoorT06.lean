import Derived.Test.YtfaccbkibjkfjaaGreatDoorT05
set_option linter.all false
set_option maxRecDepth 100000
set_option maxHeartbeats 1000000
section
namespace Go.Am
def eU (os:List (Nat×List (List PV))):List (Option Obj):=os.map fun o=>some (.rows o.1 o.2 0)
def oQ (P:Program) (G:Nat→Option (List PV)) (f:FuncId) (ps:List PV) (os:List (Nat×List (List PV))) (r:AV):Prop:=
 ∀(S:Nat→Prop) (w:World) (vs:List Value),(∀b,S b→b<w.heap.size)→rh G S w→aM S w ps vs→
  dN P f vs.toArray w fun v w'=>RowKit.Below w.heap.size w w'∧∃(γ:Nat→Option Nat) (S':Nat→Prop),(∀b,S b→S' b)∧(∀b,S' b→S b∨(w.heap.size≤b∧b<w'.heap.size))∧
   (∀i b,γ i=some b→i<os.length∧¬S' b∧w.heap.size≤b∧b<w'.heap.size)∧(∀i j b,γ i=some b→γ j=some b→i=j)∧
   (∀i ob,aj (eU os) i=some ob→eK γ S' w' (fun _ _=>True) i ob)∧lF S' w' (Ref γ S' w' (eU os)) r v
def CC (P:Program) (G:Nat→Option (List PV)):CT:=fun f ps m res=>match m with
 |none=>bE P G f ps res
 |some sz=>∃rows,res=.sl rows []∧oQ P G f ps [(sz,rows)] (.c8 0 0)
section
variable {P:Program} {w0:World} {own0:Nat→Prop} {hvs:List Value×List Deferred} {G:Nat→Option (List PV)} {S0:Nat→Prop}
 {γ:Nat→Option Nat} {S:Nat→Prop} {st:St} {a:Act} {w:World}
 (h:dW w0 own0 hvs G γ S st a w) (bg:∀b,S0 b→S b) (Cy:∀b,S b→S0 b∨w0.heap.size≤b∨own0 b)
include h bg Cy
theorem Bh {f:FuncId} {args:List AV} {vs:List Value} {ps:List PV} {sz k:Nat} {rows:List (List PV)} (hl:dB st.mem args=some (ps,false)) (eQ:au S w (Ref γ S w st.mem) args vs) (hF:oQ P G f ps [(sz,rows)] (.c8 0 0))
  (hk:aj st.mem k=none) (bO:k≤st.mem.length):
  dN P f vs.toArray w fun v w'=>∃γ' S',(∀b,S0 b→S' b)∧(∀b,S' b→S0 b∨w0.heap.size≤b∨own0 b)∧dW w0 own0 hvs G γ' S' (st.aq k (.rows sz rows 0)) a w'∧lF S' w' (Ref γ' S' w' (st.aq k (.rows sz rows 0)).mem) (.c8 k 0) v:=by
 have Dk:aM S w ps vs:=aM.later (fun b hb=>⟨hb.elim id (fun h=>nomatch h.1),rfl,rfl⟩) _ (ac5 h hl eQ);have hC:=hF S w vs h.bound h.jn Dk
 have mono:∀{R R':Value→World→Prop},(∀v w,R v w→R' v w)→dN P f vs.toArray w R→dN P f vs.toArray w R':=by
  intro R R' hR h;unfold dN at*
  split at h<;>first
   |exact h.mono fun e tA ⟨v,he,hq⟩=>⟨v,he,hR v tA hq⟩
   |exact hR _ _ h
   |exact h.mono fun v tA hq=>hR v tA hq
   |exact h.elim
 refine mono (fun v w' hq=>?_) hC;obtain⟨hb,γf,Sf,h1,h2,h3,h4,h5,h6⟩:=hq;obtain⟨hg,K3,hρ⟩:=dW.grow h (w':=w') (S':=Sf) hb.block hb.size hb.os hb.tape hb.output h1 h2
 have hγk:γ k=none:=by
  cases hg:γ k with
  |none=>rfl
  |some b=>exact absurd hk (h.lU k b hg)
 have CL:∀i,i≠k→dp γ k (γf 0) i=γ i:=fun i hi=>by simp only[dp,qai hi]
 have GF:dp γ k (γf 0) k=γf 0:=by simp only[dp,qax]
 have lf:∀i,aj (st.aq k (.rows sz rows 0)).mem i=if i=k then some (.rows sz rows 0)else aj st.mem i:=fun i=>by simp only[St.aq,uQ bO]
 have mW:∀i b,dp γ k (γf 0) i=some b→(i≠k∧γ i=some b)∨(i=k∧γf 0=some b):=fun i b hi=>by
  by_cases hik:i=k
  ·subst hik;rw[GF]at hi;exact .inr ⟨rfl,hi⟩
  ·rw[CL i hik]at hi;exact .inl ⟨hik,hi⟩
 have hρ2:∀x v,Ref γ Sf w' st.mem x v→Ref (dp γ k (γf 0)) Sf w' (st.aq k (.rows sz rows 0)).mem x v:=Ref.later (bf.refl Sf w') (fun id ob hm=>by
  have MB:id≠k:=fun e=>by rw[e,hk]at hm;cases hm
  exact⟨by rw[lf,qai MB];exact hm,CL id MB,fun _ _=>⟨rfl,rfl⟩⟩)
 have h50:=h5 0 (.rows sz rows 0) rfl;have h60:=h6;simp only[lF,Ref,eU,qaj,qaF,aj,qc7]at h60;refine⟨dp γ k (γf 0),Sf,fun b hb=>h1 b (bg b hb),?_,?_,?_⟩
 ·intro b fP
  rcases h2 b fP with h'|h'
  ·exact Cy b h'
  ·have:=h.eY;exact .inr (.inl (by omega))
 ·exact{
      size:=hg.size,slot:=fun i=>lF.later (bf.refl Sf w') hρ2 _ (hg.slot i),held:=au.later (bf.refl Sf w') hρ2 _ hg.held,defers:=hg.defers
      mem:=fun id ob hm=>by
       rw[lf]at hm
       by_cases hi:id=k
       ·rw[qao hi]at hm;subst hi
        cases hm
        simp only[eK]at h50 ⊢;rw[GF];exact h50
       ·rw[qai hi]at hm;exact eK.later (bf.refl Sf w') hρ2 (CL id hi) (fun _ _=>rfl) (hg.mem id ob hm)
      lU:=fun i b hi=>by
       rw[lf]
       rcases mW i b hi with⟨h',tO⟩|⟨rfl,tO⟩
       ·rw[qai h'];exact h.lU i b tO
       ·simp
      inj:=fun i j b hi hj=>by
       rcases mW i b hi with⟨h',tO⟩|⟨rfl,tO⟩<;>rcases mW j b hj with⟨g,g'⟩|⟨rfl,g'⟩
       ·exact h.inj i j b tO g'
       ·have:=h.eJ i b tO;have:=(h3 _ b g').2.2.1;omega
       ·have:=h.eJ j b g';have:=(h3 _ b tO).2.2.1;omega
       ·rfl
      own:=fun i b hi=>by
       rcases mW i b hi with⟨h',tO⟩|⟨rfl,tO⟩
       ·exact hg.own i b tO
       ·have:=(h3 _ b tO).2;have:=h.eY;exact⟨(h3 _ b tO).2.1,.inl (by omega)⟩
      bound:=hg.bound
      eJ:=fun i b hi=>by
       rcases mW i b hi with⟨h',tO⟩|⟨rfl,tO⟩
       ·exact hg.eJ i b tO
       ·exact(h3 _ b tO).2.2.2
      jn:=hg.jn,kept:=hg.kept,os:=hg.os,tape:=hg.tape,output:=hg.output,eY:=hg.eY}
 ·simp only[lF,Ref,lf,qax];rw[GF];exact h60
end
end Go.Am
end
section
namespace Go.Am
theorem dN.mono {P:Program} {f:FuncId} {args:Array Value} {w:World} {R R':Value→World→Prop} (hR:∀v w,R v w→R' v w) (h:dN P f args w R):dN P f args w R':=by
 unfold dN at*
 split at h<;>first
  |exact h.mono fun e tA ⟨v,he,hq⟩=>⟨v,he,hR v tA hq⟩
  |exact hR _ _ h
  |exact h.mono fun v tA hq=>hR v tA hq
  |exact h.elim
def Hf (P:Program) (G:Nat→Option (List PV)):IC:=fun f args st K=>
 ∀(w0:World) (own0:Nat→Prop) (hvs:List Value×List Deferred) (S0:Nat→Prop) (γ:Nat→Option Nat) (S:Nat→Prop) (a:Act) (w:World) (vs:List Value),(∀b,S0 b→S b)→(∀b,S b→S0 b∨w0.heap.size≤b∨own0 b)→
  dW w0 own0 hvs G γ S st a w→au S w (Ref γ S w st.mem) args vs→
  dN P f vs.toArray w fun v w'=>∃r st' γ' S',K r st'∧(∀b,S0 b→S' b)∧(∀b,S' b→S0 b∨w0.heap.size≤b∨own0 b)∧dW w0 own0 hvs G γ' S' st' a w'∧lF S' w' (Ref γ' S' w' st'.mem) r v
theorem Hf.mono (P:Program) (G:Nat→Option (List PV)):Gv (Hf P G):=by
 intro f args st K K' hK h w0 own0 hvs S0 γ S a w vs h1 h2 h3 h4;refine dN.mono (fun v w' hq=>?_) (h w0 own0 hvs S0 γ S a w vs h1 h2 h3 h4);obtain⟨r,st',γ',S',k1,k2⟩:=hq;exact⟨r,st',γ',S',hK _ _ k1,k2⟩
theorem jZ {st:St} {id:Nat} {o:Obj} (h:id<st.mem.length):st.aq id o=st.uZ (some (id,o)):=by
 simp only[St.aq,qG,St.uZ,qcQ h]
theorem Bi {mem:List (Option Obj)} {d:Nat} {o:Obj} (hd:d<mem.length) (i:Nat):
  aj (mem.set d (some o)) i=if i=d then some o else aj mem i:=by
 have:=uQ (mem:=mem) (o:=o) (qcl hd) i;simpa only[qG,qcQ hd]using this
section
variable (C:CT) (A:Ar)
theorem yn {k:Nat} {x:AI} {st:St} {K:St→Prop} {o:Out} (h:ml C none k x st K o):∃e,dd C x.d k st o e∧K (e.app st):=by
 cases o with
 |bad=>exact h.elim
 |val v=>exact⟨_,rfl,h⟩
 |dG p v=>exact⟨_,⟨h.1,rfl⟩,h.2⟩
 |dp id o v=>
  obtain⟨h1,h2⟩:=h;exact⟨_,⟨h1,rfl⟩,by rw[jZ h1]at h2;exact h2⟩
 |ix p id o v=>
  obtain⟨h1,h0,h2⟩:=h;exact⟨_,⟨h1,h0,rfl⟩,by rw[jZ h1]at h2;exact h2⟩
 |new o v=>
  obtain⟨h1,h2,h3⟩:=h;exact⟨⟨x.d,v,some (k,o)⟩,⟨h1,h2,rfl⟩,by rw[jZ h2]at h3;exact h3⟩
 |jK p o v=>
  obtain⟨h1,h2,h0,h3⟩:=h;exact⟨⟨x.d,v,some (k,o)⟩,⟨h1,h2,h0,rfl⟩,by rw[jZ h2]at h3;exact h3⟩
 |call f args=>
  rcases h with h|h
  ·obtain⟨ps,b,res,h1,h2,h3,h4⟩:=h;exact⟨⟨x.d,.pv res,none⟩,.inl ⟨ps,b,res,h1,h2,h3,rfl⟩,h4⟩
  ·obtain⟨h0,ps,sz,rows,h1,h2,h3,h4,h5⟩:=h;rw[jZ h4]at h5;exact⟨⟨x.d,.c8 k 0,some (k,.rows sz rows 0)⟩,.inr ⟨h0,ps,sz,rows,h1,h2,h3,h4,rfl⟩,h5⟩
 |all p id o v=>exact h.elim
theorem IA {k:Nat} {x:AI} {st:St} {K:St→Prop} (h:gO C A none k x st K):∃e,ka C x.d k st (KA A k x.op st.ev) e∧K (e.app st):=by
 unfold gO at h
 cases he:KA A k x.op st.ev with
 |pure o=>rw[he]at h;exact yn C h
 |rd id f=>
  rw[he]at h;simp only[nr]at h;split at h
  ·rename_i ob bL;obtain⟨e,h1,h2⟩:=yn C h;exact⟨e,⟨ob,bL,h1⟩,h2⟩
  ·exact h.elim
end
section
variable {P:Program} {w0:World} {own0:Nat→Prop} {hvs:List Value×List Deferred} {G:Nat→Option (List PV)} {S0:Nat→Prop} {accs:List Nat} {Q:Exit→Act→World→Prop}
 {st:St} {a:Act} {w:World} {o:Oper} {kn:Nat}
theorem nD {st':St} {v:AV} (hd:oo P w0 own0 hvs G S0 o a w st' v):o.wp P a w (fun a' w'=>ft w0 own0 hvs G S0 (st'.put o.dst v) a' w') Q:=by
 obtain⟨u,w',γ',S',bN,h1,h2,h3,h4⟩:=hd;unfold Oper.wp
 rcases bN with bN|⟨bN,rfl⟩
 ·rw[bN];exact⟨γ',S',h1,h2,h3.put _ h4⟩
 ·rw[bN];exact⟨γ',S',h1,h2,h3.put _ h4⟩
theorem uA {f:FuncId} {vs:List Value} {R:Value→World→Prop} {N:Act→World→Prop} (bN:(execOp a.eval o).run P w=(callFunc f vs.toArray).run P w) (h:dN P f vs.toArray w R)
  (hR:∀v w',R v w'→N (a.put o.dst v) w'):o.wp P a w N Q:=by
 unfold Oper.wp;rw[bN];unfold dN at h;split at h
 ·rename_i f' A9 w' hf;rw[hf];refine Calls.mono h ?_;rintro e' tA ⟨v,rfl,hq⟩;exact hR _ _ hq
 ·rename_i v w' hf;rw[hf];exact hR _ _ h
 ·rename_i row A9 w' hf;rw[hf];refine Rows.mono h ?_;rintro v tA hq;exact hR _ _ hq
 ·exact h.elim
theorem IB {γ:Nat→Option Nat} {S:Nat→Prop} (h:dW w0 own0 hvs G γ S st a w) (bg:∀b,S0 b→S b) (Cy:∀b,S b→S0 b∨w0.heap.size≤b∨own0 b)
  {out:Out} {e:Ev} (eL:ep P w0 own0 hvs G S0 o a w st kn γ S out) (he:dd (CC P G) o.dst kn st out e):o.wp P a w (fun a' w'=>ft w0 own0 hvs G S0 (e.app st) a' w') Q:=by
 cases out with
 |bad=>exact he.elim
 |val v=>simp only[dd]at he;subst he;exact nD eL
 |dG p v=>simp only[dd]at he;obtain⟨hp,rfl⟩:=he;exact nD (eL hp)
 |dp id ob v=>simp only[dd]at he;obtain⟨hp,rfl⟩:=he;have:=nD (Q:=Q) eL;rw[jZ hp]at this;exact this
 |ix p id ob v=>simp only[dd]at he;obtain⟨hl,hp,rfl⟩:=he;have:=nD (Q:=Q) (eL hp);rw[jZ hl]at this;exact this
 |new ob v=>simp only[dd]at he;obtain⟨h2,h3,rfl⟩:=he;have:=nD (Q:=Q) (eL h2 (qcl h3));rw[jZ h3]at this;exact this
 |jK p ob v=>simp only[dd]at he;obtain⟨h2,h3,hp,rfl⟩:=he;have:=nD (Q:=Q) (eL h2 (qcl h3) hp);rw[jZ h3]at this;exact this
 |call f args=>
  simp only[dd]at he;obtain⟨vs,bN,eQ⟩:=eL
  rcases he with⟨ps,b,res,h1,h2,h3,rfl⟩|⟨h0,ps,sz,rows,h1,⟨rows',ni,h2⟩,h3,h4,rfl⟩
  ·refine uA bN (ya h bg Cy h1 eQ h2 h3) fun v w' hq=>?_
   obtain⟨S',k1,k2,k3,k4⟩:=hq;exact⟨γ,S',k1,k2,k3.put _ k4⟩
  ·simp only[PV.sl.injEq]at ni;obtain⟨rfl,-⟩:=ni
   refine uA bN (Bh h bg Cy h1 eQ h2 h3 (qcl h4)) fun v w' hq=>?_
   obtain⟨γ',S',k1,k2,k3,k4⟩:=hq;have:=k3.put o.dst k4;rw[jZ h4]at this;exact⟨γ',S',k1,k2,this⟩
 |all p id ob v=>exact he.elim
theorem XP (h:ft w0 own0 hvs G S0 st a w) {op:wQ} (hc:oJ P G accs o=some op) {e:Ev} (he:ka (CC P G) o.dst kn st (KA aF kn op st.ev) e):
  o.wp P a w (fun a' w'=>ft w0 own0 hvs G S0 (e.app st) a' w') Q:=by
 obtain⟨γ,S,bg,Cy,h⟩:=h;have eL:=yj (kn:=kn) h bg Cy hc
 cases hE:KA aF kn op st.ev with
 |pure out=>rw[hE]at eL he;exact IB h bg Cy eL he
 |rd id k=>
  rw[hE]at eL he;obtain⟨ob,h1,h2⟩:=he;exact IB h bg Cy (eL ob h1) h2
theorem EV {γ:Nat→Option Nat} {S:Nat→Prop} (h:dW w0 own0 hvs G γ S st a w) (bg:∀b,S0 b→S b) (Cy:∀b,S b→S0 b∨w0.heap.size≤b∨own0 b) {x:AI} (hx:x.d=o.dst) {K:St→Prop}
  {out:Out} (eL:ep P w0 own0 hvs G S0 o a w st kn γ S out) (he:ml (CC P G) (some (Hf P G)) kn x st K out):o.wp P a w (fun a' w'=>∃st',ft w0 own0 hvs G S0 st' a' w'∧K st') Q:=by
 have fin:∀{st':St} {v:AV},oo P w0 own0 hvs G S0 o a w st' v→K (st'.put x.d v)→o.wp P a w (fun a' w'=>∃st',ft w0 own0 hvs G S0 st' a' w'∧K st') Q:=fun hd hk=>
  qcR (fun a' w' hs=>⟨_,hs,by rw[←hx];exact hk⟩) (nD hd)
 cases out with
 |bad=>exact he.elim
 |val v=>exact fin eL he
 |dG p v=>exact fin (eL he.1) he.2
 |dp id ob v=>exact fin eL he.2
 |ix p id ob v=>exact fin (eL he.2.1) he.2.2
 |new ob v=>exact fin (eL he.1 he.2.1) he.2.2
 |jK p ob v=>exact fin (eL he.1 he.2.1 he.2.2.1) he.2.2.2
 |call f args=>
  obtain⟨vs,bN,eQ⟩:=eL
  rcases he with he|he
  ·obtain⟨ps,b,res,h1,h2,h3,h4⟩:=he
   refine uA bN (ya h bg Cy h1 eQ h2 h3) fun v w' hq=>?_
   obtain⟨S',k1,k2,k3,k4⟩:=hq;exact⟨_,⟨γ,S',k1,k2,k3.put _ k4⟩,by rw[←hx];exact h4⟩
  ·refine uA bN (he w0 own0 hvs S0 γ S a w vs bg Cy h eQ) fun v w' hq=>?_
   obtain⟨r,st',γ',S',k0,k1,k2,k3,k4⟩:=hq;exact⟨_,⟨γ',S',k1,k2,k3.put _ k4⟩,by rw[←hx];exact k0⟩
 |all p id ob v=>
  obtain⟨i,hp,hd⟩:=eL;exact fin hd (he i hp)
theorem Qw (h:ft w0 own0 hvs G S0 st a w) {x:AI} (hx:x.d=o.dst) (hc:oJ P G accs o=some x.op) {K:St→Prop} (he:gO (CC P G) aF (some (Hf P G)) kn x st K):
  o.wp P a w (fun a' w'=>∃st',ft w0 own0 hvs G S0 st' a' w'∧K st') Q:=by
 obtain⟨γ,S,bg,Cy,h⟩:=h;have eL:=yj (kn:=kn) h bg Cy hc;unfold gO at he
 cases hE:KA aF kn x.op st.ev with
 |pure out=>rw[hE]at eL he;exact EV h bg Cy hx eL he
 |rd id k=>
  rw[hE]at eL he;simp only[nr]at he;split at he
  ·rename_i ob bL;exact EV h bg Cy hx (eL ob bL) he
  ·exact he.elim
theorem l0 {ops:Array Oper} {x:AI} (h:lb P G accs ops o=some x):
  ∃op,oJ P G accs o=some op∧x.d=o.dst∧x.op=op∧((o.guard=none∧x.g=none)∨∃j want s,o.guard=some (j,want)∧(ops[j]?).bind (·.dst)=some s∧x.g=some (s,want)):=by
 unfold lb at h;split at h
 ·cases h
 ·rename_i op K4;split at h
  ·rename_i hg;simp only[qaa]at h;subst h;exact⟨op,K4,rfl,rfl,.inl ⟨hg,rfl⟩⟩
  ·rename_i j want hg;split at h
   ·rename_i s hs;simp only[qaa]at h;subst h;exact⟨op,K4,rfl,rfl,.inr ⟨j,want,s,hg,hs,rfl⟩⟩
   ·cases h
theorem oR {ops:Array Oper} {x:AI} (h:ft w0 own0 hvs G S0 st a w) (hc:lb P G accs ops o=some x) {b:Bool} (hg:guardOf st x.g=some b):
  Region.wanted o (yielded ops a.tmps)=b:=by
 obtain⟨γ,S,bg,Cy,h⟩:=h;obtain⟨op,h1,h2,h3,h4⟩:=l0 hc
 rcases h4 with⟨h4,h5⟩|⟨j,want,s,h4,h5,h6⟩
 ·rw[h5]at hg;simp only[guardOf,qaa]at hg;simp[Region.wanted,h4,←hg]
 ·rw[h6]at hg;simp only[guardOf]at hg;split at hg
  ·rename_i c hs;simp only[qaa]at hg;have:=h.slot s;rw[hs]at this;simp only[lF,aD]at this
   have bO:s<a.tmps.size:=by
    rw[←h.size]
    by_cases bO:s<st.slots.length
    ·exact bO
    ·simp[St.slot,qab,qa0 (qby bO)]at hs
   have e1:a.tmps[s]? =some (.bool c):=by
    rw[qbd bO];simp only[qaJ,qbd bO,qbg]at this;rw[this]
   simp only[Region.wanted,h4,yielded,h5,qbx,e1,←hg]
   cases c<;>cases want<;>rfl
  ·rename_i l hs;simp only[qaa]at hg;have:=h.slot s;rw[hs]at this;simp only[lF,aD]at this;obtain⟨vs,hv,_⟩:=this
   have e1:yielded ops a.tmps j=none:=by
    simp only[yielded,h5,qbx]
    by_cases bO:s<a.tmps.size
    ·simp only[qaJ,qbd bO,qbg]at hv;rw[qbd bO,hv]
    ·rw[qb2 (qby bO)]
   simp only[Region.wanted,h4,e1,←hg];rfl
  ·cases hg
theorem yo (h:ft w0 own0 hvs G S0 st a w) (d:Option Nat):ft w0 own0 hvs G S0 (st.put d tw) (a.put d undef) w:=by
 obtain⟨γ,S,bg,Cy,h⟩:=h;exact⟨γ,S,bg,Cy,h.put d (by simp only[tw,lF,aD];exact⟨[],rfl,by simp only[aM]⟩)⟩
theorem zf {ops:Array Oper}:∀{os:List Oper} {l:List AI} {st:St} {a:Act} {w:World} {K:St→Prop},V6 P G accs ops os=some l→ft w0 own0 hvs G S0 st a w→bP (CC P G) aF (Hf P G) l st K→
  (∀st' a' w',ft w0 own0 hvs G S0 st' a' w'→K st'→Q .normal a' w')→wpList P ops Q os a w
 |[],l,st,a,w,K,hc,h,hk,hK=>by
  simp only[V6,qaa]at hc;subst hc;exact hK _ _ _ h hk
 |o::os,l,st,a,w,K,hc,h,hk,hK=>by
  simp only[V6]at hc;split at hc
  ·rename_i x hx;split at hc
   ·rename_i xs WN;simp only[qaa]at hc;subst hc;obtain⟨op,h1,h2,h3,h4⟩:=l0 hx;simp only[bP]at hk;obtain⟨s0,hf,hk⟩:=hk;have h:=mo hf h
    have go:gO (CC P G) aF (some (Hf P G)) (s0.fresh x) x s0 (fun st'=>bP (CC P G) aF (Hf P G) xs st' K)→o.wp P a w (wpList P ops Q os) Q:=by
     intro hk;exact qcR (fun a' w' ⟨st',hs,eR⟩=>zf WN hs eR hK) (Qw h h2 (by rw[h3];exact h1) hk)
    have skip:bP (CC P G) aF (Hf P G) xs (s0.put x.d tw) K→wpList P ops Q os (a.put o.dst undef) w:=fun hk=>zf WN (by rw[h2]at hk ⊢;exact yo h o.dst) hk hK
    have uk:guardOf s0 x.g=none∨(guardOf s0 x.g=some true∧gO (CC P G) aF (some (Hf P G)) (s0.fresh x) x s0 (fun st'=>bP (CC P G) aF (Hf P G) xs st' K))∨(guardOf s0 x.g=some false∧bP (CC P G) aF (Hf P G) xs (s0.put x.d tw) K):=by
     simp only[guardOf];split at hk
     ·rename_i hg;(try rw[hg]);exact .inr (.inl ⟨rfl,hk⟩)
     ·rename_i j want hg
      (try rw[hg])
      (try simp only)
      split at hk
      ·rename_i b hb
       (try rw[hb])
       cases b<;>cases want<;>first|exact .inr (.inl ⟨rfl,hk⟩)|exact .inr (.inr ⟨rfl,hk⟩)
      ·rename_i l hb
       (try rw[hb])
       exact .inr (.inr ⟨rfl,hk⟩)
      ·exact hk.elim
    rcases uk with uk|⟨uk,hk⟩|⟨uk,hk⟩
    ·exfalso;simp only[guardOf]at uk;split at hk
     ·rename_i hg;rw[hg]at uk;cases uk
     ·rename_i j want hg;rw[hg]at uk;split at hk
      ·rename_i b hb;simp only[hb]at uk;cases uk
      ·rename_i b hb;simp only[hb]at uk;cases uk
      ·exact hk
    ·unfold wpList;rw[oR h hx uk];exact .inl (go hk)
    ·unfold wpList;rw[oR h hx uk];exact skip hk
   ·cases hc
  ·cases hc
end
end Go.Am
end
section
namespace Go.Am
theorem fL {st st':St} {x:bR} (h:∀t∈x.sl,st.slot t=st'.slot t):st.ev x=st'.ev x:=by
 cases x with
 |t i=>exact h i (by simp[bR.sl])
 |k p=>unfold St.ev;split<;>rename_i heq<;>first|(cases heq;done)|(cases heq;rfl)|rfl
 |g row=>rfl
theorem rK {st st':St}:∀{l:List bR},(∀t∈bR.sH l,st.slot t=st'.slot t)→l.map st.ev=l.map st'.ev
 |[],_=>rfl
 |x::r,h=>by
  simp only[qaj];rw[fL fun t ht=>h t (by simp[bR.sH,ht]),rK fun t ht=>h t (by simp[bR.sH,ht])]
theorem vA {st st':St} {sz:Nat}:∀{l:List bR},(∀t∈bR.sH l,st.slot t=st'.slot t)→fA sz st.ev l=fA sz st'.ev l
 |[],_=>rfl
 |x::r,h=>by
  simp only[fA];rw[fL fun t ht=>h t (by simp[bR.sH,ht]),vA fun t ht=>h t (by simp[bR.sH,ht])]
theorem sT {st st':St} {sz:Nat}:∀{l:List bR},(∀t∈bR.sH l,st.slot t=st'.slot t)→fB sz st.ev l=fB sz st'.ev l
 |[],_=>rfl
 |x::r,h=>by
  simp only[fB];rw[fL fun t ht=>h t (by simp[bR.sH,ht]),sT fun t ht=>h t (by simp[bR.sH,ht])]
theorem ID {st st':St}:∀{l:List bR},(∀t∈bR.sH l,st.slot t=st'.slot t)→uV st.ev l=uV st'.ev l
 |[],_=>rfl
 |x::r,h=>by
  unfold uV;rw[fL (x:=x) fun t ht=>h t (by simp[bR.sH,ht]),ID (l:=r) fun t ht=>h t (by simp[bR.sH,ht])]
theorem GN {st st':St} {sz:Nat} {l:List bR} (h:∀t∈bR.sH l,st.slot t=st'.slot t):qF sz st.ev l=qF sz st'.ev l:=by
 unfold qF;rw[ID h,vA h]
theorem Bj {st st':St}:∀{l:List (Nat×Nat×bR)} {cs:List AV},(∀t∈bR.Xj l,st.slot t=st'.slot t)→jt st.ev l cs=jt st'.ev l cs
 |[],_,_=>rfl
 |(off,n,x)::r,cs,h=>by
  simp only[jt];rw[fL fun t ht=>h t (by simp[bR.Xj,ht])];simp only[Bj (st:=st) (st':=st') (l:=r) fun t ht=>h t (by simp[bR.Xj,ht])]
theorem zg {st st':St} {x:Option bR} (h:∀t∈bR.slo x,st.slot t=st'.slot t):cX st.ev x=cX st'.ev x:=by
 cases x with
 |none=>rfl
 |some x=>simp only[cX];rw[fL h]
theorem GO {A:Ar} {d:Nat} {op:wQ} {st st':St} (h:∀t∈op.looks,st.slot t=st'.slot t):KA A d op st.ev=KA A d op st'.ev:=by
 cases op<;>simp only[wQ.looks,qav]at h<;>simp only[KA]
 case pick c a b=>rw[fL fun t ht=>h t (.inl ht),fL (x:=a) fun t ht=>h t (.inr (.inl ht)),fL (x:=b) fun t ht=>h t (.inr (.inr ht))]
 case mk z ps=>rw[Bj h]
 case SI sz ps=>rw[GN h,sT h]
 case SP sz ps=>rw[sT h]
 case CW f ps=>rw[rK h]
 case Qm kg sh n m k v=>rw[fL fun t ht=>h t (.inl ht),fL (x:=k) fun t ht=>h t (.inr (.inl ht)),fL (x:=v) fun t ht=>h t (.inr (.inr ht))]
 case AH n m k v=>rw[fL fun t ht=>h t (.inl ht),fL (x:=k) fun t ht=>h t (.inr (.inl ht)),fL (x:=v) fun t ht=>h t (.inr (.inr ht))]
 case c8 sz ps=>rw[vA h]
 case SJ f ps=>rw[rK h]
 case call f ps=>rw[rK h]
 case Li sz x lo hi=>rw[fL fun t ht=>h t (.inl ht),zg (x:=lo) fun t ht=>h t (.inr (.inl ht)),zg (x:=hi) fun t ht=>h t (.inr (.inr ht))]
 case sH x lo hi=>rw[fL fun t ht=>h t (.inl ht),zg (x:=lo) fun t ht=>h t (.inr (.inl ht)),zg (x:=hi) fun t ht=>h t (.inr (.inr ht))]
 case AF x ps=>rw[fL fun t ht=>h t (.inl ht),rK (l:=ps) fun t ht=>h t (.inr ht)]
 all_goals first
  |rfl
  |rw[fL h];done
  |rw[fL fun t ht=>h t (.inl ht),fL fun t ht=>h t (.inr ht)]
theorem St.rL (st:St) (d:Option Nat) (v:AV):(st.put d v).slots.length=st.slots.length∧(st.put d v).mem=st.mem:=by
 cases d<;>simp[St.put]
theorem St.vB (st:St) (m:Option (Nat×Obj)):(st.uZ m).slots=st.slots∧(st.uZ m).mem.length=st.mem.length:=by
 cases m<;>simp[St.uZ,St.aq]
theorem Ev.rM (e:Ev) (st:St):(e.app st).slots.length=st.slots.length∧(e.app st).mem.length=st.mem.length:=by
 unfold Ev.app;obtain⟨h1,h2⟩:=St.rL (st.uZ e.m) e.d e.v;obtain⟨h3,h4⟩:=St.vB st e.m;exact⟨by rw[h1,h3],by rw[h2,h4]⟩
theorem Ev.Bk (e:Ev) (st:St):(e.app st).base=st.base∧(e.app st).held=st.held:=by
 obtain⟨d,v,m⟩:=e
 cases d<;>cases m<;>exact⟨rfl,rfl⟩
theorem Ev.rN (e:Ev) (st:St) (s:Nat) (h:e.d≠some s):(e.app st).slot s=st.slot s:=by
 unfold Ev.app;have h3:=(St.vB st e.m).1
 cases hd:e.d with
 |none=>simp only[St.put,St.slot,h3]
 |some d=>
  have MB:d≠s:=fun he=>h (by rw[hd,he])
  simp only[St.put,St.slot,h3,qab,qbF MB]
theorem Ev.Bl (e:Ev) {st st':St} (s:Nat) (hl:st.slots.length=st'.slots.length) (h:st.slot s=st'.slot s):(e.app st).slot s=(e.app st').slot s:=by
 by_cases hd:e.d=some s
 ·unfold Ev.app;simp only[hd,St.put,St.slot,(St.vB _ _).1,qab,List.getElem?_set,qax,hl]
 ·rw[Ev.rN e st s hd,Ev.rN e st' s hd,h]
theorem Ev.uB (e:Ev) (st:St) (id:Nat) (h:∀o,e.m≠some (id,o)):aj (e.app st).mem id=aj st.mem id:=by
 unfold Ev.app;rw[(St.rL _ _ _).2]
 cases hm:e.m with
 |none=>rfl
 |some p=>
  obtain⟨k,o⟩:=p
  have MB:k≠id:=fun he=>h o (by rw[hm,he])
  simp only[St.uZ,St.aq,aj,qab,qbF MB]
theorem Ev.Dl (e:Ev) {st st':St} (id:Nat) (hl:st.mem.length=st'.mem.length) (h:aj st.mem id=aj st'.mem id):aj (e.app st).mem id=aj (e.app st').mem id:=by
 by_cases hm:∀o,e.m≠some (id,o)
 ·rw[Ev.uB e st id hm,Ev.uB e st' id hm,h]
 ·obtain⟨o,hm⟩:∃o,e.m=some (id,o):=qaC fun hn=>hm fun o he=>hn ⟨o,he⟩
  unfold Ev.app;rw[(St.rL _ _ _).2,(St.rL _ _ _).2,hm];simp only[St.uZ,St.aq,aj,qab,List.getElem?_set,qax,hl]
theorem mX (p:Nat→Bool):∀(es:List Ev) (k:Nat) (st:St),(cM p k es st).slots.length=st.slots.length∧(cM p k es st).mem.length=st.mem.length
 |[],_,_=>⟨rfl,rfl⟩
 |e::es,k,st=>by
  simp only[cM];refine⟨(mX p es (k+1) _).1.trans ?_,(mX p es (k+1) _).2.trans ?_⟩
  ·cases p k
   ·rfl
   ·exact(Ev.rM e st).1
  ·cases p k
   ·rfl
   ·exact(Ev.rM e st).2
theorem jR (p:Nat→Bool):∀(es:List Ev) (k:Nat) (st:St),(cM p k es st).base=st.base∧(cM p k es st).held=st.held
 |[],_,_=>⟨rfl,rfl⟩
 |e::es,k,st=>by
  simp only[cM];refine⟨(jR p es (k+1) _).1.trans ?_,(jR p es (k+1) _).2.trans ?_⟩
  ·cases p k
   ·rfl
   ·exact(Ev.Bk e st).1
  ·cases p k
   ·rfl
   ·exact(Ev.Bk e st).2
theorem qX {p q:Nat→Bool} {s:Nat}:∀(es:List Ev) (k:Nat) (st st':St),st.slots.length=st'.slots.length→st.slot s=st'.slot s→
  (∀i e,es[i]? =some e→p (k+i)≠q (k+i)→e.d≠some s)→(cM p k es st).slot s=(cM q k es st').slot s
 |[],_,_,_,_,h,_=>h
 |e::es,k,st,st',hl,h,hd=>by
  simp only[cM];have h0:=hd 0 e rfl
  have HI:∀i e,es[i]? =some e→p (k+1+i)≠q (k+1+i)→e.d≠some s:=fun i e' he Zm=>hd (i+1) e' (by simpa using he) (by rwa [show k+(i+1)=k+1+i by omega])
  refine qX es (k+1) _ _ ?_ ?_ HI
  ·cases p k<;>cases q k<;>simp[(Ev.rM _ _).1,hl]
  ·cases hp:p k<;>cases hq:q k
   ·exact h
   ·rw[Ev.rN e st' s (h0 (by simp[hp,hq]))];exact h
   ·rw[Ev.rN e st s (h0 (by simp[hp,hq]))];exact h
   ·exact Ev.Bl e s hl h
theorem pL {p q:Nat→Bool} {id:Nat}:∀(es:List Ev) (k:Nat) (st st':St),st.mem.length=st'.mem.length→aj st.mem id=aj st'.mem id→
  (∀i e,es[i]? =some e→p (k+i)≠q (k+i)→∀o,e.m≠some (id,o))→aj (cM p k es st).mem id=aj (cM q k es st').mem id
 |[],_,_,_,_,h,_=>h
 |e::es,k,st,st',hl,h,hd=>by
  simp only[cM];have h0:=hd 0 e rfl
  have HI:∀i e,es[i]? =some e→p (k+1+i)≠q (k+1+i)→∀o,e.m≠some (id,o):=fun i e' he Zm=>hd (i+1) e' (by simpa using he) (by rwa [show k+(i+1)=k+1+i by omega])
  refine pL es (k+1) _ _ ?_ ?_ HI
  ·cases p k<;>cases q k<;>simp[(Ev.rM _ _).2,hl]
  ·cases hp:p k<;>cases hq:q k
   ·exact h
   ·rw[Ev.uB e st' id (h0 (by simp[hp,hq]))];exact h
   ·rw[Ev.uB e st id (h0 (by simp[hp,hq]))];exact h
   ·exact Ev.Dl e id hl h
def Ev.free (e e':Ev):Prop:=(∀d,e.d=some d→e'.d≠some d)∧(∀id o o',e.m=some (id,o)→e'.m≠some (id,o'))
theorem Ev.IE {e e':Ev} (h:e.free e') (st:St):e.app (e'.app st)=e'.app (e.app st):=by
 obtain⟨d,v,m⟩:=e;obtain⟨d',v',m'⟩:=e';obtain⟨h1,h2⟩:=h;simp only at h1 h2
 have hs:∀x y,d=some x→d'=some y→x≠y:=fun x y hx hy he=>h1 x hx (by rw[hy,he])
 have hm:∀x y,m=some x→m'=some y→x.1≠y.1:=fun x y hx hy he=>h2 x.1 x.2 y.2 hx (by rw[hy,he])
 cases d<;>cases d'<;>cases m<;>cases m'<;>simp only[Ev.app,St.uZ,St.put,St.aq]<;>
  first
  |rfl
  |(rw[qct _ _ (hs _ _ rfl rfl)];done)
  |(rw[qct _ _ (hm _ _ rfl rfl)];done)
  |(rw[qct _ _ (hs _ _ rfl rfl),qct _ _ (hm _ _ rfl rfl)];done)
  |(rw[qct _ _ (hm _ _ rfl rfl),qct _ _ (hs _ _ rfl rfl)];done)
theorem qY {p:Nat→Bool} {e:Ev}:∀(es:List Ev) (k:Nat) (st:St),(∀i e',es[i]? =some e'→p (k+i)=true→e.free e')→cM p k es (e.app st)=e.app (cM p k es st)
 |[],_,_,_=>rfl
 |e'::es,k,st,h=>by
  simp only[cM]
  have h':∀i e',es[i]? =some e'→p (k+1+i)=true→e.free e':=fun i e' he hp=>h (i+1) e' (by simpa using he) (by rwa [show k+(i+1)=k+1+i by omega])
  cases hp:p k with
  |false=>exact qY es (k+1) st h'
  |true=>
   simp only;rw[←Ev.IE (h 0 e' rfl (by simpa using hp)) st];exact qY es (k+1) _ h'
theorem aaV {p q:Nat→Bool}:∀(es:List Ev) (k:Nat) (st:St),(∀i,k≤i→i<k+es.length→p i=q i)→cM p k es st=cM q k es st
 |[],_,_,_=>rfl
 |e::es,k,st,h=>by
  simp only[cM,h k (qak _) (by simp)]
  exact aaV es (k+1) _ fun i h1 h2=>h i (by omega) (by simp;omega)
theorem rO {p q:Nat→Bool} {e:Ev} {j:Nat} (hp:p j=false) (hq:q j=true) (Zm:∀i,i≠j→p i=q i):∀(es:List Ev) (k:Nat) (st:St),k≤j→es[j-k]? =some e→
  (∀i e',es[i]? =some e'→j<k+i→p (k+i)=true→e.free e')→cM q k es st=e.app (cM p k es st)
 |[],_,_,_,he,_=>by simp at he
 |e'::es,k,st,hk,he,h=>by
  simp only[cM]
  by_cases hkj:k=j
  ·subst hkj;simp only[Nat.sub_self,qay,qaa]at he;subst he;simp only[hp,hq];rw[←qY es (k+1) st fun i e'' A6 WO=>h (i+1) e'' (by simpa using A6) (by omega) (by rwa [show k+(i+1)=k+1+i by omega])]
   exact aaV es (k+1) _ fun i h1 _=>(Zm i (by omega)).symm
  ·rw[←Zm k hkj];refine rO hp hq Zm es (k+1) _ (by omega) ?_ ?_
   ·rw[show j-k=(j-(k+1))+1 by omega]at he;simpa using he
   ·intro i e'' A6 hj WO;exact h (i+1) e'' (by simpa using A6) (by omega) (by rwa [show k+(i+1)=k+1+i by omega])
end Go.Am
end
section
namespace Go.Am
section
variable (C:CT) (A:Ar)
end
def fc:List (Ev×eP)→St→St
 |[],st=>st
 |(e,_)::r,st=>fc r (e.app st)
theorem GP (h:eP):qH h gR=true:=by
 unfold qH gR
 cases h.wr<;>simp[fp,Gu]
theorem ly {f:eP} {id:Nat} (h:f.wr=some id):fp f id=true:=by
 unfold fp;split
 ·rfl
 ·split
  ·rfl
  ·simp[h,Gu]
theorem qZ {f:eP} {id:Nat} (h:f.rd=some id):fp f id=true:=by
 unfold fp;split
 ·rfl
 ·simp[h,Gu]
theorem vC (k:Nat) (rd:Option Nat) (o:Out):(gj k rd o).rd=rd:=by cases o<;>first|rfl|(simp only[gj];split<;>rfl)
theorem yp (l:List Nat):∀(cE:List eP) (i:Nat),iy l gR i cE=true
 |[],_=>rfl
 |h::hs,i=>by
  simp only[iy,GP,yp l hs (i+1)]
  cases l.contains i<;>rfl
theorem tP {l:List Nat} {f:eP}:∀{cE:List eP} {k:Nat},iy l f k cE=true→∀i h,cE[i]? =some h→l.contains (k+i)=true∨qH h f=true
 |[],_,_,i,h,hi=>by simp at hi
 |g::hs,k,ha,i,h,hi=>by
  simp only[iy]at ha
  have vD:iy l f (k+1) hs=true:=by
   split at ha
   ·exact ha
   ·split at ha
    ·exact ha
    ·cases ha
  cases i with
  |zero=>
   simp only[qay,qaa]at hi;subst hi;split at ha
   ·rename_i hc;exact .inl hc
   ·split at ha
    ·rename_i hc;exact .inr hc
    ·cases ha
  |succ i=>
   rw[show k+(i+1)=k+1+i by omega];exact tP vD i h (by simpa using hi)
theorem tQ {h f:eP} (ha:qH h f=true):(∀id,h.wr=some id→fp f id=false)∧(∀id,f.wr=some id→fp h id=false):=by
 unfold qH at ha;constructor
 ·intro id hid;rw[hid]at ha
  cases ht:fp f id with
  |false=>rfl
  |true=>simp[ht]at ha
 ·intro id hid;split at ha
  ·cases ha
  ·rw[hid]at ha
   cases ht:fp h id with
   |false=>rfl
   |true=>simp[ht]at ha
section
variable {C:CT} {A:Ar}
theorem lz:∀{l:List AI} {lt:List (List Nat)} {cE:List eP} {st:St} {K:St→Prop},ek C A l lt cE st K→∃r,Trace C A l lt cE st r∧K (fc r st)
 |[],_,_,st,K,h=>⟨[],rfl,h⟩
 |x::xs,lt,cE,st,K,h=>by
  have hg:(guardOf st x.g=some true∧iy (lt.headD []) (eC (st.base+x.d.getD 0) st (KA A (st.base+x.d.getD 0) x.op st.ev)) 0 cE=true∧
    gO C A none (st.base+x.d.getD 0) x st fun st'=>ek C A xs lt.tail (cE++[eC (st.base+x.d.getD 0) st (KA A (st.base+x.d.getD 0) x.op st.ev)]) st' K)∨
    (guardOf st x.g=some false∧ek C A xs lt.tail (cE++[gR]) (st.put x.d tw) K):=by
   simp only[ek]at h
   cases hx:x.g with
   |none=>simp only[hx]at h;exact .inl ⟨rfl,h⟩
   |some p=>
    obtain⟨j,want⟩:=p;simp only[hx]at h;simp only[guardOf]
    cases hs:st.slot j with
    |pv p=>
     cases p with
     |bool b=>
      simp only[hs]at h
      cases b<;>cases want<;>first|exact .inl ⟨rfl,h⟩|exact .inr ⟨rfl,h⟩
     |eN l=>simp only[hs]at h;exact .inr ⟨rfl,h⟩
     |_=>simp only[hs]at h
    |_=>simp only[hs]at h
  rcases hg with⟨h1,h2,h3⟩|⟨h1,h2⟩
  ·obtain⟨e,k1,k2⟩:=IA _ _ h3;obtain⟨r,k3,k4⟩:=lz k2;exact⟨(e,_)::r,⟨e,_,r,rfl,.inl ⟨h1,k1,rfl⟩,h2,k3⟩,k4⟩
  ·obtain⟨r,k3,k4⟩:=lz h2;exact⟨(⟨x.d,tw,none⟩,gR)::r,⟨_,_,r,rfl,.inr ⟨h1,rfl,rfl⟩,yp _ _ _,k3⟩,k4⟩
theorem oS:∀{l:List AI} {lt:List (List Nat)} {cE:List eP} {st:St} {r:List (Ev×eP)},Trace C A l lt cE st r→r.length=l.length∧
  ∀j x,l[j]? =some x→∃e f,r[j]? =some (e,f)∧HH C A x (fc (r.take j) st) e f∧iy (lt.getD j []) f 0 (cE++(r.take j).map (·.2))=true
 |[],_,_,_,r,h=>by simp only[Trace]at h;subst h;exact⟨rfl,fun j x hx=>by simp at hx⟩
 |x::xs,lt,cE,st,r,h=>by
  simp only[Trace]at h;obtain⟨e,f,r',rfl,h1,h2,h3⟩:=h;obtain⟨hl,hj⟩:=oS h3;refine⟨by simp[hl],fun j y hy=>?_⟩
  cases j with
  |zero=>
   simp only[qay,qaa]at hy;subst hy;refine⟨e,f,rfl,h1,?_⟩;simp only[qbo,qaF,qbw];rw[show lt.getD 0 []=lt.headD [] by cases lt<;>rfl];exact h2
  |succ j=>
   obtain⟨e',f',k1,k2,k3⟩:=hj j y (by simpa using hy);refine⟨e',f',by simpa using k1,by simpa[fc]using k2,?_⟩;simp only[qbl,qaj];rw[show lt.getD (j+1) []=lt.tail.getD j [] by cases lt<;>simp,show cE++f::(r'.take j).map (·.2)=(cE++[f])++(r'.take j).map (·.2) by simp];exact k3
theorem dZ:∀(r:List (Ev×eP)) (j k:Nat) (st:St),fc (r.take j) st=cM (fun i=>decide (i<k+j)) k (r.map (·.1)) st
 |[],j,k,st=>by simp[fc,cM]
 |(e,f)::r,j,k,st=>by
  cases j with
  |zero=>
   simp only[qbo,fc,qaj,cM,qcz,Nat.lt_irrefl,qbY];have:=dZ r 0 (k+1) st;simp only[qbo,fc]at this;refine this.trans (aaV _ _ _ fun i h1 _=>?_);rw[qa4 (by omega),qa4 (by omega)]
  |succ j=>
   simp only[qbl,fc,qaj,cM]
   have hk:decide (k<k+(j+1))=true:=by simp
   rw[hk,dZ r j (k+1)]
   exact aaV _ _ _ fun i h1 _=>by rw[show k+1+j=k+(j+1) by omega]
theorem Bm {x:AI} {st:St} {e:Ev} {f:eP} (h:HH C A x st e f):e.d=x.d:=by
 have key:∀o,dd C x.d (st.base+x.d.getD 0) st o e→e.d=x.d:=by
  intro o ho
  cases o<;>simp only[dd]at ho
  ·rw[ho]
  ·rw[ho.2]
  ·rw[ho.2]
  ·rw[ho.2.2]
  ·obtain⟨_,_,rfl⟩:=ho;rfl
  ·obtain⟨_,_,_,rfl⟩:=ho;rfl
  ·rcases ho with⟨_,_,_,_,_,_,rfl⟩|⟨_,_,_,_,_,_,_,_,rfl⟩<;>rfl
 rcases h with⟨_,h,_⟩|⟨_,rfl,_⟩
 ·cases hE:KA A (st.base+x.d.getD 0) x.op st.ev with
  |pure o=>rw[hE]at h;exact key _ h
  |rd id k=>rw[hE]at h;obtain⟨ob,_,h⟩:=h;exact key _ h
 ·rfl
theorem Qx {d:Option Nat} {k:Nat} {st:St} {e:Ev} {o:Out} {rd:Option Nat} (ho:dd C d k st o e) {id:Nat} {ob:Obj} (hm:e.m=some (id,ob)):(gj k rd o).wr=some id:=by
 cases o<;>simp only[dd]at ho
 ·rw[ho]at hm;cases hm
 ·rw[ho.2]at hm;cases hm
 ·rw[ho.2]at hm;cases hm;rfl
 ·rw[ho.2.2]at hm;cases hm;rfl
 ·obtain⟨_,_,rfl⟩:=ho;cases hm;rfl
 ·obtain⟨_,_,_,rfl⟩:=ho;cases hm;rfl
 ·rcases ho with⟨_,_,_,_,_,_,rfl⟩|⟨hd,_,_,_,_,_,_,_,rfl⟩
  ·cases hm
  ·cases hm;simp only[gj,hd]
theorem Qy {x:AI} {st:St} {e:Ev} {f:eP} (h:HH C A x st e f) {id:Nat} {ob:Obj} (hm:e.m=some (id,ob)):f.wr=some id:=by
 rcases h with⟨_,h,rfl⟩|⟨_,rfl,rfl⟩
 ·cases hE:KA A (st.base+x.d.getD 0) x.op st.ev with
  |pure o=>rw[hE]at h;exact Qx h hm
  |rd mD k=>rw[hE]at h;obtain⟨ob',h0,h⟩:=h;simp only[eC,h0];exact Qx h hm
 ·cases hm
theorem vE {m m':List (Option Obj)}:∀{l:List AV},dry l=true→nk m l=nk m' l
 |[],_=>rfl
 |x::r,h=>by
  cases x<;>simp only[dry]at h<;>first|(cases h;done)|(simp only[nk,mJ,vE (m:=m) (m':=m') h])
theorem nE {m m':List (Option Obj)}:∀{l:List AV},jW l=true→dB m l=dB m' l
 |[],_=>rfl
 |x::r,h=>by
  cases x with
  |agg cs=>
   simp only[jW]at h;split at h
   ·rename_i hc;simp only[dB,lS,lR,vE (m:=m) (m':=m') hc,nE (m:=m) (m':=m') h]
   ·cases h
  |_=>simp only[jW]at h<;>first|(cases h;done)|(simp only[dB,lS,lR,mJ,nE (m:=m) (m':=m') h])
theorem L0 {m m':List (Option Obj)} (hl:m.length=m'.length) (h:∀id,aj m id=aj m' id):m=m':=by
 apply qcq hl;intro i h1 h2;have:=h i;simpa only[aj,qab,qag h1,qag h2,qbg]using this
theorem Bn {d rd:Option Nat} {k:Nat} {st st':St} {e:Ev} {o:Out} (hl:st.mem.length=st'.mem.length) (hm:∀id,fp (gj k rd o) id=true→aj st.mem id=aj st'.mem id) (ho:dd C d k st o e):dd C d k st' o e:=by
 cases o with
 |new o v=>
  obtain⟨h2,h3,h4⟩:=ho;exact⟨by rw[←hm k (ly rfl)];exact h2,hl▸h3,h4⟩
 |jK p o v=>
  obtain⟨h2,h3,h4⟩:=ho;exact⟨by rw[←hm k (ly rfl)];exact h2,hl▸h3,h4⟩
 |dp id o v=>exact⟨hl▸ho.1,ho.2⟩
 |ix p id o v=>exact⟨hl▸ho.1,ho.2⟩
 |call f args=>
  rcases ho with⟨ps,b,res,h1,h2,h3,h4⟩|⟨hd,ps,sz,rows,h1,h2,h3,h4,h5⟩
  ·refine .inl ⟨ps,b,res,?_,h2,h3,h4⟩
   cases hd:jW args with
   |true=>rw[←nE (m:=st.mem) hd];exact h1
   |false=>
    have:st.mem=st'.mem:=L0 hl fun id=>hm id (by simp only[fp,gj,hd])
    rw[←this];exact h1
  ·exact .inr ⟨hd,ps,sz,rows,by rw[←nE (m:=st.mem) hd];exact h1,h2,by rw[←hm k (ly (by simp only[gj,hd]))];exact h3,hl▸h4,h5⟩
 |_=>exact ho
theorem IF {x:AI} {st st':St} {e:Ev} {f:eP} (hb:st.base=st'.base) (hl:st.mem.length=st'.mem.length) (hs:∀t∈x.looks,st.slot t=st'.slot t) (hm:∀id,fp f id=true→aj st.mem id=aj st'.mem id)
  (h:HH C A x st e f):HH C A x st' e f:=by
 have hg:guardOf st x.g=guardOf st' x.g:=by
  cases hx:x.g with
  |none=>rfl
  |some p=>
   obtain⟨j,want⟩:=p;simp only[guardOf,hs j (by simp[AI.looks,hx])]
 have hE:KA A (st.base+x.d.getD 0) x.op st.ev=KA A (st'.base+x.d.getD 0) x.op st'.ev:=by rw[←hb];exact GO fun t ht=>hs t (by simp[AI.looks,ht])
 rcases h with⟨h1,h2,h3⟩|⟨h1,h2,h3⟩
 ·refine .inl ⟨hg▸h1,?_,?_⟩
  ·rw[←hE,←hb]
   cases hE':KA A (st.base+x.d.getD 0) x.op st.ev with
   |pure o=>
    rw[hE']at h2 h3;exact Bn hl (fun id ht=>hm id (by rw[h3];exact ht)) h2
   |rd id k=>
    rw[hE']at h2 h3;obtain⟨ob,k1,k2⟩:=h2;simp only[eC,k1]at h3
    have hid:aj st'.mem id=some ob:=by
     rw[←hm id ?_];exact k1;rw[h3];exact qZ (vC _ _ _)
    exact⟨ob,hid,Bn hl (fun mD ht=>hm mD (by rw[h3];exact ht)) k2⟩
  ·rw[←hE,←hb];rw[h3]
   cases hE':KA A (st.base+x.d.getD 0) x.op st.ev with
   |pure o=>rfl
   |rd id k=>
    rw[hE']at h2 h3;obtain⟨ob,k1,k2⟩:=h2;simp only[eC,k1]at h3
    have hid:aj st'.mem id=some ob:=by
     rw[←hm id ?_];exact k1;rw[h3];exact qZ (vC _ _ _)
    simp only[eC,k1,hid]
 ·exact .inr ⟨hg▸h1,h2,h3⟩
end
end Go.Am
end
section
namespace Go.Am
theorem mq {P:Program} {G:Nat→Option (List PV)} {accs:List Nat} {ops:Array Oper}:∀{os:List Oper} {l:List AI},V6 P G accs ops os=some l→l.length=os.length∧
  ∀(j:Nat) (o:Oper),os[j]? =some o→∃x:AI,l[j]? =some x∧lb P G accs ops o=some x
 |[],l,h=>by simp only[V6,qaa]at h;subst h;exact⟨rfl,fun j o hj=>by simp at hj⟩
 |o::os,l,h=>by
  simp only[V6]at h;split at h
  ·rename_i x hx;split at h
   ·rename_i xs WN;simp only[qaa]at h;subst h;obtain⟨h1,h2⟩:=mq WN;refine⟨by simp[h1],fun j o' hj=>?_⟩
    cases j with
    |zero=>simp only[qay,qaa]at hj;subst hj;exact⟨x,rfl,hx⟩
    |succ j=>simpa using h2 j o' (by simpa using hj)
   ·cases h
  ·cases h
theorem oT:∀(os:List Oper) (acc:List (List Nat)),(∀i,i<acc.length→(iz os acc)[i]? =acc[i]?)∧
  ∀(j:Nat) (o:Oper),os[j]? =some o→∀k∈(iz os acc).getD (acc.length+j) [],∃e∈o.after,Region.binds .any e=true∧(k=e.on∨k∈(iz os acc).getD e.on [])
 |[],acc=>⟨fun i _=>rfl,fun j o hj=>by simp at hj⟩
 |o::os,acc=>by
  simp only[iz];generalize hl:(o.after.toList.filter (Region.binds .any)).foldl (fun l e=>(e.on::(acc.getD e.on [])).foldl (fun l i=>if l.contains i then l else l++[i]) l) []=new;obtain⟨h1,h2⟩:=oT os (acc++[new]);refine⟨fun i hi=>by rw[h1 i (by simp;omega),qaQ hi],fun j o' hj k hk=>?_⟩
  cases j with
  |zero=>
   simp only[qay,qaa]at hj;subst hj
   have e0:(iz os (acc++[new])).getD (acc.length+0) []=new:=by
    rw[qab,h1 (acc.length+0) (by simp)];simp
   rw[e0,←hl]at hk
   have inner:∀(xs l:List Nat),k∈xs.foldl (fun l i=>if l.contains i then l else l++[i]) l→k∈l∨k∈xs:=by
    intro xs
    induction xs with
    |nil=>intro l hk;exact .inl hk
    |cons x xs ih=>
     intro l hk;simp only[qbu]at hk
     rcases ih _ hk with h|h
     ·split at h
      ·exact .inl h
      ·rcases qav.1 h with h|h
       ·exact .inl h
       ·exact .inr (by simp at h;simp[h])
     ·exact .inr (by simp[h])
   have outer:∀(es:List Edge) (l:List Nat),k∈es.foldl (fun l e=>(e.on::(acc.getD e.on [])).foldl (fun l i=>if l.contains i then l else l++[i]) l) l→k∈l∨∃e∈es,k=e.on∨k∈acc.getD e.on []:=by
    intro es
    induction es with
    |nil=>intro l hk;exact .inl hk
    |cons e es ih=>
     intro l hk;rw[qbu]at hk
     rcases ih _ hk with h|⟨e',A6,h⟩
     ·rcases inner _ _ h with h|h
      ·exact .inl h
      ·exact .inr ⟨e,by simp,by simpa using h⟩
     ·exact .inr ⟨e',by simp[A6],h⟩
   rcases outer _ _ hk with h|⟨e,he,h⟩
   ·simp at h
   ·obtain⟨UQ,Ix⟩:=qba.1 he;refine⟨e,by simpa using UQ,Ix,h.imp id fun h=>?_⟩
    have bO:e.on<acc.length:=by
     rcases qbQ e.on acc.length with bO|x7
     ·exact bO
     ·simp[qab,qa0 x7]at h
    rw[qab,h1 e.on (by simp;omega),qaQ bO,←qab];exact h
  |succ j=>
   have:=h2 j o' (by simpa using hj) k (by simpa[show acc.length+1+j=acc.length+(j+1) by omega]using hk);exact this
theorem vF:∀(os:List Oper) (acc:List (List Nat)) (j:Nat) (o:Oper),os[j]? =some o→∀e∈o.after,Region.binds .any e=true→e.on∈(iz os acc).getD (acc.length+j) []
 |[],acc=>fun j o hj=>by simp at hj
 |o::os,acc=>by
  intro j o' hj e he hb;simp only[iz];generalize hl:(o.after.toList.filter (Region.binds .any)).foldl (fun l e=>(e.on::(acc.getD e.on [])).foldl (fun l i=>if l.contains i then l else l++[i]) l) []=new;obtain⟨h1,_⟩:=oT os (acc++[new])
  cases j with
  |zero=>
   simp only[qay,qaa]at hj;subst hj
   have e0:(iz os (acc++[new])).getD (acc.length+0) []=new:=by
    rw[qab,h1 (acc.length+0) (by simp)];simp
   rw[e0,←hl]
   have sM:∀(xs l:List Nat) (k:Nat),k∈l→k∈xs.foldl (fun l i=>if l.contains i then l else l++[i]) l:=by
    intro xs
    induction xs with
    |nil=>intro l k hk;exact hk
    |cons x xs ih=>
     intro l k hk;simp only[qbu];apply ih;split
     ·exact hk
     ·simp[hk]
   have inner:∀(xs l:List Nat) (k:Nat),k∈xs→k∈xs.foldl (fun l i=>if l.contains i then l else l++[i]) l:=by
    intro xs
    induction xs with
    |nil=>intro l k hk;cases hk
    |cons x xs ih=>
     intro l k hk;simp only[qbu]
     rcases qam.1 hk with rfl|hk
     ·apply sM;split
      ·rename_i hc;simpa using hc
      ·simp
     ·exact ih _ _ hk
   have XR:∀(es:List Edge) (l:List Nat) (k:Nat),k∈l→k∈es.foldl (fun l e=>(e.on::(acc.getD e.on [])).foldl (fun l i=>if l.contains i then l else l++[i]) l) l:=by
    intro es
    induction es with
    |nil=>intro l k hk;exact hk
    |cons e es ih=>intro l k hk;rw[qbu];exact ih _ _ (sM _ _ _ hk)
   have outer:∀(es:List Edge) (l:List Nat),e∈es→e.on∈es.foldl (fun l e=>(e.on::(acc.getD e.on [])).foldl (fun l i=>if l.contains i then l else l++[i]) l) l:=by
    intro es
    induction es with
    |nil=>intro l hk;cases hk
    |cons e' es ih=>
     intro l hk;rw[qbu]
     rcases qam.1 hk with rfl|hk
     ·exact XR _ _ _ (inner _ _ _ (by simp))
     ·exact ih _ hk
   exact outer _ _ (qba.2 ⟨by simpa using he,hb⟩)
  |succ j=>
   have:=vF os (acc++[new]) j o' (by simpa using hj) e he hb;simpa[show acc.length+1+j=acc.length+(j+1) by omega]using this
theorem apart_spec {x y:AI} (h:x.apart y=true):(∀d,x.d=some d→d∉y.looks∧y.d≠some d)∧(∀d,y.d=some d→d∉x.looks):=by
 unfold AI.apart at h;refine⟨fun d hd=>?_,fun d hd=>?_⟩<;>simp[hd]at h
 ·exact⟨h.1.1,h.1.2⟩
 ·exact h.2
theorem ql {l:List AI} {lt:List (List Nat)} (h:iF l lt=true):(∀i,i<l.length→∀k∈lt.getD i [],k<i)∧
  ∀i j x y,j<i→l[i]? =some x→l[j]? =some y→j∈lt.getD i []∨x.apart y=true:=by
 unfold iF at h;simp only[qa1,qbU,qaG,qae,qb7,qbS]at h;refine⟨fun i hi k hk=>(h i hi).1 k hk,fun i j x y ot hx hy=>?_⟩;have hi:i<l.length:=(qat.1 hx).1;have:=(h i hi).2 j ot;rw[hx,hy]at this;exact this
theorem Dm {l:List AI} {lt:List (List Nat)} {i k:Nat} (h:k∈(iA l lt).getD i []):k∈lt.getD i []∨mO l k i=true:=by
 simp only[iA,qab,qbO]at h
 rcases qbQ i lt.length with hi|hi
 ·rw[List.getElem?_range hi]at h;simp only[qaM,qbg,qav,qba]at h
  rcases h with h|h
  ·exact .inl h
  ·exact .inr h.2
 ·rw[qa0 (by simpa using hi)]at h;simp at h
theorem nF {x y:AI} (h:AX x y=true):∃kg sh k n m t,x.op=.Ll kg sh (.int k n) false (.t m) (.t t)∧x.g=none∧y.op=.sI kg sh (.int k n) (.t m) (.t t)∧y.g=none∧∀s∈x.looks,x.d≠some s:=by
 unfold AX at h;split at h
 ·rename_i kg sh z ok m k e1 e2;split at h
  ·rename_i pX HY z' m' k' e3 e4
   cases ok with
   |true=>cases h
   |false=>
    simp only[qaG,qae,qa1]at h;obtain⟨⟨⟨rfl,rfl,rfl,rfl⟩,h2⟩,h3⟩:=h;unfold Qq at h2;split at h2
    ·rename_i k1 n1 k2 n2;simp only[qae]at h2;obtain⟨rfl,rfl⟩:=h2;exact⟨_,_,_,_,_,_,e1,e2,e3,e4,h3⟩
    ·cases h2
  ·cases h
 ·cases h
theorem lA {l:List AI} {j i:Nat} {x y:AI} (hx:l[j]? =some x) (hy:l[i]? =some y) (h:mO l j i=true):AX x y=true∧
  ∀q,j<q→q<i→∃z,l[q]? =some z∧quiet z.op=true∧∀t∈x.looks,z.d≠some t:=by
 unfold mO at h;rw[hx,hy]at h;simp only at h;split at h
 ·rename_i hp;refine⟨hp,fun q h1 h2=>?_⟩;unfold Qr at h;simp only[qa1,qbU]at h;have:=h q h2;rw[qa4 (by omega)]at this;simp only at this;split at this
  ·rename_i z hz;simp only[qaG,qa1,qae]at this;exact⟨z,hz,this.1,this.2⟩
  ·cases this
 ·cases h
theorem Bo (A:Ar) {op:BinOp} {k:IntKind} {a b:Int} {C:CT} {d:Option Nat} {n:Nat} {st:St} {e:Ev} (h:dd C d n st (uT A op k a b) e):e.m=none:=by
 unfold uT at h
 split at h<;>simp only[dd]at h<;>first|(rw[h];done)|(rw[h.2];done)
theorem L1 {C:CT} {A:Ar} {x:AI} {st:St} {e:Ev} {f:eP} (hq:quiet x.op=true) (h:HH C A x st e f):e.m=none:=by
 rcases h with⟨_,h,_⟩|⟨_,rfl,_⟩
 ·obtain⟨d,op,g⟩:=x;simp only at hq h;unfold quiet at hq;split at hq
  ·rename_i b u v;simp only[KA,ka]at h;unfold xK at h;split at h
   ·split at h
    ·simp only[dd]at h;rw[h.2]
    ·simp only[dd]at h;rw[h.2]
    ·split at h
     ·exact Bo A h
     ·simp only[dd]at h
   ·unfold uU at h
    split at h<;>simp only[dd]at h<;>first|(rw[h];done)|(rw[h.2];done)
   ·simp only[dd]at h
  ·simp only[KA,ka,dd]at h;rw[h]
  ·cases hq
 ·rfl
theorem IG {C:CT} {A:Ar} {d:Option Nat} {n:Nat} {st:St} {e:Ev} {k:List UInt8} {z:AV} {ok:Bool}:∀{rows:List (List UInt8×AV)},dd C d n st (jM A k z ok rows) e→e.m=none
 |[],h=>by simp only[jM,dd]at h;rw[h]
 |(s',v)::rows,h=>by
  simp only[jM]at h;split at h
  ·simp only[dd]at h;rw[h]
  ·exact IG h
theorem Dn {C:CT} {A:Ar} {x y:AI} {st:St} {e:Ev} {f:eP} (hs:AX x y=true) (h:HH C A x st e f):e.m=none:=by
 obtain⟨kg,sh,k,n,m,t,h1,h2,h3,h4,h5⟩:=nF hs
 rcases h with⟨_,h,_⟩|⟨_,rfl,_⟩
 ·rw[h1]at h;simp only[KA]at h;unfold uW at h;split at h
  ·split at h
   ·simp only[ka,dd]at h;rw[h.2]
   ·simp only[ka,dd]at h
  ·split at h
   ·split at h
    ·simp only[ka,dd]at h;rw[h.2]
    ·simp only[ka,dd]at h
   ·simp only[ka,dd]at h
  ·simp only[ka]at h;obtain⟨ob,_,h⟩:=h;split at h
   ·split at h
    ·split at h
     ·simp only[dd]at h;rw[h.2]
     ·simp only[dd]at h
    ·simp only[dd]at h
   ·split at h
    ·exact IG h
    ·simp only[dd]at h
   ·simp only[dd]at h
  ·simp only[ka,dd]at h
 ·rfl
theorem vG {p:Nat→Bool} {id:Nat} {o:Obj}:∀(es:List Ev) (i k:Nat) (e:Ev) (st:St),es[i]? =some e→p (k+i)=true→e.m=some (id,o)→id<st.mem.length→
  (∀q e',i<q→es[q]? =some e'→p (k+q)=true→∀o',e'.m≠some (id,o'))→aj (cM p k es st).mem id=some o
 |[],_,_,_,_,h,_,_,_,_=>by simp at h
 |e0::es,0,k,e,st,h,hp,hm,hl,hq=>by
  simp only[qay,qaa]at h;subst h;simp only[qcz]at hp;simp only[cM,hp]
  have h1:=pL (p:=p) (q:=fun _=>false) (id:=id) es (k+1) (e0.app st) (e0.app st) rfl rfl fun i e' he MB o'=>by
   have:p (k+1+i)=true:=by
    cases jo:p (k+1+i)with
    |true=>rfl
    |false=>rw[jo]at MB;exact absurd rfl MB
   exact hq (i+1) e' (by omega) (by simpa using he) (by rwa [show k+(i+1)=k+1+i by omega]) o'
  rw[h1]
  have h2:∀(es:List Ev) (k:Nat) (st:St),cM (fun _=>false) k es st=st:=by
   intro es
   induction es with
   |nil=>intro k st;rfl
   |cons e es ih=>intro k st;simp only[cM];exact ih _ _
  rw[h2];unfold Ev.app;rw[(St.rL _ _ _).2,hm];simp only[St.uZ];rw[Bi hl,qao rfl]
 |e0::es,i+1,k,e,st,h,hp,hm,hl,hq=>by
  simp only[cM];refine vG es i (k+1) e _ (by simpa using h) (by rwa [show k+1+i=k+(i+1) by omega]) hm ?_ ?_
  ·cases p k
   ·exact hl
   ·rw[(Ev.rM _ _).2];exact hl
  ·intro q e' h1 h2 h3;exact hq (q+1) e' (by omega) (by simpa using h2) (by rwa [show k+(q+1)=k+1+q by omega])
theorem zh {sh:List Nat}:∀{k:List PV},aR sh k k→JK k k=true:=by
 intro k
 induction k generalizing sh with
 |nil=>intro _;rfl
 |cons x k ih=>
  intro h
  cases sh with
  |nil=>simp only[aR]at h
  |cons s sh=>
   cases x<;>rcases s with _|_|_|s<;>simp[aR]at h<;>simp[JK,ih h]
theorem ahC {sh:List Nat} {kn:Nat} {rows:List (List PV)} {k z:List PV} (h:aF.CZ sh kn rows k):aF.CZ sh kn (aF.sK kn rows k z) k∧jy kn (aF.sK kn rows k z) k z=jy kn rows k z:=by
 obtain⟨h1,h2,h3⟩:=h
 have hp:aF.sK kn rows k z=match dQ kn rows k with|true=>rows|false=>rows++[k++z]:=rfl
 rw[hp]
 cases hh:dQ kn rows k with
 |true=>exact⟨⟨h1,h2,h3⟩,rfl⟩
 |false=>
  simp only
  have ht:(k++z).take kn=k:=by rw[←h1];simp
  have hd:(k++z).drop kn=z:=by rw[←h1];simp
  refine⟨⟨h1,h2,fun r hr=>?_⟩,?_⟩
  ·rcases qav.1 hr with hr|hr
   ·exact h3 r hr
   ·simp only[qaO]at hr;rw[hr,ht];exact h2
  ·have hn:rows.find? (fun r=>JK k (r.take kn))=none:=by
    rw[List.find?_eq_none];intro r hr hc;unfold dQ at hh;rw[List.any_eq_false]at hh;exact hh r hr hc
   unfold jy;rw[List.find?_append,hn];simp only[Option.none_or,qbv,ht,zh h2,hd]
section
variable {P:Program} {w0:World} {own0:Nat→Prop} {hvs:List Value×List Deferred} {G:Nat→Option (List PV)} {S0:Nat→Prop} {accs:List Nat} {Q:Exit→Act→World→Prop}
 {ops:Array Oper} {l:List AI} {lt:List (List Nat)} {r:List (Ev×eP)} {st0:St}
theorem vH (CP:iF l lt=true) (vI:Trace (CC P G) aF l (iA l lt) [] st0 r) {i j:Nat} {x y:AI} (ot:i<j) (hx:l[i]? =some x) (hy:l[j]? =some y)
  (hn:i∉lt.getD j []):∃e f e' f',r[i]? =some (e,f)∧r[j]? =some (e',f')∧e.d=x.d∧e'.d=y.d∧(∀id ob,e.m=some (id,ob)→f.wr=some id)∧(∀id ob,e'.m=some (id,ob)→f'.wr=some id)∧
   y.apart x=true∧(qH f f'=true∨mO l i j=true):=by
 obtain⟨hlen,vI⟩:=oS vI;obtain⟨e,f,h1,h2,h3⟩:=vI i x hx;obtain⟨e',f',h4,h5,h6⟩:=vI j y hy;refine⟨e,f,e',f',h1,h4,Bm h2,Bm h5,fun id ob=>Qy h2,fun id ob=>Qy h5,?_,?_⟩
 ·exact((ql CP).2 j i y x ot hy hx).resolve_left hn
 ·have hi:([]++(r.take j).map (·.2))[i]? =some f:=by simp[qch,ot,h1]
  rcases tP h6 i f hi with h|h
  ·rw[qaA,qbS]at h;exact(Dm h).elim (fun h=>absurd h hn) .inr
  ·exact .inl h
theorem IH (vI:Trace (CC P G) aF l lt [] st0 r) {j i:Nat} {x y:AI} (hx:l[j]? =some x) (hy:l[i]? =some y) (TP:j<i) (hs:mO l j i=true) {e e':Ev} {f f':eP} (he:r[j]? =some (e,f)) (A6:r[i]? =some (e',f')):
  ∃id o,e'.m=some (id,o)∧id<st0.mem.length∧fp f id=true∧(∀k,fp f k=true→k=id)∧∀st':St,st'.base=st0.base→(∀t∈x.looks,(fc (r.take j) st0).slot t=st'.slot t)→aj st'.mem id=some o→HH (CC P G) aF x st' e f:=by
 obtain⟨hp,hq⟩:=lA hx hy hs;obtain⟨kg,sh,kk,n,m,t,h1,h2,h3,h4,h5⟩:=nF hp;obtain⟨hlen,ht⟩:=oS vI;obtain⟨e1,f1,p1,p2,_⟩:=ht j x hx;rw[he]at p1;cases p1;obtain⟨e2,f2,q1,q2,_⟩:=ht i y hy;rw[A6]at q1;cases q1
 have sU:m∈x.looks∧t∈x.looks:=by simp[AI.looks,h1,wQ.looks,bR.sl]
 have bZ:∀q eq,(r.map (·.1))[q]? =some eq→j≤q→q<i→eq.m=none∧∀s∈x.looks,eq.d≠some s:=by
  intro q eq hr h6 h7
  rcases qbQ j q with h8|h8
  ·obtain⟨z,hz,hz1,Qz⟩:=hq q h8 h7;obtain⟨e3,f3,r1,r2,_⟩:=ht q z hz
   have:eq=e3:=by simp[r1]at hr;exact hr.symm
   subst this;exact⟨L1 hz1 r2,fun s hs=>by rw[Bm r2];exact Qz s hs⟩
  ·have:q=j:=by omega
   subst this
   have:eq=e:=by simp[he]at hr;exact hr.symm
   subst this;exact⟨Dn hp p2,fun s hs=>by rw[Bm p2];exact h5 s hs⟩
 have EW:∀s∈x.looks,(fc (r.take i) st0).slot s=(fc (r.take j) st0).slot s:=by
  intro s hs;rw[dZ r i 0 st0,dZ r j 0 st0]
  refine qX _ 0 st0 st0 rfl rfl fun q eq hr MB=>?_
  simp only[qaA,ne_eq,qco]at MB;exact(bZ q eq hr (by omega) (by omega)).2 s hs
 have mV:∀k,aj (fc (r.take i) st0).mem k=aj (fc (r.take j) st0).mem k:=by
  intro k;rw[dZ r i 0 st0,dZ r j 0 st0]
  refine pL _ 0 st0 st0 rfl rfl fun q eq hr MB o ho=>?_
  simp only[qaA,ne_eq,qco]at MB;rw[(bZ q eq hr (by omega) (by omega)).1]at ho;cases ho
 have QA:∀n,(fc (r.take n) st0).base=st0.base∧(fc (r.take n) st0).mem.length=st0.mem.length:=by
  intro n;rw[dZ r n 0 st0];exact⟨(jR _ _ _ _).1,(mX _ _ _ _).2⟩
 generalize qR:fc (r.take i) st0=si at q2 EW mV;generalize hsj:fc (r.take j) st0=sj at p2 EW mV;have LF:=QA i;have hbj:=QA j;rw[qR]at LF;rw[hsj]at hbj
 rcases q2 with⟨_,q2,_⟩|⟨q2,_,_⟩
 case inr=>rw[h4]at q2;cases q2
 rcases p2 with⟨_,p2,p3⟩|⟨p2,_,_⟩
 case inr=>rw[h2]at p2;cases p2
 rw[h3]at q2;rw[h1]at p2 p3;simp only[KA,St.ev]at q2 p2 p3;rw[EW m sU.1,EW t sU.2]at q2;unfold uX at q2;split at q2
 case h_2=>simp only[ka,dd]at q2
 rename_i id hid;simp only[ka]at q2;obtain⟨ob,k1,q2⟩:=q2;rw[mV id]at k1;split at q2
 case h_2=>simp only[dd]at q2
 rename_i pX vg kn rows;split at q2
 case h_2=>simp only[dd]at q2
 rename_i wT;split at q2
 case h_2=>simp only[dd]at q2
 rename_i kc yg;simp only[dd]at q2;obtain⟨q3,q4,q5⟩:=q2
 have hb:(kg==pX)=true∧((PV.int kk n).isAgg==vg)=true:=by
  revert wT
  cases kg==pX<;>intro wT
  ·cases wT
  ·exact⟨rfl,wT⟩
 have XS:∃fn,uW aF kg sh (.int kk n) false (sj.slot m) (sj.slot t)=.rd id fn∧∀rows,fn (.map pX vg kn rows)=.dG (aF.CZ sh kn rows kc) (uf false (tv aF vg kn rows kc (PV.int kk n).cells) (aF.yU kn rows kc)):=by
  unfold uW;rw[hid];refine⟨_,rfl,fun rows=>?_⟩;simp only[hb.1,hb.2,yg]
 obtain⟨fn,XS,HL⟩:=XS;rw[XS]at p2 p3;simp only[ka,eC,k1,HL]at p2 p3;simp only[qaa,exists_eq_left',HL]at p2;simp only[dd,gj]at p2 p3;refine⟨id,.map pX vg kn (aF.sK kn rows kc (PV.int kk n).cells),by rw[q5],by rw[←LF.2];exact q3,?_,?_,fun st' hb oa hm=>.inl ⟨by rw[h2];rfl,?_,?_⟩⟩
 ·rw[p3];exact qZ rfl
 ·intro k hk;rw[p3]at hk;simp[fp,Gu]at hk;split at hk
  ·rename_i Y7;simpa using Y7
  ·cases hk
 ·rw[h1];simp only[KA,St.ev];rw[←oa m sU.1,←oa t sU.2,XS];simp only[ka,hm,qaa,exists_eq_left',HL];simp only[dd];obtain⟨w1,w2⟩:=ahC (z:=(PV.int kk n).cells) q4;refine⟨w1,?_⟩;rw[p2.2];simp only[uf,tv];have w3:aF.HR kn (aF.sK kn rows kc (PV.int kk n).cells) kc (PV.int kk n).cells=aF.HR kn rows kc (PV.int kk n).cells:=w2;have w4:aF.xJ kn (aF.sK kn rows kc (PV.int kk n).cells) kc (PV.int kk n).cells=aF.xJ kn rows kc (PV.int kk n).cells:=congrArg (·.headD .mh) w2
  rw[w3,w4]
 ·rw[h1];simp only[KA,St.ev];rw[←oa m sU.1,←oa t sU.2,XS];simp only[eC,hm,HL];simp only[gj];exact p3
theorem Bp (bO:lt=iz ops.toList []):∀(j:Nat) o,ops[j]? =some o→∀k∈lt.getD j [],∃e∈o.after,Region.binds .any e=true∧(k=e.on∨k∈lt.getD e.on []):=by
 intro j o hj k hk;have:=(oT ops.toList []).2 j o (by simpa using hj) k (by rw[←bO];simpa using hk);simpa[←bO]using this
theorem rP (bO:lt=iz ops.toList []) {listed:Array Bool} (Dp:∀i,listed.getD i false=true→∀k∈lt.getD i [],listed.getD k false=true) {j:Nat} (hj:j∈Region.ready .any ops listed):∀k∈lt.getD j [],listed.getD k false=true:=by
 obtain⟨h1,o,ho,hed⟩:=qdd.1 hj;intro k hk;obtain⟨ed,hm,hb,QB⟩:=Bp bO j o ho k hk;have:=hed ed hm hb
 rcases QB with rfl|QB
 ·exact this
 ·exact Dp _ this k QB
theorem zi (dY:l.length=ops.size) (bO:lt=iz ops.toList []) (CP:iF l lt=true) (vI:Trace (CC P G) aF l (iA l lt) [] st0 r)
  (inv:Array Bool→Prop) (Hh:Nat→Prop) (lf:∀j o,ops[j]? =some o→Hh j→∃x,l[j]? =some x∧lb P G accs ops o=some x)
  (hinv:∀(listed:Array Bool) j,inv listed→Hh j→inv (listed.setIfInBounds j true))
  (W0:∀(listed:Array Bool),inv listed→listed.size=ops.size→(∀i,i<ops.size→listed.getD i false=true)→∀a' w',ft w0 own0 hvs G S0 (fc r st0) a' w'→Q .normal a' w')
  (L3:∀(fuel:Nat) (listed:Array Bool) (a:Act) (w:World) (j:Nat),inv listed→listed.size=ops.size→listed.toList.count false≤fuel+1→(∀i,listed.getD i false=true→∀k∈lt.getD i [],listed.getD k false=true)→
   j∈Region.ready .any ops listed→¬Hh j→ft w0 own0 hvs G S0 (cM (fun i=>listed.getD i false) 0 (r.map (·.1)) st0) a w→wpOp P ops Q j (wpAny P .any ops Q fuel (listed.setIfInBounds j true)) a w):
  ∀(fuel:Nat) (listed:Array Bool) (a:Act) (w:World),inv listed→listed.size=ops.size→listed.toList.count false≤fuel→(∀i,listed.getD i false=true→∀k∈lt.getD i [],listed.getD k false=true)→
   ft w0 own0 hvs G S0 (cM (fun i=>listed.getD i false) 0 (r.map (·.1)) st0) a w→wpAny P .any ops Q fuel listed a w:=by
 obtain⟨XT,LM⟩:=ql CP;have L4:=oS vI;have mn:r.length=ops.size:=L4.1.trans dY;have hedge:=Bp bO
 have bS:∀(listed:Array Bool) a w,inv listed→listed.size=ops.size→(∀i,i<ops.size→listed.getD i false=true)→ft w0 own0 hvs G S0 (cM (fun i=>listed.getD i false) 0 (r.map (·.1)) st0) a w→Q .normal a w:=by
  intro listed a w TX dH hf hs;refine W0 listed TX dH hf a w ?_;have e1:=dZ r r.length 0 st0;rw[qbh]at e1;rw[e1]
  have e2:cM (fun i=>decide (i<0+r.length)) 0 (r.map (·.1)) st0=cM (fun i=>listed.getD i false) 0 (r.map (·.1)) st0:=
   aaV _ _ _ fun i _ h2=>by
    rw[hf i (by simp at h2;omega),qbT (by simp at h2;omega)]
  rw[e2];exact hs
 have vJ:∀(listed:Array Bool),listed.size=ops.size→Region.ready .any ops listed=[]→∀i,i<ops.size→listed.getD i false=true:=by
  intro listed dH hr i
  induction i using Nat.strongRecOn with
  |ind i ih=>
   intro hi
   cases hli:listed.getD i false with
   |true=>rfl
   |false=>
    exfalso
    have mV:i∈Region.ready .any ops listed:=by
     rw[qdd];refine⟨?_,ops[i],by simp[hi],fun e he hb=>?_⟩
     ·have:i<listed.size:=by omega
      simpa[this]using hli
     ·by_cases LG:e.on<i
      ·exact ih e.on LG (by omega)
      ·exfalso;have:=vF ops.toList [] i ops[i] (by simp[hi]) e he hb;rw[←bO]at this;exact LG (XT i (by omega) e.on (by simpa using this))
    rw[hr]at mV;cases mV
 intro fuel
 induction fuel with
 |zero=>
  intro listed a w TX dH L5 Dp hs
  have hf:∀i,i<ops.size→listed.getD i false=true:=by
   intro i hi
   have gQ:i<listed.size:=by omega
   have:false∉listed.toList:=List.count_eq_zero.1 (Nat.le_zero.1 L5)
   cases hv:listed.getD i false with
   |true=>rfl
   |false=>
    exfalso;apply this;simp[gQ]at hv;rw[←hv];simp
  refine⟨?_,bS listed a w TX dH hf hs⟩;apply List.eq_nil_iff_forall_not_mem.2;intro i hi;obtain⟨h1,o,ho,_⟩:=qdd.1 hi;have gQ:i<ops.size:=(qaK.1 ho).1;have:=hf i gQ
  have hi'':i<listed.size:=by omega
  simp[hi'']at h1 this;rw[h1]at this;cases this
 |succ fuel ih=>
  intro listed a w TX dH L5 Dp hs;refine⟨fun hr=>bS listed a w TX dH (vJ listed dH hr) hs,fun j hj=>?_⟩
  by_cases l5:Hh j
  case neg=>exact L3 fuel listed a w j TX dH L5 Dp hj l5 hs
  obtain⟨h1,o,ho,hed⟩:=qdd.1 hj;have ui:j<ops.size:=(qaK.1 ho).1
  have xe:j<listed.size:=by omega
  have TY:listed.getD j false=false:=by simpa[xe]using h1
  obtain⟨x,hx,WQ⟩:=lf j o (by simpa using ho) l5;obtain⟨e,f,he,L6,hH⟩:=L4.2 j x hx;have WR:=rP bO Dp hj
  have EX:∀(i:Nat) ei,(r.map (·.1))[i]? =some ei→decide (i<0+j)≠listed.getD i false→∃fi,r[i]? =some (ei,fi)∧i≠j∧(∀d,ei.d=some d→d∉x.looks∧x.d≠some d)∧(∀id ob,ei.m=some (id,ob)→fp f id=false∨(mO l j i=true∧j<i))∧
    (∀id ob,ei.m=some (id,ob)→∀ob',e.m≠some (id,ob')):=by
   intro i ei hi MB
   have ec:i<l.length:=by
    have:=(qat.1 hi).1;simp at this;omega
   have ot:i≠j:=by rintro rfl;simp[TY]at MB
   have XU:l[i]? =some l[i]:=qag ec
   rcases qbQ i j with C2|x7
   ·have L7:listed.getD i false=false:=by
     cases hv:listed.getD i false with
     |false=>rfl
     |true=>rw[hv,qbT (by omega)]at MB;exact absurd rfl MB
    have Y8:i∉lt.getD j []:=fun hm=>by rw[WR i hm]at L7;cases L7
    obtain⟨e1,f1,e2,f2,p1,p2,p3,p4,p5,p6,p7,p8⟩:=vH CP vI C2 XU hx Y8;rw[he]at p2;cases p2
    have:ei=e1:=by simp[p1]at hi;exact hi.symm
    subst this;obtain⟨q1,q2⟩:=apart_spec p7
    have oa:∀d,ei.d=some d→d∉x.looks∧x.d≠some d:=fun d hd=>by
     rw[p3]at hd;exact⟨q2 d hd,fun hxd=>(q1 d hxd).2 hd⟩
    rcases p8 with p8|p8
    case inr=>
     have ze:ei.m=none:=by
      obtain⟨e3,f3,r1,r2,_⟩:=L4.2 i _ XU;rw[p1]at r1;cases r1;exact Dn (lA XU hx p8).1 r2
     exact⟨f1,p1,ot,oa,fun id ob hm=>absurd (ze▸hm) (by simp),fun id ob hm=>absurd (ze▸hm) (by simp)⟩
    obtain⟨q3,q4⟩:=tQ p8;refine⟨f1,p1,ot,oa,fun id ob hm=>.inl (q3 id (p5 id ob hm)),fun id ob hm ob' yi=>?_⟩
    ·have k1:=q3 id (p5 id ob hm);rw[ly (p6 id ob' yi)]at k1;cases k1
   ·have GJ:j<i:=by omega
    have L7:listed.getD i false=true:=by
     cases hv:listed.getD i false with
     |true=>rfl
     |false=>rw[hv,qa4 (by omega)]at MB;exact absurd rfl MB
    have Y8:j∉lt.getD i []:=fun hm=>by rw[Dp i L7 j hm]at TY;cases TY
    obtain⟨e1,f1,e2,f2,p1,p2,p3,p4,p5,p6,p7,p8⟩:=vH CP vI GJ hx XU Y8;rw[he]at p1;cases p1
    have:ei=e2:=by simp[p2]at hi;exact hi.symm
    subst this;obtain⟨q1,q2⟩:=apart_spec p7
    have oa:∀d,ei.d=some d→d∉x.looks∧x.d≠some d:=fun d hd=>by
     rw[p4]at hd;exact q1 d hd
    rcases p8 with p8|p8
    case inr=>
     have ze:e.m=none:=Dn (lA hx XU p8).1 L6;exact⟨f2,p2,ot,oa,fun id ob hm=>.inr ⟨p8,GJ⟩,fun id ob hm ob' yi=>by rw[ze]at yi;cases yi⟩
    obtain⟨q3,q4⟩:=tQ p8;refine⟨f2,p2,ot,oa,fun id ob hm=>.inl (q4 id (p6 id ob hm)),fun id ob hm ob' yi=>?_⟩
    ·have k1:=q4 id (p6 id ob hm);rw[ly (p5 id ob' yi)]at k1;cases k1
  have XV:HH (CC P G) aF x (cM (fun i=>listed.getD i false) 0 (r.map (·.1)) st0) e f:=by
   have vK:∀t∈x.looks,(fc (r.take j) st0).slot t=(cM (fun i=>listed.getD i false) 0 (r.map (·.1)) st0).slot t:=by
    intro t ht;rw[dZ r j 0 st0]
    refine qX _ 0 st0 st0 rfl rfl fun i ei hi MB hd=>?_
    simp only[qaA]at MB;obtain⟨fi,k1,k2,k3,k4,k5⟩:=EX i ei hi (by simpa using MB);exact(k3 t hd).1 ht
   by_cases QC:∃i,j<i∧listed.getD i false=true∧mO l j i=true
   ·obtain⟨i,TP,L7,K6⟩:=QC
    have QD:i<l.length:=by
     unfold mO at K6;rw[hx]at K6;simp only at K6;split at K6
     ·rename_i y hy;exact(qat.1 hy).1
     ·cases K6
    obtain⟨ei,fi,Dg,hdi,_⟩:=L4.2 i _ (qag QD);obtain⟨id,o',m1,m2,m3,m4,m5⟩:=IH vI hx (qag QD) TP K6 he Dg;refine m5 _ (jR _ _ _ _).1 vK ?_;refine vG (p:=fun i=>listed.getD i false) (r.map (·.1)) i 0 ei st0 (by simp[Dg]) (by simp only[qaA];exact L7) m1 m2 ?_;intro q eq hiq hq hLq o'' hm'';simp only[qaA]at hLq;obtain⟨fq,k1,k2,k3,k4,k5⟩:=EX q eq hq (by rw[hLq,qa4 (by omega)];decide)
    rcases k4 id o'' hm'' with k4|⟨k4,k6⟩
    ·rw[m3]at k4;cases k4
    ·have hql:q<l.length:=by
      have:=(qat.1 k1).1;omega
     obtain⟨z,hz1,Qz,_⟩:=(lA hx (qag hql) k4).2 i TP hiq;obtain⟨kg,sh,kk,n,m,t,_,_,h3,_⟩:=nF (lA hx (qag QD) K6).1;rw[qag QD]at hz1
     cases hz1
     rw[h3]at Qz
     cases Qz
   ·rw[dZ r j 0 st0]at L6 vK;refine IF ?_ ?_ vK ?_ L6
    ·rw[(jR _ _ _ _).1,(jR _ _ _ _).1]
    ·rw[(mX _ _ _ _).2,(mX _ _ _ _).2]
    ·intro id hid
     refine pL _ 0 st0 st0 rfl rfl fun i ei hi MB ob hm=>?_
     simp only[qaA]at MB;obtain⟨fi,k1,k2,k3,k4,k5⟩:=EX i ei hi (by simpa using MB)
     rcases k4 id ob hm with k4|⟨k4,k6⟩
     ·rw[k4]at hid;cases hid
     ·refine QC ⟨i,k6,?_,k4⟩
      cases hv:listed.getD i false with
      |true=>rfl
      |false=>rw[hv,qa4 (by omega)]at MB;exact absurd rfl MB
  have ow:∀i,i≠j→listed.getD i false=(listed.setIfInBounds j true).getD i false:=fun i hi=>(getD_set_ne false (qbN hi)).symm
  have II:(listed.setIfInBounds j true).getD j false=true:=by simp[xe]
  have ae6:cM (fun i=>(listed.setIfInBounds j true).getD i false) 0 (r.map (·.1)) st0=e.app (cM (fun i=>listed.getD i false) 0 (r.map (·.1)) st0):=by
   refine rO (p:=fun i=>listed.getD i false) (j:=j) TY II ow _ 0 st0 (qcK _) (by simp[he]) ?_;intro i ei hi TP L7;simp only[qaA]at TP L7;obtain⟨fi,k1,k2,k3,k4,k5⟩:=EX i ei hi (by rw[L7,qa4 (by omega)];decide);refine⟨fun d hd HI=>?_,fun id o o' hm yi=>k5 id o' yi o hm⟩;exact(k3 d HI).2 (by rw[←Bm L6];exact hd)
  have QE:∀a' w',ft w0 own0 hvs G S0 (e.app (cM (fun i=>listed.getD i false) 0 (r.map (·.1)) st0)) a' w'→wpAny P .any ops Q fuel (listed.setIfInBounds j true) a' w':=by
   intro a' w' er;refine ih _ a' w' (hinv listed j TX l5) (by simp[dH]) ?_ ?_ (by rw[ae6];exact er)
   ·have hv:listed.toList[j]'(by simpa using xe)=false:=by simpa[xe]using TY
    rw[qdn,List.count_set (by simpa using xe),hv];simp only[qau,qax];have:(true==false)=false:=rfl;simp only[this,qaP,qaW];omega
   ·intro i hi k hk
    by_cases ot:i=j
    ·subst ot;exact qcM (WR k hk)
    ·rw[←ow i ot]at hi;exact qcM (Dp i hi k hk)
  unfold wpOp;simp only[ho];obtain⟨op,c1,c2,c3,c4⟩:=l0 WQ
  rcases XV with⟨g1,g2,g3⟩|⟨g1,g2,g3⟩
  ·rw[oR hs WQ g1];rw[c2,c3]at g2;exact .inl (qcR QE (XP hs c1 g2))
  ·rw[oR hs WQ g1];subst g2;refine QE _ _ ?_;rw[c2];exact yo hs o.dst
theorem IJ (hc:V6 P G accs ops ops.toList=some l) (bO:lt=iz ops.toList []) (CP:iF l lt=true) (vI:Trace (CC P G) aF l (iA l lt) [] st0 r)
  (hQ:∀a' w',ft w0 own0 hvs G S0 (fc r st0) a' w'→Q .normal a' w'):
  ∀(fuel:Nat) (listed:Array Bool) (a:Act) (w:World),listed.size=ops.size→listed.toList.count false≤fuel→(∀i,listed.getD i false=true→∀k∈lt.getD i [],listed.getD k false=true)→
   ft w0 own0 hvs G S0 (cM (fun i=>listed.getD i false) 0 (r.map (·.1)) st0) a w→wpAny P .any ops Q fuel listed a w:=by
 obtain⟨hlen,lf⟩:=mq hc;intro fuel listed a w;exact zi (by simpa using hlen) bO CP vI (fun _=>True) (fun _=>True) (fun j o ho _=>lf j o (by simpa using ho)) (fun _ _ _ _=>trivial) (fun _ _ _ _=>hQ) (fun _ _ _ _ _ _ _ _ _ _ h=>absurd trivial h) fuel listed a w trivial
theorem pM (p:Nat→Bool):∀(k:Nat) (l:List AI),(jg p k l).length=l.length
 |_,[]=>rfl
 |k,x::r=>by simp only[jg,qaq,pM p (k+1) r]
theorem jS (p:Nat→Bool):∀(k:Nat) (l:List AI) (j:Nat),(jg p k l)[j]? =(l[j]?).map fun x=>match p (k+j)with|true=>K1|false=>x
 |_,[],j=>by simp[jg]
 |k,x::r,0=>rfl
 |k,x::r,j+1=>by
  simp only[jg,qcF];rw[jS p (k+1) r j,show k+1+j=k+(j+1) by omega]
theorem yq (x:AI):K1.apart x=true∧x.apart K1=true:=by
 constructor<;>simp[AI.apart,K1,AI.looks,wQ.looks,bR.sl]<;>cases x.d<;>simp
theorem tR {p:Nat→Bool} {l:List AI} {lt:List (List Nat)} (h:iF l lt=true):iF (jg p 0 l) lt=true:=by
 unfold iF at h ⊢;rw[pM];rw[qa1]at h ⊢;intro i hi;have h:=h i hi;rw[qaG]at h ⊢;refine⟨h.1,?_⟩;rw[qa1];intro j hj;have h:=qa1.1 h.2 j hj;rw[qb7]at h ⊢
 refine h.imp id fun h=>?_
 rw[jS,jS]
 cases hx:l[i]? with
 |none=>rw[hx]at h;cases h
 |some x=>
  cases hy:l[j]? with
  |none=>rw[hx,hy]at h;cases h
  |some y=>
   rw[hx,hy]at h;simp only[qaM]
   cases p (0+i)
   ·cases p (0+j)
    ·exact h
    ·exact(yq x).2
   ·exact(yq _).1
theorem vL:∀{l:List AI},xM l=true→∀(i:Nat) (x:AI),l[i]? =some x→∀kg sh z m k,x.op≠.sI kg sh z m k
 |[],_,i,x,hx=>by simp at hx
 |y::r,h,0,x,hx=>by
  simp only[qay,qaa]at hx;subst hx;intro kg sh z m k he;unfold xM at h;rw[he]at h
  cases h
 |y::r,h,i+1,x,hx=>by
  unfold xM at h;split at h
  ·cases h
  ·exact vL h i x (by simpa using hx)
theorem IK {l:List AI} (h:∀(i:Nat) (x:AI),l[i]? =some x→∀kg sh z m k,x.op≠.sI kg sh z m k) (j i:Nat):mO l j i=false:=by
 cases hs:mO l j i with
 |false=>rfl
 |true=>
  exfalso;unfold mO at hs;split at hs
  ·split at hs
   ·rename_i y hy;split at hs
    ·rename_i hp;obtain⟨kg,sh,k,n,m,t,_,_,h3,_⟩:=nF hp;exact h i y hy _ _ _ _ _ h3
    ·cases hs
   ·cases hs
  ·cases hs
theorem HO {l:List AI} {lt:List (List Nat)} (h:∀j i,mO l j i=false):iA l lt=(List.range lt.length).map fun i=>lt.getD i []:=by
 unfold iA
 refine qcv fun i _=>?_
 rw[List.filter_eq_nil_iff.2 (fun j _=>by rw[h];exact Bool.false_ne_true),qbw]
theorem Dq (lt:List (List Nat)) (i:Nat):((List.range lt.length).map fun i=>lt.getD i []).getD i []=lt.getD i []:=by
 by_cases h:i<lt.length
 ·simp[qab,h]
 ·simp[qab,h]
theorem xC {p:Nat→Bool}:∀(es:List Ev) (k:Nat) (st:St),(∀i e,es[i]? =some e→p (k+i)=true→∀s,e.app s=s)→cM p k es st=st
 |[],_,_,_=>rfl
 |e::es,k,st,h=>by
  have h0:(match p k with|true=>e.app st|false=>st)=st:=by
   cases hp:p k with
   |false=>rfl
   |true=>exact h 0 e rfl (by simpa using hp) st
  have h1:∀s,s=st→cM p (k+1) es s=st:=by
   rintro s rfl
   exact xC es (k+1) s fun i e' he hp=>h (i+1) e' (by simpa using he) (by rwa [show k+(i+1)=k+1+i by omega])
  exact h1 _ h0
theorem L8 {C:CT} {A:Ar} {st:St} {e:Ev} {f:eP} (h:HH C A K1 st e f) (s:St):e.app s=s:=by
 rcases h with⟨_,h,_⟩|⟨h,_⟩
 ·simp only[K1,KA,ka,dd]at h;subst h;rfl
 ·simp[K1,guardOf]at h
theorem EY (hc:V6 P G accs ops ops.toList=some l) (bO:lt=iz ops.toList []) (CP:iF l lt=true) {K:St→Prop} (h:HV (CC P G) aF (Hf P G) l (iA l lt) st0 K)
  (hQ:∀st' a' w',ft w0 own0 hvs G S0 st' a' w'→K st'→Q .normal a' w') (listed:Array Bool) (dH:listed.size=ops.size) (ze:∀i,listed.getD i false=false) (a:Act) (w:World)
  (hs:ft w0 own0 hvs G S0 st0 a w):wpAny P .any ops Q ops.size listed a w:=by
 obtain⟨h0,c,x,WQ,hxg,r,vI,hZ⟩:=h;obtain⟨hlen,lf⟩:=mq hc
 have dY:l.length=ops.size:=by simpa using hlen
 have XW:=vL h0
 have Zn:∀(p:Nat→Bool) (i:Nat) (y:AI),(jg p 0 l)[i]? =some y→∀kg sh z m k,y.op≠.sI kg sh z m k:=by
  intro p i y hy kg sh z m k;rw[jS]at hy
  cases hl:l[i]? with
  |none=>rw[hl]at hy;cases hy
  |some z'=>
   rw[hl]at hy;simp only[qaM,qaa]at hy;split at hy
   ·subst hy;simp[K1]
   ·subst hy;exact XW i z' hl kg sh z m k
 have es:iA l lt=(List.range lt.length).map fun i=>lt.getD i []:=HO (IK XW)
 have esN:∀p,iA (jg p 0 l) lt=iA l lt:=fun p=>by rw[es];exact HO (IK (Zn p))
 have gs:∀i,(iA l lt).getD i []=lt.getD i []:=fun i=>by rw[es];exact Dq lt i
 have wU:c<ops.size:=by rw[←dY];exact(qat.1 WQ).1
 refine zi (w0:=w0) (own0:=own0) (hvs:=hvs) (S0:=S0) (accs:=accs) (l:=jg (fun i=>(i==c)||((iA l lt).getD i []).contains c) 0 l) (st0:=st0) (r:=r) (by rw[pM];exact dY) bO (tR CP) (by rw[esN];exact vI)
  (fun li=>li.getD c false=false) (fun j=>((j==c)||((iA l lt).getD j []).contains c)=false) ?_ ?_ ?_ ?_ ops.size listed a w (ze c) dH ?_ (fun i hi=>by rw[ze i]at hi;cases hi) ?_
 ·intro j o ho hg;obtain⟨y,hy,W7⟩:=lf j o (by simpa using ho);refine⟨y,?_,W7⟩;rw[jS,hy];simp only[qaM,qaA,hg]
 ·intro li j hi hg
  have hjc:j≠c:=by
   rintro rfl;simp at hg
  rw[getD_set_ne false hjc];exact hi
 ·intro li hi kQ bS;rw[bS c wU]at hi;cases hi
 ·intro fuel li a' w' j hi kQ L5 Dp hj hb er;have WR:=rP bO Dp hj
  obtain rfl:j=c:=by
   simp only[Bool.not_eq_false,qb7,qbA,qbS]at hb
   rcases hb with hb|hb
   ·exact hb
   ·rw[gs]at hb;rw[WR c hb]at hi;cases hi
  obtain⟨h1,o,ho,hed⟩:=qdd.1 hj;obtain⟨y,hy,W7⟩:=lf j o (by simpa using ho);rw[WQ]at hy;cases hy;obtain⟨op,c1,c2,c3,c4⟩:=l0 W7
  have uk:∀i,li.toList.getD i false=li.getD i false:=fun i=>by simp[qab,qaJ]
  have hz:zok l.length (iA l lt) j li.toList:=by
   refine⟨by simp[kQ,dY],by rw[uk];exact hi,fun k hk=>?_,fun i gQ hl k hk=>?_,fun i gQ hm=>?_⟩
   ·rw[gs]at hk;rw[uk];exact WR k hk
   ·rw[gs]at hk;rw[uk]at hl ⊢;exact Dp i hl k hk
   ·rw[gs]at hm;rw[uk]
    cases hv:li.getD i false with
    |false=>rfl
    |true=>rw[Dp i hv j hm]at hi;cases hi
  have he:=hZ li.toList hz
  have hfe:(fun i=>li.toList.getD i false)=fun i=>li.getD i false:=funext uk
  rw[hfe]at he;unfold wpOp;simp only[ho]
  have hgu:guardOf (cM (fun i=>li.getD i false) 0 (r.map (·.1)) st0) x.g=some true:=by rw[hxg];rfl
  rw[oR er W7 hgu];refine .inl (qcR ?_ (Qw er c2 (by rw[c3];exact c1) he));rintro a2 w2 ⟨EZ,wR,WS⟩;obtain⟨r2,TZ,hK2⟩:=lz WS;have TY:li.getD j false=false:=hi
  have xe:j<li.size:=by omega
  have ow:∀i,i≠j→li.getD i false=(li.setIfInBounds j true).getD i false:=fun i hi=>(getD_set_ne false (qbN hi)).symm
  have II:(li.setIfInBounds j true).getD j false=true:=by simp[xe]
  have hp2:∀i,((i==j)||li.getD i false)=(li.setIfInBounds j true).getD i false:=fun i=>by
   by_cases ot:i=j
   ·subst ot;rw[II];simp
   ·rw[←ow i ot];simp[ot]
  have hfe2:(fun i=>(i==j)||li.toList.getD i false)=fun i=>(li.setIfInBounds j true).getD i false:=funext fun i=>by rw[uk];exact hp2 i
  rw[hfe2]at TZ;have QF:=oS TZ;refine zi (w0:=w0) (own0:=own0) (hvs:=hvs) (S0:=S0) (accs:=accs) (l:=jg (fun i=>(li.setIfInBounds j true).getD i false) 0 l) (st0:=EZ) (r:=r2) (by rw[pM];exact dY) bO (tR CP) (by rw[esN];exact TZ)
   (fun l2=>∀i,(li.setIfInBounds j true).getD i false=true→l2.getD i false=true) (fun i=>(li.setIfInBounds j true).getD i false=false) ?_ ?_ ?_ ?_ fuel _ a2 w2 (fun i hi=>hi) (by simp[kQ]) ?_ ?_ ?_
  ·intro i o' XY hg;obtain⟨y,hy,hcy'⟩:=lf i o' (by simpa using XY);refine⟨y,?_,hcy'⟩;rw[jS,hy];simp only[qaM,qaA,hg]
  ·intro l2 i QG hg k hk;exact qcM (QG k hk)
  ·intro l2 _ _ _ a3 w3 hs3;exact hQ _ _ _ hs3 hK2
  ·intro fuel' l2 a3 w3 i QG hsz2 hcnt2 hdn2 hi3 oA hs3;exfalso;obtain⟨q1,o3,q2,_⟩:=qdd.1 hi3;have ec:i<ops.size:=(qaK.1 q2).1
   have QD:i<l2.size:=by omega
   have q3:l2.getD i false=false:=by simpa[QD]using q1
   have q4:(li.setIfInBounds j true).getD i false=true:=by simpa using oA
   rw[QG i q4]at q3;cases q3
  ·have hv:li.toList[j]'(by simpa using xe)=false:=by simpa[xe]using TY
   rw[qdn,List.count_set (by simpa using xe),hv];simp only[qau,qax];have:(true==false)=false:=rfl;simp only[this,qaP,qaW];omega
  ·intro i QG k hk
   by_cases ot:i=j
   ·subst ot;exact qcM (WR k hk)
   ·rw[←ow i ot]at QG;exact qcM (Dp i QG k hk)
  ·rw[xC (p:=fun i=>(li.setIfInBounds j true).getD i false) (r2.map (·.1)) 0 EZ]
   ·exact wR
   ·intro i e Ix hp s;simp only[qaA]at hp
    have ec:i<(jg (fun i=>(li.setIfInBounds j true).getD i false) 0 l).length:=by
     have h1:=(qat.1 Ix).1;rw[qap,QF.1]at h1;exact h1
    obtain⟨e',f',k1,k2,_⟩:=QF.2 i _ (qag ec)
    have hee:e=e':=by
     rw[qbO,k1]at Ix;simpa using Ix.symm
    subst hee
    have hnop:(jg (fun i=>(li.setIfInBounds j true).getD i false) 0 l)[i]=K1:=by
     have h2:=jS (fun i=>(li.setIfInBounds j true).getD i false) 0 l i;rw[qag ec]at h2
     cases hl:l[i]? with
     |none=>rw[hl]at h2;cases h2
     |some z=>
      rw[hl]at h2;simp only[qaM,qaA,hp,qaa]at h2;exact h2
    rw[hnop]at k2;exact L8 k2 s
 ·have h1:=List.count_le_length (a:=false) (l:=listed.toList)
  have h2:listed.toList.length=ops.size:=by simpa using dH
  omega
 ·rw[aaV (q:=fun _=>false) _ _ _ fun i _ _=>ze i];rw[xC (p:=fun _=>false) _ _ _ fun i e _ hp=>by cases hp];exact hs
end
end Go.Am
end
section
namespace Go.Am
def uC (P:Program) (c:Code) (Q:Exit→Act→World→Prop) (a:Act) (w:World):Prop:=
 ∀(b:Frame) (k:List Go.Item) (cs:List Frame),∃e a' w',Q e a' w'∧Arrives P (lone (b.at a (.code c::.inLoop c::k)) cs w) b k cs e a' w'
theorem Dr {P:Program} {c:Code} {Q:Exit→Act→World→Prop} {a:Act} {w:World} (h:uC P c Q a w):(Code.loop c).wp P Q a w:=by
 intro b k cs;obtain⟨e,a',w',hq,sx⟩:=h b k cs;exact⟨e,a',w',hq,.of_steps (.one step_loop) sx⟩
theorem xi {P:Program} {c:Code} {Q:Exit→Act→World→Prop} {a:Act} {w:World} (h:c.wp P (Exit.then (uC P c Q) Q) a w):uC P c Q a w:=by
 intro b k cs;obtain⟨e,a₁,w₁,hq,sx⟩:=h b (.inLoop c::k) cs
 cases e with
 |normal=>
  obtain⟨e₂,a₂,w₂,hq₂,sx₂⟩:=hq b k cs;exact⟨e₂,a₂,w₂,hq₂,.of_steps (Steps.trans sx (.one step_inLoop)) sx₂⟩
 |exit id=>exact⟨_,a₁,w₁,hq,.pass (x:=.inLoop c) rfl (fun _ _=>.inl (by simp)) sx⟩
 |goto l=>exact⟨_,a₁,w₁,hq,.pass (x:=.inLoop c) rfl (fun _ _=>.inl (by simp)) sx⟩
 |ret=>exact⟨_,a₁,w₁,hq,.pass (x:=.inLoop c) rfl (fun _ _=>.inl (by simp)) sx⟩
 |panic ch=>exact⟨_,a₁,w₁,hq,.pass (x:=.inLoop c) rfl (fun _ _=>.inl (by simp)) sx⟩
 |outgrown=>exact⟨_,a₁,w₁,hq,.pass (x:=.inLoop c) rfl (fun _ _=>.inl (by simp)) sx⟩
def Ex.conv:Ex→Exit
 |.normal=>.normal
 |.ret=>.ret
 |.exit id=>.exit id
section
variable {P:Program} {w0:World} {own0:Nat→Prop} {hvs:List Value×List Deferred} {G:Nat→Option (List PV)} {S0:Nat→Prop} {accs:List Nat}
theorem nG {st:St} {a:Act} {w w':World} (h:ft w0 own0 hvs G S0 st a w) (hh:w'.heap=w.heap) (ho:w'.os=w.os) (ht:w'.tape=w.tape) (om:w'.output=w.output):ft w0 own0 hvs G S0 st a w':=by
 obtain⟨γ,S,bg,Cy,h⟩:=h;exact⟨γ,S,bg,Cy,(dW.grow h (w':=w') (S':=S) (fun b _=>by rw[hh]) (by rw[hh];exact qak _) ho ht om (fun _ hb=>hb) (fun _ hb=>.inl hb)).1⟩
theorem nH (hm:P.follows .mixedOrders=true):∀(c:Code) {ac:cf} {st:St} {a:Act} {w:World} {Qa:Ex→St→Prop} {Q:Exit→Act→World→Prop},bD P G accs c=some ac→ft w0 own0 hvs G S0 st a w→fw (CC P G) aF (Hf P G) ac st Qa→
  (∀e st' a' w',ft w0 own0 hvs G S0 st' a' w'→Qa e st'→Q e.conv a' w')→c.wp P Q a w:=by
 intro c
 induction c with
 |skip=>intro ac st a w Qa Q hc hs h hq;simp only[bD,qaa]at hc;subst hc;exact wp_skip (hq .normal _ _ _ hs h)
 |refuse s=>intro ac st a w Qa Q hc hs h hq;simp only[bD,qaa]at hc;subst hc;simp[fw,bP,gO,nr,ml,KA,St.ev]at h
 |exit id=>intro ac st a w Qa Q hc hs h hq;simp only[bD,qaa]at hc;subst hc;exact wp_exit (hq (.exit id) _ _ _ hs h)
 |ret=>intro ac st a w Qa Q hc hs h hq;simp only[bD,qaa]at hc;subst hc;exact wp_ret (hq .ret _ _ _ hs h)
 |region id ops draw=>
  intro ac st a w Qa Q hc hs h hq
  cases draw with
  |false=>
   simp only[bD]at hc;obtain⟨l,hl,rfl⟩:=qah.1 hc;exact wp_region_list (zf hl hs h fun st' a' w' er hk=>hq .normal st' a' w' er hk)
  |true=>
   simp only[bD]at hc;split at hc
   ·rename_i l hl;split at hc
    ·rename_i CP;simp only[qaa]at hc;subst hc;obtain⟨s0,hf,h⟩:=h;have hs:=mo hf hs
     rcases h with h|h
     ·obtain⟨r,hr,hk⟩:=lz h;refine wp_region_any hm (IJ (st0:=s0) hl rfl CP hr (fun a' w' er=>hq .normal _ a' w' er hk) ops.size _ _ _ (by simp) ?_ ?_ ?_)
      ·simp
      ·intro i hi;simp[qbM]at hi;split at hi<;>simp at hi
      ·have:cM (fun i=>(Array.replicate ops.size false).getD i false) 0 (r.map (·.1)) s0=s0:=by
        have h0:=dZ r 0 0 s0;simp only[qbo,fc]at h0;refine Eq.trans (aaV _ _ _ fun i _ _=>?_) h0.symm;simp[qbM];split<;>rfl
       rw[this];exact nG hs rfl rfl rfl rfl
     ·refine wp_region_any hm (EY hl rfl CP h (fun st' a' w' er hk=>hq .normal st' a' w' er hk) _ (by simp) ?_ _ _ (nG hs rfl rfl rfl rfl));intro i;simp[qbM];split<;>simp
    ·cases hc
   ·cases hc
 |seq x y T0 IL=>
  intro ac st a w Qa Q hc hs h hq;simp only[bD]at hc;split at hc
  ·rename_i ax hx;split at hc
   ·rename_i ay hy;simp only[qaa]at hc;subst hc;refine wp_seq (T0 hx hs h ?_);intro e st' a' w' er hk
    cases e with
    |normal=>exact IL hy er hk hq
    |ret=>exact hq .ret _ _ _ er hk
    |exit id=>exact hq (.exit id) _ _ _ er hk
   ·cases hc
  ·cases hc
 |cond c x y T0 IL=>
  intro ac st a w Qa Q hc hs h hq;simp only[bD]at hc;split at hc
  ·rename_i c' E0;split at hc
   ·rename_i ax hx;split at hc
    ·rename_i ay hy;simp only[qaa]at hc;subst hc;simp only[fw]at h;obtain⟨γ,S,bg,Cy,hS⟩:=hs;have he:=hS.fR E0;have hs:ft w0 own0 hvs G S0 st a w:=⟨γ,S,bg,Cy,hS⟩;split at h
     ·rename_i t ht;rw[ht]at he;simp only[lF,aD]at he;refine wp_cond he ?_
      cases t with
      |true=>exact T0 hx hs h hq
      |false=>exact IL hy hs h hq
     ·exact h.elim
    ·cases hc
   ·cases hc
  ·cases hc
 |block id b ih=>
  intro ac st a w Qa Q hc hs h hq;simp only[bD]at hc;obtain⟨ab,hb,rfl⟩:=qah.1 hc;refine wp_block (ih hb hs h ?_);intro e st' a' w' er hk
  cases e with
  |normal=>exact hq .normal _ _ _ er hk
  |ret=>exact hq .ret _ _ _ er hk
  |exit j=>
   simp only at hk;simp only[Ex.conv,Exit.inBlock]
   by_cases hj:j=id
   ·subst hj;simp only[qau]at hk;simp only[qax];exact hq .normal _ _ _ er hk
   ·rw[qai hj];rw[qar.2 hj]at hk;exact hq (.exit j) _ _ _ er hk
 |loop b ih=>
  intro ac st a w Qa Q hc hs h hq;simp only[bD]at hc;obtain⟨ab,hb,rfl⟩:=qah.1 hc;refine Dr (h (fun s=>∀a w,ft w0 own0 hvs G S0 s a w→uC P b Q a w) ?_ a w hs);intro s s0 hf bg a' w' jq;refine xi (ih hb (mo hf jq) bg ?_);intro e st' a'' tA er hk
  cases e with
  |normal=>exact hk a'' tA er
  |ret=>exact hq .ret _ _ _ er hk
  |exit j=>exact hq (.exit j) _ _ _ er hk
 |_=>intro ac st a w Qa Q hc;simp[bD]at hc
end
end Go.Am
end
