import Derived.Test.YtfaccbkibjkfjaaGreatDoorT05
set_option linter.all false
set_option maxRecDepth 100000
set_option maxHeartbeats 1000000
section
namespace Go.Am
theorem fM.mono {P:Program} {f:FuncId} {args:Array Value} {w:World} {R R':Value→World→Prop} (hR:∀v w,R v w→R' v w) (h:fM P f args w R):fM P f args w R':=by
 unfold fM at*
 split at h<;>first
  |exact h.mono fun e DV ⟨v,he,hq⟩=>⟨v,he,hR v DV hq⟩
  |exact hR _ _ h
  |exact h.mono fun v DV hq=>hR v DV hq
  |exact h.elim
def bB (P:Program) (G:Nat→Option (List PV)):IC:=fun f args st K=>
 ∀(w0:World) (own0:Nat→Prop) (hvs:List Value) (S0:Nat→Prop) (γ:Nat→Option Nat) (S:Nat→Prop) (a:Act) (w:World) (vs:List Value),(∀b,S0 b→S b)→(∀b,S b→S0 b∨w0.heap.size≤b∨own0 b)→
  dj w0 own0 hvs G γ S st a w→aF S w (Ref γ S w st.mem) args vs→
  fM P f vs.toArray w fun v w'=>∃r st' γ' S',K r st'∧(∀b,S0 b→S' b)∧(∀b,S' b→S0 b∨w0.heap.size≤b∨own0 b)∧dj w0 own0 hvs G γ' S' st' a w'∧aq S' w' (Ref γ' S' w' st'.mem) r v
theorem bB.mono (P:Program) (G:Nat→Option (List PV)):HU (bB P G):=by
 intro f args st K K' hK h w0 own0 hvs S0 γ S a w vs h1 h2 h3 h4;refine fM.mono (fun v w' hq=>?_) (h w0 own0 hvs S0 γ S a w vs h1 h2 h3 h4);obtain⟨r,st',γ',S',k1,k2⟩:=hq;exact⟨r,st',γ',S',hK _ _ k1,k2⟩
theorem na {st:St} {id:Nat} {o:Obj} (h:id<st.mem.length):st.aC id o=st.wF (some (id,o)):=by
 simp only[St.aC,rY,St.wF,Nat.ble_eq_true_of_le h]
theorem CH {mem:List (Option Obj)} {d:Nat} {o:Obj} (hd:d<mem.length) (i:Nat):
  aA (mem.set d (some o)) i=if i=d then some o else aA mem i:=by
 have:=aE (mem:=mem) (o:=o) (Nat.le_of_lt hd) i;simpa only[rY,Nat.ble_eq_true_of_le hd]using this
section
variable (C:FuncId→List PV→PV→Prop) (A:Ar)
theorem zL {k:Nat} {x:AI} {st:St} {K:St→Prop} {o:Out} (h:ox C none k x st K o):∃e,de C x.d k st o e∧K (e.app st):=by
 cases o with
 |bad=>exact h.elim
 |val v=>exact⟨_,rfl,h⟩
 |dH p v=>exact⟨_,⟨h.1,rfl⟩,h.2⟩
 |dw id o v=>
  obtain⟨h1,h2⟩:=h;exact⟨_,⟨h1,rfl⟩,by rw[na h1]at h2;exact h2⟩
 |iL p id o v=>
  obtain⟨h1,h0,h2⟩:=h;exact⟨_,⟨h1,h0,rfl⟩,by rw[na h1]at h2;exact h2⟩
 |new o v=>
  obtain⟨h1,h2,h3⟩:=h;exact⟨⟨x.d,v,some (k,o)⟩,⟨h1,h2,rfl⟩,by rw[na h2]at h3;exact h3⟩
 |km p o v=>
  obtain⟨h1,h2,h0,h3⟩:=h;exact⟨⟨x.d,v,some (k,o)⟩,⟨h1,h2,h0,rfl⟩,by rw[na h2]at h3;exact h3⟩
 |call f args=>
  rcases h with h|h
  ·obtain⟨ps,b,res,h1,h2,h3,h4⟩:=h;exact⟨⟨x.d,.pv res,none⟩,⟨ps,b,res,h1,h2,h3,rfl⟩,h4⟩
  ·exact h.elim
 |all p id o v=>exact h.elim
theorem JX {k:Nat} {x:AI} {st:St} {K:St→Prop} (h:ia C A none k x st K):∃e,kV C x.d k st (b6 A k x.op st.ev) e∧K (e.app st):=by
 unfold ia at h
 cases he:b6 A k x.op st.ev with
 |pure o=>rw[he]at h;exact zL C h
 |rd id f=>
  rw[he]at h;simp only[pP]at h;split at h
  ·rename_i ob bH;obtain⟨e,h1,h2⟩:=zL C h;exact⟨e,⟨ob,bH,h1⟩,h2⟩
  ·exact h.elim
end
section
variable {P:Program} {w0:World} {own0:Nat→Prop} {hvs:List Value} {G:Nat→Option (List PV)} {S0:Nat→Prop} {accs:List Nat} {Q:Exit→Act→World→Prop}
 {st:St} {a:Act} {w:World} {o:Oper} {kn:Nat}
theorem oG {st':St} {v:AV} (hd:pq P w0 own0 hvs G S0 o a w st' v):o.wp P a w (fun a' w'=>ie w0 own0 hvs G S0 (st'.put o.dst v) a' w') Q:=by
 obtain⟨u,w',γ',S',bJ,h1,h2,h3,h4⟩:=hd;unfold Oper.wp
 rcases bJ with bJ|⟨bJ,rfl⟩
 ·rw[bJ];exact⟨γ',S',h1,h2,h3.put _ h4⟩
 ·rw[bJ];exact⟨γ',S',h1,h2,h3.put _ h4⟩
theorem AU {f:FuncId} {vs:List Value} {R:Value→World→Prop} {N:Act→World→Prop} (bJ:(execOp a.eval o).run P w=(callFunc f vs.toArray).run P w) (h:fM P f vs.toArray w R)
  (hR:∀v w',R v w'→N (a.put o.dst v) w'):o.wp P a w N Q:=by
 unfold Oper.wp;rw[bJ];unfold fM at h;split at h
 ·rename_i f' Cw w' hf;rw[hf];refine Calls.mono h ?_;rintro e' DV ⟨v,rfl,hq⟩;exact hR _ _ hq
 ·rename_i v w' hf;rw[hf];exact hR _ _ h
 ·rename_i row Cw w' hf;rw[hf];refine Rows.mono h ?_;rintro v DV hq;exact hR _ _ hq
 ·exact h.elim
theorem JY {γ:Nat→Option Nat} {S:Nat→Prop} (h:dj w0 own0 hvs G γ S st a w) (bm:∀b,S0 b→S b) (bd:∀b,S b→S0 b∨w0.heap.size≤b∨own0 b)
  {out:Out} {e:Ev} (e6:ek P w0 own0 hvs G S0 o a w st kn γ S out) (he:de (ar P G) o.dst kn st out e):o.wp P a w (fun a' w'=>ie w0 own0 hvs G S0 (e.app st) a' w') Q:=by
 cases out with
 |bad=>exact he.elim
 |val v=>simp only[de]at he;subst he;exact oG e6
 |dH p v=>simp only[de]at he;obtain⟨hp,rfl⟩:=he;exact oG (e6 hp)
 |dw id ob v=>simp only[de]at he;obtain⟨hp,rfl⟩:=he;have:=oG (Q:=Q) e6;rw[na hp]at this;exact this
 |iL p id ob v=>simp only[de]at he;obtain⟨hl,hp,rfl⟩:=he;have:=oG (Q:=Q) (e6 hp);rw[na hl]at this;exact this
 |new ob v=>simp only[de]at he;obtain⟨h2,h3,rfl⟩:=he;have:=oG (Q:=Q) (e6 h2 (Nat.le_of_lt h3));rw[na h3]at this;exact this
 |km p ob v=>simp only[de]at he;obtain⟨h2,h3,hp,rfl⟩:=he;have:=oG (Q:=Q) (e6 h2 (Nat.le_of_lt h3) hp);rw[na h3]at this;exact this
 |call f args=>
  simp only[de]at he;obtain⟨ps,b,res,h1,h2,h3,rfl⟩:=he;obtain⟨vs,bJ,jV⟩:=e6
  refine AU bJ (zz h bm bd h1 jV h2 h3) fun v w' hq=>?_
  obtain⟨S',k1,k2,k3,k4⟩:=hq;exact⟨γ,S',k1,k2,k3.put _ k4⟩
 |all p id ob v=>exact he.elim
theorem Yv (h:ie w0 own0 hvs G S0 st a w) {op:yB} (hc:uk P G accs o=some op) {e:Ev} (he:kV (ar P G) o.dst kn st (b6 aG kn op st.ev) e):
  o.wp P a w (fun a' w'=>ie w0 own0 hvs G S0 (e.app st) a' w') Q:=by
 obtain⟨γ,S,bm,bd,h⟩:=h;have e6:=zH (kn:=kn) h bm bd hc
 cases hE:b6 aG kn op st.ev with
 |pure out=>rw[hE]at e6 he;exact JY h bm bd e6 he
 |rd id k=>
  rw[hE]at e6 he;obtain⟨ob,h1,h2⟩:=he;exact JY h bm bd (e6 ob h1) h2
theorem Ge {γ:Nat→Option Nat} {S:Nat→Prop} (h:dj w0 own0 hvs G γ S st a w) (bm:∀b,S0 b→S b) (bd:∀b,S b→S0 b∨w0.heap.size≤b∨own0 b) {x:AI} (hx:x.d=o.dst) {K:St→Prop}
  {out:Out} (e6:ek P w0 own0 hvs G S0 o a w st kn γ S out) (he:ox (ar P G) (some (bB P G)) kn x st K out):o.wp P a w (fun a' w'=>∃st',ie w0 own0 hvs G S0 st' a' w'∧K st') Q:=by
 have fin:∀{st':St} {v:AV},pq P w0 own0 hvs G S0 o a w st' v→K (st'.put x.d v)→o.wp P a w (fun a' w'=>∃st',ie w0 own0 hvs G S0 st' a' w'∧K st') Q:=fun hd hk=>
  Oper.wp_mono (fun a' w' hs=>⟨_,hs,by rw[←hx];exact hk⟩) (oG hd)
 cases out with
 |bad=>exact he.elim
 |val v=>exact fin e6 he
 |dH p v=>exact fin (e6 he.1) he.2
 |dw id ob v=>exact fin e6 he.2
 |iL p id ob v=>exact fin (e6 he.2.1) he.2.2
 |new ob v=>exact fin (e6 he.1 he.2.1) he.2.2
 |km p ob v=>exact fin (e6 he.1 he.2.1 he.2.2.1) he.2.2.2
 |call f args=>
  obtain⟨vs,bJ,jV⟩:=e6
  rcases he with he|he
  ·obtain⟨ps,b,res,h1,h2,h3,h4⟩:=he
   refine AU bJ (zz h bm bd h1 jV h2 h3) fun v w' hq=>?_
   obtain⟨S',k1,k2,k3,k4⟩:=hq;exact⟨_,⟨γ,S',k1,k2,k3.put _ k4⟩,by rw[←hx];exact h4⟩
  ·refine AU bJ (he w0 own0 hvs S0 γ S a w vs bm bd h jV) fun v w' hq=>?_
   obtain⟨r,st',γ',S',k0,k1,k2,k3,k4⟩:=hq;exact⟨_,⟨γ',S',k1,k2,k3.put _ k4⟩,by rw[←hx];exact k0⟩
 |all p id ob v=>
  obtain⟨i,hp,hd⟩:=e6;exact fin hd (he i hp)
theorem Rw (h:ie w0 own0 hvs G S0 st a w) {x:AI} (hx:x.d=o.dst) (hc:uk P G accs o=some x.op) {K:St→Prop} (he:ia (ar P G) aG (some (bB P G)) kn x st K):
  o.wp P a w (fun a' w'=>∃st',ie w0 own0 hvs G S0 st' a' w'∧K st') Q:=by
 obtain⟨γ,S,bm,bd,h⟩:=h;have e6:=zH (kn:=kn) h bm bd hc;unfold ia at he
 cases hE:b6 aG kn x.op st.ev with
 |pure out=>rw[hE]at e6 he;exact Ge h bm bd hx e6 he
 |rd id k=>
  rw[hE]at e6 he;simp only[pP]at he;split at he
  ·rename_i ob bH;exact Ge h bm bd hx (e6 ob bH) he
  ·exact he.elim
theorem nb {ops:Array Oper} {x:AI} (h:nP P G accs ops o=some x):
  ∃op,uk P G accs o=some op∧x.d=o.dst∧x.op=op∧((o.guard=none∧x.g=none)∨∃j want s,o.guard=some (j,want)∧(ops[j]?).bind (·.dst)=some s∧x.g=some (s,want)):=by
 unfold nP at h;split at h
 ·cases h
 ·rename_i op Rs;split at h
  ·rename_i hg;simp only[Option.some.injEq]at h;subst h;exact⟨op,Rs,rfl,rfl,.inl ⟨hg,rfl⟩⟩
  ·rename_i j want hg;split at h
   ·rename_i s hs;simp only[Option.some.injEq]at h;subst h;exact⟨op,Rs,rfl,rfl,.inr ⟨j,want,s,hg,hs,rfl⟩⟩
   ·cases h
theorem qa {ops:Array Oper} {x:AI} (h:ie w0 own0 hvs G S0 st a w) (hc:nP P G accs ops o=some x) {b:Bool} (hg:guardOf st x.g=some b):
  Region.wanted o (yielded ops a.tmps)=b:=by
 obtain⟨γ,S,bm,bd,h⟩:=h;obtain⟨op,h1,h2,h3,h4⟩:=nb hc
 rcases h4 with⟨h4,h5⟩|⟨j,want,s,h4,h5,h6⟩
 ·rw[h5]at hg;simp only[guardOf,Option.some.injEq]at hg;simp[Region.wanted,h4,←hg]
 ·rw[h6]at hg;simp only[guardOf]at hg;split at hg
  ·rename_i c hs;simp only[Option.some.injEq]at hg;have:=h.slot s;rw[hs]at this;simp only[aq,aJ]at this
   have bL:s<a.tmps.size:=by
    rw[←h.size]
    by_cases bL:s<st.cY.length
    ·exact bL
    ·simp[St.slot,List.getD_eq_getElem?_getD,List.getElem?_eq_none (Nat.le_of_not_lt bL)]at hs
   have e1:a.tmps[s]? =some (.bool c):=by
    rw[Array.getElem?_eq_getElem bL];simp only[Array.getD_eq_getD_getElem?,Array.getElem?_eq_getElem bL,Option.getD_some]at this;rw[this]
   simp only[Region.wanted,h4,yielded,h5,Option.bind_some,e1,←hg]
   cases c<;>cases want<;>rfl
  ·rename_i l hs;simp only[Option.some.injEq]at hg;have:=h.slot s;rw[hs]at this;simp only[aq,aJ]at this;obtain⟨vs,hv,_⟩:=this
   have e1:yielded ops a.tmps j=none:=by
    simp only[yielded,h5,Option.bind_some]
    by_cases bL:s<a.tmps.size
    ·simp only[Array.getD_eq_getD_getElem?,Array.getElem?_eq_getElem bL,Option.getD_some]at hv;rw[Array.getElem?_eq_getElem bL,hv]
    ·rw[Array.getElem?_eq_none (Nat.le_of_not_lt bL)]
   simp only[Region.wanted,h4,e1,←hg];rfl
  ·cases hg
theorem XA (h:ie w0 own0 hvs G S0 st a w) (d:Option Nat) (u:Value):ie w0 own0 hvs G S0 (st.put d .dead) (a.put d u) w:=by
 obtain⟨γ,S,bm,bd,h⟩:=h;exact⟨γ,S,bm,bd,h.put d (by simp only[aq])⟩
theorem zM (h:ie w0 own0 hvs G S0 st a w) (d:Option Nat):ie w0 own0 hvs G S0 (st.put d uZ) (a.put d undef) w:=by
 obtain⟨γ,S,bm,bd,h⟩:=h;exact⟨γ,S,bm,bd,h.put d (by simp only[uZ,aq,aJ];exact⟨[],rfl,by simp only[a7]⟩)⟩
theorem Ez {ops:Array Oper}:∀{os:List Oper} {l:List AI} {st:St} {a:Act} {w:World} {K:St→Prop},fY P G accs ops os=some l→ie w0 own0 hvs G S0 st a w→bC (ar P G) aG (bB P G) l st K→
  (∀st' a' w',ie w0 own0 hvs G S0 st' a' w'→K st'→Q .normal a' w')→wpList P ops Q os a w
 |[],l,st,a,w,K,hc,h,hk,hK=>by
  simp only[fY,Option.some.injEq]at hc;subst hc;exact hK _ _ _ h hk
 |o::os,l,st,a,w,K,hc,h,hk,hK=>by
  simp only[fY]at hc;split at hc
  ·rename_i x hx;split at hc
   ·rename_i xs hxs;simp only[Option.some.injEq]at hc;subst hc;obtain⟨op,h1,h2,h3,h4⟩:=nb hx;simp only[bC]at hk;obtain⟨s0,hf,hk⟩:=hk;have h:=AR hf h
    have go:ia (ar P G) aG (some (bB P G)) (s0.fresh x) x s0 (fun st'=>bC (ar P G) aG (bB P G) xs st' K)→o.wp P a w (wpList P ops Q os) Q:=by
     intro hk;exact Oper.wp_mono (fun a' w' ⟨st',hs,eZ⟩=>Ez hxs hs eZ hK) (Rw h h2 (by rw[h3];exact h1) hk)
    have skip:bC (ar P G) aG (bB P G) xs (s0.put x.d uZ) K→wpList P ops Q os (a.put o.dst undef) w:=fun hk=>Ez hxs (by rw[h2]at hk ⊢;exact zM h o.dst) hk hK
    have uv:guardOf s0 x.g=none∨(guardOf s0 x.g=some true∧ia (ar P G) aG (some (bB P G)) (s0.fresh x) x s0 (fun st'=>bC (ar P G) aG (bB P G) xs st' K))∨(guardOf s0 x.g=some false∧bC (ar P G) aG (bB P G) xs (s0.put x.d uZ) K):=by
     simp only[guardOf];split at hk
     ·rename_i hg;(try rw[hg]);exact .inr (.inl ⟨rfl,hk⟩)
     ·rename_i j want hg
      (try rw[hg])
      (try simp only)
      split at hk
      ·rename_i b hb
       (try rw[hb])
       cases b<;>cases want<;>first|exact .inr (.inl ⟨rfl,hk⟩)|exact .inr (.inr ⟨rfl,hk⟩)
      ·rename_i l hb
       (try rw[hb])
       exact .inr (.inr ⟨rfl,hk⟩)
      ·exact hk.elim
    rcases uv with uv|⟨uv,hk⟩|⟨uv,hk⟩
    ·exfalso;simp only[guardOf]at uv;split at hk
     ·rename_i hg;rw[hg]at uv;cases uv
     ·rename_i j want hg;rw[hg]at uv;split at hk
      ·rename_i b hb;simp only[hb]at uv;cases uv
      ·rename_i b hb;simp only[hb]at uv;cases uv
      ·exact hk
    ·unfold wpList;rw[qa h hx uv];exact .inl (go hk)
    ·unfold wpList;rw[qa h hx uv];exact skip hk
   ·cases hc
  ·cases hc
end
end Go.Am
end
section
namespace Go.Am
theorem fN {st st':St} {x:bN} (h:∀t∈x.sl,st.slot t=st'.slot t):st.ev x=st'.ev x:=by
 cases x with
 |t i=>exact h i (by simp[bN.sl])
 |k p=>unfold St.ev;split<;>rename_i heq<;>first|(cases heq;done)|(cases heq;rfl)|rfl
 |g row=>rfl
theorem s9 {st st':St}:∀{l:List bN},(∀t∈bN.ud l,st.slot t=st'.slot t)→l.map st.ev=l.map st'.ev
 |[],_=>rfl
 |x::r,h=>by
  simp only[List.map_cons];rw[fN fun t ht=>h t (by simp[bN.ud,ht]),s9 fun t ht=>h t (by simp[bN.ud,ht])]
theorem xd {st st':St} {sz:Nat}:∀{l:List bN},(∀t∈bN.ud l,st.slot t=st'.slot t)→fA sz st.ev l=fA sz st'.ev l
 |[],_=>rfl
 |x::r,h=>by
  simp only[fA];rw[fN fun t ht=>h t (by simp[bN.ud,ht]),xd fun t ht=>h t (by simp[bN.ud,ht])]
theorem ux {st st':St} {sz:Nat}:∀{l:List bN},(∀t∈bN.ud l,st.slot t=st'.slot t)→fB sz st.ev l=fB sz st'.ev l
 |[],_=>rfl
 |x::r,h=>by
  simp only[fB];rw[fN fun t ht=>h t (by simp[bN.ud,ht]),ux fun t ht=>h t (by simp[bN.ud,ht])]
theorem JZ {st st':St}:∀{l:List bN},(∀t∈bN.ud l,st.slot t=st'.slot t)→wB st.ev l=wB st'.ev l
 |[],_=>rfl
 |x::r,h=>by
  unfold wB;rw[fN (x:=x) fun t ht=>h t (by simp[bN.ud,ht]),JZ (l:=r) fun t ht=>h t (by simp[bN.ud,ht])]
theorem H6 {st st':St} {sz:Nat} {l:List bN} (h:∀t∈bN.ud l,st.slot t=st'.slot t):rX sz st.ev l=rX sz st'.ev l:=by
 unfold rX;rw[JZ h,xd h]
theorem CI {st st':St}:∀{l:List (Nat×Nat×bN)} {cs:List AV},(∀t∈bN.X1 l,st.slot t=st'.slot t)→jQ st.ev l cs=jQ st'.ev l cs
 |[],_,_=>rfl
 |(off,n,x)::r,cs,h=>by
  simp only[jQ];rw[fN fun t ht=>h t (by simp[bN.X1,ht])];simp only[CI (st:=st) (st':=st') (l:=r) fun t ht=>h t (by simp[bN.X1,ht])]
theorem AX {st st':St} {x:Option bN} (h:∀t∈bN.slo x,st.slot t=st'.slot t):da st.ev x=da st'.ev x:=by
 cases x with
 |none=>rfl
 |some x=>simp only[da];rw[fN h]
theorem H7 {A:Ar} {d:Nat} {op:yB} {st st':St} (h:∀t∈op.looks,st.slot t=st'.slot t):b6 A d op st.ev=b6 A d op st'.ev:=by
 cases op<;>simp only[yB.looks,List.mem_append]at h<;>simp only[b6]
 case pick c a b=>rw[fN fun t ht=>h t (.inl ht),fN (x:=a) fun t ht=>h t (.inr (.inl ht)),fN (x:=b) fun t ht=>h t (.inr (.inr ht))]
 case mk z ps=>rw[CI h]
 case TK sz ps=>rw[H6 h,ux h]
 case TR sz ps=>rw[ux h]
 case D7 f ps=>rw[s9 h]
 case Rj kg sh n m k v=>rw[fN fun t ht=>h t (.inl ht),fN (x:=k) fun t ht=>h t (.inr (.inl ht)),fN (x:=v) fun t ht=>h t (.inr (.inr ht))]
 case Cc n m k v=>rw[fN fun t ht=>h t (.inl ht),fN (x:=k) fun t ht=>h t (.inr (.inl ht)),fN (x:=v) fun t ht=>h t (.inr (.inr ht))]
 case dB sz ps=>rw[xd h]
 case TL f ps=>rw[s9 h]
 case call f ps=>rw[s9 h]
 case Mr sz x lo hi=>rw[fN fun t ht=>h t (.inl ht),AX (x:=lo) fun t ht=>h t (.inr (.inl ht)),AX (x:=hi) fun t ht=>h t (.inr (.inr ht))]
 case ud x lo hi=>rw[fN fun t ht=>h t (.inl ht),AX (x:=lo) fun t ht=>h t (.inr (.inl ht)),AX (x:=hi) fun t ht=>h t (.inr (.inr ht))]
 case Ca x ps=>rw[fN fun t ht=>h t (.inl ht),s9 (l:=ps) fun t ht=>h t (.inr ht)]
 all_goals first
  |rfl
  |rw[fN h];done
  |rw[fN fun t ht=>h t (.inl ht),fN fun t ht=>h t (.inr ht)]
theorem St.ta (st:St) (d:Option Nat) (v:AV):(st.put d v).cY.length=st.cY.length∧(st.put d v).mem=st.mem:=by
 cases d<;>simp[St.put]
theorem St.xe (st:St) (m:Option (Nat×Obj)):(st.wF m).cY=st.cY∧(st.wF m).mem.length=st.mem.length:=by
 cases m<;>simp[St.wF,St.aC]
theorem Ev.tc (e:Ev) (st:St):(e.app st).cY.length=st.cY.length∧(e.app st).mem.length=st.mem.length:=by
 unfold Ev.app;obtain⟨h1,h2⟩:=St.ta (st.wF e.m) e.d e.v;obtain⟨h3,h4⟩:=St.xe st e.m;exact⟨by rw[h1,h3],by rw[h2,h4]⟩
theorem Ev.CJ (e:Ev) (st:St):(e.app st).base=st.base∧(e.app st).held=st.held:=by
 obtain⟨d,v,m⟩:=e
 cases d<;>cases m<;>exact⟨rfl,rfl⟩
theorem Ev.td (e:Ev) (st:St) (s:Nat) (h:e.d≠some s):(e.app st).slot s=st.slot s:=by
 unfold Ev.app;have h3:=(St.xe st e.m).1
 cases hd:e.d with
 |none=>simp only[St.put,St.slot,h3]
 |some d=>
  have dW:d≠s:=fun he=>h (by rw[hd,he])
  simp only[St.put,St.slot,h3,List.getD_eq_getElem?_getD,List.getElem?_set_ne dW]
theorem Ev.CK (e:Ev) {st st':St} (s:Nat) (hl:st.cY.length=st'.cY.length) (h:st.slot s=st'.slot s):(e.app st).slot s=(e.app st').slot s:=by
 by_cases hd:e.d=some s
 ·unfold Ev.app;simp only[hd,St.put,St.slot,(St.xe _ _).1,List.getD_eq_getElem?_getD,List.getElem?_set,if_true,hl]
 ·rw[Ev.td e st s hd,Ev.td e st' s hd,h]
theorem Ev.v8 (e:Ev) (st:St) (id:Nat) (h:∀o,e.m≠some (id,o)):aA (e.app st).mem id=aA st.mem id:=by
 unfold Ev.app;rw[(St.ta _ _ _).2]
 cases hm:e.m with
 |none=>rfl
 |some p=>
  obtain⟨k,o⟩:=p
  have dW:k≠id:=fun he=>h o (by rw[hm,he])
  simp only[St.wF,St.aC,aA,List.getD_eq_getElem?_getD,List.getElem?_set_ne dW]
theorem Ev.EA (e:Ev) {st st':St} (id:Nat) (hl:st.mem.length=st'.mem.length) (h:aA st.mem id=aA st'.mem id):aA (e.app st).mem id=aA (e.app st').mem id:=by
 by_cases hm:∀o,e.m≠some (id,o)
 ·rw[Ev.v8 e st id hm,Ev.v8 e st' id hm,h]
 ·obtain⟨o,hm⟩:∃o,e.m=some (id,o):=Classical.byContradiction fun hn=>hm fun o he=>hn ⟨o,he⟩
  unfold Ev.app;rw[(St.ta _ _ _).2,(St.ta _ _ _).2,hm];simp only[St.wF,St.aC,aA,List.getD_eq_getElem?_getD,List.getElem?_set,if_true,hl]
theorem nY (p:Nat→Bool):∀(es:List Ev) (k:Nat) (st:St),(cS p k es st).cY.length=st.cY.length∧(cS p k es st).mem.length=st.mem.length
 |[],_,_=>⟨rfl,rfl⟩
 |e::es,k,st=>by
  simp only[cS];refine⟨(nY p es (k+1) _).1.trans ?_,(nY p es (k+1) _).2.trans ?_⟩
  ·cases p k
   ·rfl
   ·exact(Ev.tc e st).1
  ·cases p k
   ·rfl
   ·exact(Ev.tc e st).2
theorem kx (p:Nat→Bool):∀(es:List Ev) (k:Nat) (st:St),(cS p k es st).base=st.base∧(cS p k es st).held=st.held
 |[],_,_=>⟨rfl,rfl⟩
 |e::es,k,st=>by
  simp only[cS];refine⟨(kx p es (k+1) _).1.trans ?_,(kx p es (k+1) _).2.trans ?_⟩
  ·cases p k
   ·rfl
   ·exact(Ev.CJ e st).1
  ·cases p k
   ·rfl
   ·exact(Ev.CJ e st).2
theorem sv {p q:Nat→Bool} {s:Nat}:∀(es:List Ev) (k:Nat) (st st':St),st.cY.length=st'.cY.length→st.slot s=st'.slot s→
  (∀i e,es[i]? =some e→p (k+i)≠q (k+i)→e.d≠some s)→(cS p k es st).slot s=(cS q k es st').slot s
 |[],_,_,_,_,h,_=>h
 |e::es,k,st,st',hl,h,hd=>by
  simp only[cS];have h0:=hd 0 e rfl
  have I7:∀i e,es[i]? =some e→p (k+1+i)≠q (k+1+i)→e.d≠some s:=fun i e' he Yw=>hd (i+1) e' (by simpa using he) (by rwa [show k+(i+1)=k+1+i by omega])
  refine sv es (k+1) _ _ ?_ ?_ I7
  ·cases p k<;>cases q k<;>simp[(Ev.tc _ _).1,hl]
  ·cases hp:p k<;>cases hq:q k
   ·exact h
   ·rw[Ev.td e st' s (h0 (by simp[hp,hq]))];exact h
   ·rw[Ev.td e st s (h0 (by simp[hp,hq]))];exact h
   ·exact Ev.CK e s hl h
theorem qV {p q:Nat→Bool} {id:Nat}:∀(es:List Ev) (k:Nat) (st st':St),st.mem.length=st'.mem.length→aA st.mem id=aA st'.mem id→
  (∀i e,es[i]? =some e→p (k+i)≠q (k+i)→∀o,e.m≠some (id,o))→aA (cS p k es st).mem id=aA (cS q k es st').mem id
 |[],_,_,_,_,h,_=>h
 |e::es,k,st,st',hl,h,hd=>by
  simp only[cS];have h0:=hd 0 e rfl
  have I7:∀i e,es[i]? =some e→p (k+1+i)≠q (k+1+i)→∀o,e.m≠some (id,o):=fun i e' he Yw=>hd (i+1) e' (by simpa using he) (by rwa [show k+(i+1)=k+1+i by omega])
  refine qV es (k+1) _ _ ?_ ?_ I7
  ·cases p k<;>cases q k<;>simp[(Ev.tc _ _).2,hl]
  ·cases hp:p k<;>cases hq:q k
   ·exact h
   ·rw[Ev.v8 e st' id (h0 (by simp[hp,hq]))];exact h
   ·rw[Ev.v8 e st id (h0 (by simp[hp,hq]))];exact h
   ·exact Ev.EA e id hl h
def Ev.free (e e':Ev):Prop:=(∀d,e.d=some d→e'.d≠some d)∧(∀id o o',e.m=some (id,o)→e'.m≠some (id,o'))
theorem Ev.J0 {e e':Ev} (h:e.free e') (st:St):e.app (e'.app st)=e'.app (e.app st):=by
 obtain⟨d,v,m⟩:=e;obtain⟨d',v',m'⟩:=e';obtain⟨h1,h2⟩:=h;simp only at h1 h2
 have hs:∀x y,d=some x→d'=some y→x≠y:=fun x y hx hy he=>h1 x hx (by rw[hy,he])
 have hm:∀x y,m=some x→m'=some y→x.1≠y.1:=fun x y hx hy he=>h2 x.1 x.2 y.2 hx (by rw[hy,he])
 cases d<;>cases d'<;>cases m<;>cases m'<;>simp only[Ev.app,St.wF,St.put,St.aC]<;>
  first
  |rfl
  |(rw[List.set_comm _ _ (hs _ _ rfl rfl)];done)
  |(rw[List.set_comm _ _ (hm _ _ rfl rfl)];done)
  |(rw[List.set_comm _ _ (hs _ _ rfl rfl),List.set_comm _ _ (hm _ _ rfl rfl)];done)
  |(rw[List.set_comm _ _ (hm _ _ rfl rfl),List.set_comm _ _ (hs _ _ rfl rfl)];done)
theorem sw {p:Nat→Bool} {e:Ev}:∀(es:List Ev) (k:Nat) (st:St),(∀i e',es[i]? =some e'→p (k+i)=true→e.free e')→cS p k es (e.app st)=e.app (cS p k es st)
 |[],_,_,_=>rfl
 |e'::es,k,st,h=>by
  simp only[cS]
  have h':∀i e',es[i]? =some e'→p (k+1+i)=true→e.free e':=fun i e' he hp=>h (i+1) e' (by simpa using he) (by rwa [show k+(i+1)=k+1+i by omega])
  cases hp:p k with
  |false=>exact sw es (k+1) st h'
  |true=>
   simp only;rw[←Ev.J0 (h 0 e' rfl (by simpa using hp)) st];exact sw es (k+1) _ h'
theorem ik {p q:Nat→Bool}:∀(es:List Ev) (k:Nat) (st:St),(∀i,k≤i→i<k+es.length→p i=q i)→cS p k es st=cS q k es st
 |[],_,_,_=>rfl
 |e::es,k,st,h=>by
  simp only[cS,h k (Nat.le_refl _) (by simp)]
  exact ik es (k+1) _ fun i h1 h2=>h i (by omega) (by simp;omega)
theorem te {p q:Nat→Bool} {e:Ev} {j:Nat} (hp:p j=false) (hq:q j=true) (Yw:∀i,i≠j→p i=q i):∀(es:List Ev) (k:Nat) (st:St),k≤j→es[j-k]? =some e→
  (∀i e',es[i]? =some e'→j<k+i→p (k+i)=true→e.free e')→cS q k es st=e.app (cS p k es st)
 |[],_,_,_,he,_=>by simp at he
 |e'::es,k,st,hk,he,h=>by
  simp only[cS]
  by_cases hkj:k=j
  ·subst hkj;simp only[Nat.sub_self,List.getElem?_cons_zero,Option.some.injEq]at he;subst he;simp only[hp,hq];rw[←sw es (k+1) st fun i e'' Er XB=>h (i+1) e'' (by simpa using Er) (by omega) (by rwa [show k+(i+1)=k+1+i by omega])]
   exact ik es (k+1) _ fun i h1 _=>(Yw i (by omega)).symm
  ·rw[←Yw k hkj];refine te hp hq Yw es (k+1) _ (by omega) ?_ ?_
   ·rw[show j-k=(j-(k+1))+1 by omega]at he;simpa using he
   ·intro i e'' Er hj XB;exact h (i+1) e'' (by simpa using Er) (by omega) (by rwa [show k+(i+1)=k+1+i by omega])
end Go.Am
end
section
namespace Go.Am
section
variable (C:FuncId→List PV→PV→Prop) (A:Ar)
end
def ft:List (Ev×eM)→St→St
 |[],st=>st
 |(e,_)::r,st=>ft r (e.app st)
theorem H8 (h:eM):rZ h ib=true:=by
 unfold rZ ib
 cases h.wr<;>simp[fk,HT]
theorem oH {f:eM} {id:Nat} (h:f.wr=some id):fk f id=true:=by
 unfold fk;split
 ·rfl
 ·split
  ·rfl
  ·simp[h,HT]
theorem sx {f:eM} {id:Nat} (h:f.rd=some id):fk f id=true:=by
 unfold fk;split
 ·rfl
 ·simp[h,HT]
theorem xf (k:Nat) (rd:Option Nat) (o:Out):(kM k rd o).rd=rd:=by cases o<;>rfl
theorem zN (l:List Nat):∀(cC:List eM) (i:Nat),iM l ib i cC=true
 |[],_=>rfl
 |h::hs,i=>by
  simp only[iM,H8,zN l hs (i+1)]
  cases l.contains i<;>rfl
theorem vo {l:List Nat} {f:eM}:∀{cC:List eM} {k:Nat},iM l f k cC=true→∀i h,cC[i]? =some h→l.contains (k+i)=true∨rZ h f=true
 |[],_,_,i,h,hi=>by simp at hi
 |g::hs,k,ha,i,h,hi=>by
  simp only[iM]at ha
  have hrec:iM l f (k+1) hs=true:=by
   split at ha
   ·exact ha
   ·split at ha
    ·exact ha
    ·cases ha
  cases i with
  |zero=>
   simp only[List.getElem?_cons_zero,Option.some.injEq]at hi;subst hi;split at ha
   ·rename_i hc;exact .inl hc
   ·split at ha
    ·rename_i hc;exact .inr hc
    ·cases ha
  |succ i=>
   rw[show k+(i+1)=k+1+i by omega];exact vo hrec i h (by simpa using hi)
theorem vq {h f:eM} (ha:rZ h f=true):(∀id,h.wr=some id→fk f id=false)∧(∀id,f.wr=some id→fk h id=false):=by
 unfold rZ at ha;constructor
 ·intro id hid;rw[hid]at ha
  cases ht:fk f id with
  |false=>rfl
  |true=>simp[ht]at ha
 ·intro id hid;split at ha
  ·cases ha
  ·rw[hid]at ha
   cases ht:fk h id with
   |false=>rfl
   |true=>simp[ht]at ha
section
variable {C:FuncId→List PV→PV→Prop} {A:Ar}
theorem oI:∀{l:List AI} {lt:List (List Nat)} {cC:List eM} {st:St} {K:St→Prop},dv C A l lt cC st K→∃r,Trace C A l lt cC st r∧K (ft r st)
 |[],_,_,st,K,h=>⟨[],rfl,h⟩
 |x::xs,lt,cC,st,K,h=>by
  have hg:(guardOf st x.g=some true∧iM (lt.headD []) (eE (st.base+x.d.getD 0) st (b6 A (st.base+x.d.getD 0) x.op st.ev)) 0 cC=true∧
    ia C A none (st.base+x.d.getD 0) x st fun st'=>dv C A xs lt.tail (cC++[eE (st.base+x.d.getD 0) st (b6 A (st.base+x.d.getD 0) x.op st.ev)]) st' K)∨
    (guardOf st x.g=some false∧dv C A xs lt.tail (cC++[ib]) (st.put x.d uZ) K):=by
   simp only[dv]at h
   cases hx:x.g with
   |none=>simp only[hx]at h;exact .inl ⟨rfl,h⟩
   |some p=>
    obtain⟨j,want⟩:=p;simp only[hx]at h;simp only[guardOf]
    cases hs:st.slot j with
    |pv p=>
     cases p with
     |bool b=>
      simp only[hs]at h
      cases b<;>cases want<;>first|exact .inl ⟨rfl,h⟩|exact .inr ⟨rfl,h⟩
     |ep l=>simp only[hs]at h;exact .inr ⟨rfl,h⟩
     |_=>simp only[hs]at h
    |_=>simp only[hs]at h
  rcases hg with⟨h1,h2,h3⟩|⟨h1,h2⟩
  ·obtain⟨e,k1,k2⟩:=JX _ _ h3;obtain⟨r,k3,k4⟩:=oI k2;exact⟨(e,_)::r,⟨e,_,r,rfl,.inl ⟨h1,k1,rfl⟩,h2,k3⟩,k4⟩
  ·obtain⟨r,k3,k4⟩:=oI h2;exact⟨(⟨x.d,uZ,none⟩,ib)::r,⟨_,_,r,rfl,.inr ⟨h1,rfl,rfl⟩,zN _ _ _,k3⟩,k4⟩
theorem qb:∀{l:List AI} {lt:List (List Nat)} {cC:List eM} {st:St} {r:List (Ev×eM)},Trace C A l lt cC st r→r.length=l.length∧
  ∀j x,l[j]? =some x→∃e f,r[j]? =some (e,f)∧I6 C A x (ft (r.take j) st) e f∧iM (lt.getD j []) f 0 (cC++(r.take j).map (·.2))=true
 |[],_,_,_,r,h=>by simp only[Trace]at h;subst h;exact⟨rfl,fun j x hx=>by simp at hx⟩
 |x::xs,lt,cC,st,r,h=>by
  simp only[Trace]at h;obtain⟨e,f,r',rfl,h1,h2,h3⟩:=h;obtain⟨hl,hj⟩:=qb h3;refine⟨by simp[hl],fun j y hy=>?_⟩
  cases j with
  |zero=>
   simp only[List.getElem?_cons_zero,Option.some.injEq]at hy;subst hy;refine⟨e,f,rfl,h1,?_⟩;simp only[List.take_zero,List.map_nil,List.append_nil];rw[show lt.getD 0 []=lt.headD [] by cases lt<;>rfl];exact h2
  |succ j=>
   obtain⟨e',f',k1,k2,k3⟩:=hj j y (by simpa using hy);refine⟨e',f',by simpa using k1,by simpa[ft]using k2,?_⟩;simp only[List.take_succ_cons,List.map_cons];rw[show lt.getD (j+1) []=lt.tail.getD j [] by cases lt<;>simp,show cC++f::(r'.take j).map (·.2)=(cC++[f])++(r'.take j).map (·.2) by simp];exact k3
theorem ez:∀(r:List (Ev×eM)) (j k:Nat) (st:St),ft (r.take j) st=cS (fun i=>decide (i<k+j)) k (r.map (·.1)) st
 |[],j,k,st=>by simp[ft,cS]
 |(e,f)::r,j,k,st=>by
  cases j with
  |zero=>
   simp only[List.take_zero,ft,List.map_cons,cS,Nat.add_zero,Nat.lt_irrefl,decide_false];have:=ez r 0 (k+1) st;simp only[List.take_zero,ft]at this;refine this.trans (ik _ _ _ fun i h1 _=>?_);rw[decide_eq_false (by omega),decide_eq_false (by omega)]
  |succ j=>
   simp only[List.take_succ_cons,ft,List.map_cons,cS]
   have hk:decide (k<k+(j+1))=true:=by simp
   rw[hk,ez r j (k+1)]
   exact ik _ _ _ fun i h1 _=>by rw[show k+1+j=k+(j+1) by omega]
theorem CL {x:AI} {st:St} {e:Ev} {f:eM} (h:I6 C A x st e f):e.d=x.d:=by
 have key:∀o,de C x.d (st.base+x.d.getD 0) st o e→e.d=x.d:=by
  intro o ho
  cases o<;>simp only[de]at ho
  ·rw[ho]
  ·rw[ho.2]
  ·rw[ho.2]
  ·rw[ho.2.2]
  ·obtain⟨_,_,rfl⟩:=ho;rfl
  ·obtain⟨_,_,_,rfl⟩:=ho;rfl
  ·obtain⟨_,_,_,_,_,_,rfl⟩:=ho;rfl
 rcases h with⟨_,h,_⟩|⟨_,rfl,_⟩
 ·cases hE:b6 A (st.base+x.d.getD 0) x.op st.ev with
  |pure o=>rw[hE]at h;exact key _ h
  |rd id k=>rw[hE]at h;obtain⟨ob,_,h⟩:=h;exact key _ h
 ·rfl
theorem Rx {d:Option Nat} {k:Nat} {st:St} {e:Ev} {o:Out} {rd:Option Nat} (ho:de C d k st o e) {id:Nat} {ob:Obj} (hm:e.m=some (id,ob)):(kM k rd o).wr=some id:=by
 cases o<;>simp only[de]at ho
 ·rw[ho]at hm;cases hm
 ·rw[ho.2]at hm;cases hm
 ·rw[ho.2]at hm;cases hm;rfl
 ·rw[ho.2.2]at hm;cases hm;rfl
 ·obtain⟨_,_,rfl⟩:=ho;cases hm;rfl
 ·obtain⟨_,_,_,rfl⟩:=ho;cases hm;rfl
 ·obtain⟨_,_,_,_,_,_,rfl⟩:=ho;cases hm
theorem Ry {x:AI} {st:St} {e:Ev} {f:eM} (h:I6 C A x st e f) {id:Nat} {ob:Obj} (hm:e.m=some (id,ob)):f.wr=some id:=by
 rcases h with⟨_,h,rfl⟩|⟨_,rfl,rfl⟩
 ·cases hE:b6 A (st.base+x.d.getD 0) x.op st.ev with
  |pure o=>rw[hE]at h;exact Rx h hm
  |rd pH k=>rw[hE]at h;obtain⟨ob',h0,h⟩:=h;simp only[eE,h0];exact Rx h hm
 ·cases hm
theorem xg {m m':List (Option Obj)}:∀{l:List AV},dry l=true→ou m l=ou m' l
 |[],_=>rfl
 |x::r,h=>by
  cases x<;>simp only[dry]at h<;>first|(cases h;done)|(simp only[ou,nL,xg (m:=m) (m':=m') h])
theorem sy {m m':List (Option Obj)}:∀{l:List AV},oy l=true→et m l=et m' l
 |[],_=>rfl
 |x::r,h=>by
  cases x with
  |agg cs=>
   simp only[oy]at h;split at h
   ·rename_i hc;simp only[et,mT,mS,xg (m:=m) (m':=m') hc,sy (m:=m) (m':=m') h]
   ·cases h
  |_=>simp only[oy]at h<;>first|(cases h;done)|(simp only[et,mT,mS,nL,sy (m:=m) (m':=m') h])
theorem M8 {m m':List (Option Obj)} (hl:m.length=m'.length) (h:∀id,aA m id=aA m' id):m=m':=by
 apply List.ext_getElem hl;intro i h1 h2;have:=h i;simpa only[aA,List.getD_eq_getElem?_getD,List.getElem?_eq_getElem h1,List.getElem?_eq_getElem h2,Option.getD_some]using this
theorem CN {d rd:Option Nat} {k:Nat} {st st':St} {e:Ev} {o:Out} (hl:st.mem.length=st'.mem.length) (hm:∀id,fk (kM k rd o) id=true→aA st.mem id=aA st'.mem id) (ho:de C d k st o e):de C d k st' o e:=by
 cases o with
 |new o v=>
  obtain⟨h2,h3,h4⟩:=ho;exact⟨by rw[←hm k (oH rfl)];exact h2,hl▸h3,h4⟩
 |km p o v=>
  obtain⟨h2,h3,h4⟩:=ho;exact⟨by rw[←hm k (oH rfl)];exact h2,hl▸h3,h4⟩
 |dw id o v=>exact⟨hl▸ho.1,ho.2⟩
 |iL p id o v=>exact⟨hl▸ho.1,ho.2⟩
 |call f args=>
  obtain⟨ps,b,res,h1,h2,h3,h4⟩:=ho;refine⟨ps,b,res,?_,h2,h3,h4⟩
  cases hd:oy args with
  |true=>rw[←sy (m:=st.mem) hd];exact h1
  |false=>
   have:st.mem=st'.mem:=M8 hl fun id=>hm id (by simp only[fk,kM,hd])
   rw[←this];exact h1
 |_=>exact ho
theorem J1 {x:AI} {st st':St} {e:Ev} {f:eM} (hb:st.base=st'.base) (hl:st.mem.length=st'.mem.length) (hs:∀t∈x.looks,st.slot t=st'.slot t) (hm:∀id,fk f id=true→aA st.mem id=aA st'.mem id)
  (h:I6 C A x st e f):I6 C A x st' e f:=by
 have hg:guardOf st x.g=guardOf st' x.g:=by
  cases hx:x.g with
  |none=>rfl
  |some p=>
   obtain⟨j,want⟩:=p;simp only[guardOf,hs j (by simp[AI.looks,hx])]
 have hE:b6 A (st.base+x.d.getD 0) x.op st.ev=b6 A (st'.base+x.d.getD 0) x.op st'.ev:=by rw[←hb];exact H7 fun t ht=>hs t (by simp[AI.looks,ht])
 rcases h with⟨h1,h2,h3⟩|⟨h1,h2,h3⟩
 ·refine .inl ⟨hg▸h1,?_,?_⟩
  ·rw[←hE,←hb]
   cases hE':b6 A (st.base+x.d.getD 0) x.op st.ev with
   |pure o=>
    rw[hE']at h2 h3;exact CN hl (fun id ht=>hm id (by rw[h3];exact ht)) h2
   |rd id k=>
    rw[hE']at h2 h3;obtain⟨ob,k1,k2⟩:=h2;simp only[eE,k1]at h3
    have hid:aA st'.mem id=some ob:=by
     rw[←hm id ?_];exact k1;rw[h3];exact sx (xf _ _ _)
    exact⟨ob,hid,CN hl (fun pH ht=>hm pH (by rw[h3];exact ht)) k2⟩
  ·rw[←hE,←hb];rw[h3]
   cases hE':b6 A (st.base+x.d.getD 0) x.op st.ev with
   |pure o=>rfl
   |rd id k=>
    rw[hE']at h2 h3;obtain⟨ob,k1,k2⟩:=h2;simp only[eE,k1]at h3
    have hid:aA st'.mem id=some ob:=by
     rw[←hm id ?_];exact k1;rw[h3];exact sx (xf _ _ _)
    simp only[eE,k1,hid]
 ·exact .inr ⟨hg▸h1,h2,h3⟩
end
end Go.Am
end
section
namespace Go.Am
theorem nu {P:Program} {G:Nat→Option (List PV)} {accs:List Nat} {ops:Array Oper}:∀{os:List Oper} {l:List AI},fY P G accs ops os=some l→l.length=os.length∧
  ∀(j:Nat) (o:Oper),os[j]? =some o→∃x:AI,l[j]? =some x∧nP P G accs ops o=some x
 |[],l,h=>by simp only[fY,Option.some.injEq]at h;subst h;exact⟨rfl,fun j o hj=>by simp at hj⟩
 |o::os,l,h=>by
  simp only[fY]at h;split at h
  ·rename_i x hx;split at h
   ·rename_i xs hxs;simp only[Option.some.injEq]at h;subst h;obtain⟨h1,h2⟩:=nu hxs;refine⟨by simp[h1],fun j o' hj=>?_⟩
    cases j with
    |zero=>simp only[List.getElem?_cons_zero,Option.some.injEq]at hj;subst hj;exact⟨x,rfl,hx⟩
    |succ j=>simpa using h2 j o' (by simpa using hj)
   ·cases h
  ·cases h
theorem qc:∀(os:List Oper) (acc:List (List Nat)),(∀i,i<acc.length→(iN os acc)[i]? =acc[i]?)∧
  ∀(j:Nat) (o:Oper),os[j]? =some o→∀k∈(iN os acc).getD (acc.length+j) [],∃e∈o.after,Region.binds .any e=true∧(k=e.on∨k∈(iN os acc).getD e.on [])
 |[],acc=>⟨fun i _=>rfl,fun j o hj=>by simp at hj⟩
 |o::os,acc=>by
  simp only[iN];generalize hl:(o.after.toList.filter (Region.binds .any)).foldl (fun l e=>(e.on::(acc.getD e.on [])).foldl (fun l i=>if l.contains i then l else l++[i]) l) []=new;obtain⟨h1,h2⟩:=qc os (acc++[new]);refine⟨fun i hi=>by rw[h1 i (by simp;omega),List.getElem?_append_left hi],fun j o' hj k hk=>?_⟩
  cases j with
  |zero=>
   simp only[List.getElem?_cons_zero,Option.some.injEq]at hj;subst hj
   have e0:(iN os (acc++[new])).getD (acc.length+0) []=new:=by
    rw[List.getD_eq_getElem?_getD,h1 (acc.length+0) (by simp)];simp
   rw[e0,←hl]at hk
   have inner:∀(xs l:List Nat),k∈xs.foldl (fun l i=>if l.contains i then l else l++[i]) l→k∈l∨k∈xs:=by
    intro xs
    induction xs with
    |nil=>intro l hk;exact .inl hk
    |cons x xs ih=>
     intro l hk;simp only[List.foldl_cons]at hk
     rcases ih _ hk with h|h
     ·split at h
      ·exact .inl h
      ·rcases List.mem_append.1 h with h|h
       ·exact .inl h
       ·exact .inr (by simp at h;simp[h])
     ·exact .inr (by simp[h])
   have outer:∀(es:List Edge) (l:List Nat),k∈es.foldl (fun l e=>(e.on::(acc.getD e.on [])).foldl (fun l i=>if l.contains i then l else l++[i]) l) l→k∈l∨∃e∈es,k=e.on∨k∈acc.getD e.on []:=by
    intro es
    induction es with
    |nil=>intro l hk;exact .inl hk
    |cons e es ih=>
     intro l hk;rw[List.foldl_cons]at hk
     rcases ih _ hk with h|⟨e',Er,h⟩
     ·rcases inner _ _ h with h|h
      ·exact .inl h
      ·exact .inr ⟨e,by simp,by simpa using h⟩
     ·exact .inr ⟨e',by simp[Er],h⟩
   rcases outer _ _ hk with h|⟨e,he,h⟩
   ·simp at h
   ·obtain⟨he1,JU⟩:=List.mem_filter.1 he;refine⟨e,by simpa using he1,JU,h.imp id fun h=>?_⟩
    have bL:e.on<acc.length:=by
     rcases Nat.lt_or_ge e.on acc.length with bL|B7
     ·exact bL
     ·simp[List.getD_eq_getElem?_getD,List.getElem?_eq_none B7]at h
    rw[List.getD_eq_getElem?_getD,h1 e.on (by simp;omega),List.getElem?_append_left bL,←List.getD_eq_getElem?_getD];exact h
  |succ j=>
   have:=h2 j o' (by simpa using hj) k (by simpa[show acc.length+1+j=acc.length+(j+1) by omega]using hk);exact this
theorem xi:∀(os:List Oper) (acc:List (List Nat)) (j:Nat) (o:Oper),os[j]? =some o→∀e∈o.after,Region.binds .any e=true→e.on∈(iN os acc).getD (acc.length+j) []
 |[],acc=>fun j o hj=>by simp at hj
 |o::os,acc=>by
  intro j o' hj e he hb;simp only[iN];generalize hl:(o.after.toList.filter (Region.binds .any)).foldl (fun l e=>(e.on::(acc.getD e.on [])).foldl (fun l i=>if l.contains i then l else l++[i]) l) []=new;obtain⟨h1,_⟩:=qc os (acc++[new])
  cases j with
  |zero=>
   simp only[List.getElem?_cons_zero,Option.some.injEq]at hj;subst hj
   have e0:(iN os (acc++[new])).getD (acc.length+0) []=new:=by
    rw[List.getD_eq_getElem?_getD,h1 (acc.length+0) (by simp)];simp
   rw[e0,←hl]
   have ui:∀(xs l:List Nat) (k:Nat),k∈l→k∈xs.foldl (fun l i=>if l.contains i then l else l++[i]) l:=by
    intro xs
    induction xs with
    |nil=>intro l k hk;exact hk
    |cons x xs ih=>
     intro l k hk;simp only[List.foldl_cons];apply ih;split
     ·exact hk
     ·simp[hk]
   have inner:∀(xs l:List Nat) (k:Nat),k∈xs→k∈xs.foldl (fun l i=>if l.contains i then l else l++[i]) l:=by
    intro xs
    induction xs with
    |nil=>intro l k hk;cases hk
    |cons x xs ih=>
     intro l k hk;simp only[List.foldl_cons]
     rcases List.mem_cons.1 hk with rfl|hk
     ·apply ui;split
      ·rename_i hc;simpa using hc
      ·simp
     ·exact ih _ _ hk
   have Yx:∀(es:List Edge) (l:List Nat) (k:Nat),k∈l→k∈es.foldl (fun l e=>(e.on::(acc.getD e.on [])).foldl (fun l i=>if l.contains i then l else l++[i]) l) l:=by
    intro es
    induction es with
    |nil=>intro l k hk;exact hk
    |cons e es ih=>intro l k hk;rw[List.foldl_cons];exact ih _ _ (ui _ _ _ hk)
   have outer:∀(es:List Edge) (l:List Nat),e∈es→e.on∈es.foldl (fun l e=>(e.on::(acc.getD e.on [])).foldl (fun l i=>if l.contains i then l else l++[i]) l) l:=by
    intro es
    induction es with
    |nil=>intro l hk;cases hk
    |cons e' es ih=>
     intro l hk;rw[List.foldl_cons]
     rcases List.mem_cons.1 hk with rfl|hk
     ·exact Yx _ _ _ (inner _ _ _ (by simp))
     ·exact ih _ hk
   exact outer _ _ (List.mem_filter.2 ⟨by simpa using he,hb⟩)
  |succ j=>
   have:=xi os (acc++[new]) j o' (by simpa using hj) e he hb;simpa[show acc.length+1+j=acc.length+(j+1) by omega]using this
theorem apart_spec {x y:AI} (h:x.apart y=true):(∀d,x.d=some d→d∉y.looks∧y.d≠some d)∧(∀d,y.d=some d→d∉x.looks):=by
 unfold AI.apart at h;refine⟨fun d hd=>?_,fun d hd=>?_⟩<;>simp[hd]at h
 ·exact⟨h.1.1,h.1.2⟩
 ·exact h.2
theorem rF {l:List AI} {lt:List (List Nat)} (h:iY l lt=true):(∀i,i<l.length→∀k∈lt.getD i [],k<i)∧
  ∀i j x y,j<i→l[i]? =some x→l[j]? =some y→j∈lt.getD i []∨x.apart y=true:=by
 unfold iY at h;simp only[List.all_eq_true,List.mem_range,Bool.and_eq_true,decide_eq_true_eq,Bool.or_eq_true,List.contains_iff_mem]at h;refine⟨fun i hi k hk=>(h i hi).1 k hk,fun i j x y pI hx hy=>?_⟩;have hi:i<l.length:=(List.getElem?_eq_some_iff.1 hx).1;have:=(h i hi).2 j pI;rw[hx,hy]at this;exact this
theorem EB {l:List AI} {lt:List (List Nat)} {i k:Nat} (h:k∈(iO l lt).getD i []):k∈lt.getD i []∨nQ l k i=true:=by
 simp only[iO,List.getD_eq_getElem?_getD,List.getElem?_map]at h
 rcases Nat.lt_or_ge i lt.length with hi|hi
 ·rw[List.getElem?_range hi]at h;simp only[Option.map_some,Option.getD_some,List.mem_append,List.mem_filter]at h
  rcases h with h|h
  ·exact .inl h
  ·exact .inr h.2
 ·rw[List.getElem?_eq_none (by simpa using hi)]at h;simp at h
theorem oJ {x y:AI} (h:Cm x y=true):∃kg sh k n m t,x.op=.Mt kg sh (.int k n) false (.t m) (.t t)∧x.g=none∧y.op=.uC kg sh (.int k n) (.t m) (.t t)∧y.g=none∧∀s∈x.looks,x.d≠some s:=by
 unfold Cm at h;split at h
 ·rename_i kg sh z ok m k e1 e2;split at h
  ·rename_i rh Jq z' m' k' e3 e4
   cases ok with
   |true=>cases h
   |false=>
    simp only[Bool.and_eq_true,decide_eq_true_eq,List.all_eq_true]at h;obtain⟨⟨⟨rfl,rfl,rfl,rfl⟩,h2⟩,h3⟩:=h;unfold Rn at h2;split at h2
    ·rename_i k1 n1 k2 n2;simp only[decide_eq_true_eq]at h2;obtain⟨rfl,rfl⟩:=h2;exact⟨_,_,_,_,_,_,e1,e2,e3,e4,h3⟩
    ·cases h2
  ·cases h
 ·cases h
theorem mi {l:List AI} {j i:Nat} {x y:AI} (hx:l[j]? =some x) (hy:l[i]? =some y) (h:nQ l j i=true):Cm x y=true∧
  ∀q,j<q→q<i→∃z,l[q]? =some z∧quiet z.op=true∧∀t∈x.looks,z.d≠some t:=by
 unfold nQ at h;rw[hx,hy]at h;simp only at h;split at h
 ·rename_i hp;refine⟨hp,fun q h1 h2=>?_⟩;unfold Ro at h;simp only[List.all_eq_true,List.mem_range]at h;have:=h q h2;rw[decide_eq_false (by omega)]at this;simp only at this;split at this
  ·rename_i z hz;simp only[Bool.and_eq_true,List.all_eq_true,decide_eq_true_eq]at this;exact⟨z,hz,this.1,this.2⟩
  ·cases this
 ·cases h
theorem CO (A:Ar) {op:BinOp} {k:IntKind} {a b:Int} {C:FuncId→List PV→PV→Prop} {d:Option Nat} {n:Nat} {st:St} {e:Ev} (h:de C d n st (wz A op k a b) e):e.m=none:=by
 unfold wz at h
 split at h<;>simp only[de]at h<;>first|(rw[h];done)|(rw[h.2];done)
theorem M9 {C:FuncId→List PV→PV→Prop} {A:Ar} {x:AI} {st:St} {e:Ev} {f:eM} (hq:quiet x.op=true) (h:I6 C A x st e f):e.m=none:=by
 rcases h with⟨_,h,_⟩|⟨_,rfl,_⟩
 ·obtain⟨d,op,g⟩:=x;simp only at hq h;unfold quiet at hq;split at hq
  ·rename_i b u v;simp only[b6,kV]at h;unfold zc at h;split at h
   ·split at h
    ·simp only[de]at h;rw[h.2]
    ·simp only[de]at h;rw[h.2]
    ·split at h
     ·exact CO A h
     ·simp only[de]at h
   ·unfold wA at h
    split at h<;>simp only[de]at h<;>first|(rw[h];done)|(rw[h.2];done)
   ·simp only[de]at h
  ·simp only[b6,kV,de]at h;rw[h]
  ·cases hq
 ·rfl
theorem J2 {C:FuncId→List PV→PV→Prop} {A:Ar} {d:Option Nat} {n:Nat} {st:St} {e:Ev} {k:List UInt8} {z:AV} {ok:Bool}:∀{rows:List (List UInt8×AV)},de C d n st (ko A k z ok rows) e→e.m=none
 |[],h=>by simp only[ko,de]at h;rw[h]
 |(s',v)::rows,h=>by
  simp only[ko]at h;split at h
  ·simp only[de]at h;rw[h]
  ·exact J2 h
theorem EC {C:FuncId→List PV→PV→Prop} {A:Ar} {x y:AI} {st:St} {e:Ev} {f:eM} (hs:Cm x y=true) (h:I6 C A x st e f):e.m=none:=by
 obtain⟨kg,sh,k,n,m,t,h1,h2,h3,h4,h5⟩:=oJ hs
 rcases h with⟨_,h,_⟩|⟨_,rfl,_⟩
 ·rw[h1]at h;simp only[b6]at h;unfold wC at h;split at h
  ·split at h
   ·simp only[kV,de]at h;rw[h.2]
   ·simp only[kV,de]at h
  ·split at h
   ·split at h
    ·simp only[kV,de]at h;rw[h.2]
    ·simp only[kV,de]at h
   ·simp only[kV,de]at h
  ·simp only[kV]at h;obtain⟨ob,_,h⟩:=h;split at h
   ·split at h
    ·split at h
     ·simp only[de]at h;rw[h.2]
     ·simp only[de]at h
    ·simp only[de]at h
   ·split at h
    ·exact J2 h
    ·simp only[de]at h
   ·simp only[de]at h
  ·simp only[kV,de]at h
 ·rfl
theorem xj {p:Nat→Bool} {id:Nat} {o:Obj}:∀(es:List Ev) (i k:Nat) (e:Ev) (st:St),es[i]? =some e→p (k+i)=true→e.m=some (id,o)→id<st.mem.length→
  (∀q e',i<q→es[q]? =some e'→p (k+q)=true→∀o',e'.m≠some (id,o'))→aA (cS p k es st).mem id=some o
 |[],_,_,_,_,h,_,_,_,_=>by simp at h
 |e0::es,0,k,e,st,h,hp,hm,hl,hq=>by
  simp only[List.getElem?_cons_zero,Option.some.injEq]at h;subst h;simp only[Nat.add_zero]at hp;simp only[cS,hp]
  have h1:=qV (p:=p) (q:=fun _=>false) (id:=id) es (k+1) (e0.app st) (e0.app st) rfl rfl fun i e' he dW o'=>by
   have:p (k+1+i)=true:=by
    cases pA:p (k+1+i)with
    |true=>rfl
    |false=>rw[pA]at dW;exact absurd rfl dW
   exact hq (i+1) e' (by omega) (by simpa using he) (by rwa [show k+(i+1)=k+1+i by omega]) o'
  rw[h1]
  have h2:∀(es:List Ev) (k:Nat) (st:St),cS (fun _=>false) k es st=st:=by
   intro es
   induction es with
   |nil=>intro k st;rfl
   |cons e es ih=>intro k st;simp only[cS];exact ih _ _
  rw[h2];unfold Ev.app;rw[(St.ta _ _ _).2,hm];simp only[St.wF];rw[CH hl,if_pos rfl]
 |e0::es,i+1,k,e,st,h,hp,hm,hl,hq=>by
  simp only[cS];refine xj es i (k+1) e _ (by simpa using h) (by rwa [show k+1+i=k+(i+1) by omega]) hm ?_ ?_
  ·cases p k
   ·exact hl
   ·rw[(Ev.tc _ _).2];exact hl
  ·intro q e' h1 h2 h3;exact hq (q+1) e' (by omega) (by simpa using h2) (by rwa [show k+(q+1)=k+1+q by omega])
theorem AY {sh:List Nat}:∀{k:List PV},aX sh k k→bw k k=true:=by
 intro k
 induction k generalizing sh with
 |nil=>intro _;rfl
 |cons x k ih=>
  intro h
  cases sh with
  |nil=>simp only[aX]at h
  |cons s sh=>
   cases x<;>rcases s with _|_|_|s<;>simp[aX]at h<;>simp[bw,ih h]
theorem Na {sh:List Nat} {kn:Nat} {rows:List (List PV)} {k z:List PV} (h:aG.Ea sh kn rows k):aG.Ea sh kn (aG.ug kn rows k z) k∧jn kn (aG.ug kn rows k z) k z=jn kn rows k z:=by
 obtain⟨h1,h2,h3⟩:=h
 have hp:aG.ug kn rows k z=match dP kn rows k with|true=>rows|false=>rows++[k++z]:=rfl
 rw[hp]
 cases hh:dP kn rows k with
 |true=>exact⟨⟨h1,h2,h3⟩,rfl⟩
 |false=>
  simp only
  have ht:(k++z).take kn=k:=by rw[←h1];simp
  have hd:(k++z).drop kn=z:=by rw[←h1];simp
  refine⟨⟨h1,h2,fun r hr=>?_⟩,?_⟩
  ·rcases List.mem_append.1 hr with hr|hr
   ·exact h3 r hr
   ·simp only[List.mem_singleton]at hr;rw[hr,ht];exact h2
  ·have hn:rows.find? (fun r=>bw k (r.take kn))=none:=by
    rw[List.find?_eq_none];intro r hr hc;unfold dP at hh;rw[List.any_eq_false]at hh;exact hh r hr hc
   unfold jn;rw[List.find?_append,hn];simp only[Option.none_or,List.find?_cons,ht,AY h2,hd]
section
variable {P:Program} {w0:World} {own0:Nat→Prop} {hvs:List Value} {G:Nat→Option (List PV)} {S0:Nat→Prop} {accs:List Nat} {Q:Exit→Act→World→Prop}
 {ops:Array Oper} {l:List AI} {lt:List (List Nat)} {r:List (Ev×eM)} {st0:St}
theorem xk (H9:iY l lt=true) (xl:Trace (ar P G) aG l (iO l lt) [] st0 r) {i j:Nat} {x y:AI} (pI:i<j) (hx:l[i]? =some x) (hy:l[j]? =some y)
  (hn:i∉lt.getD j []):∃e f e' f',r[i]? =some (e,f)∧r[j]? =some (e',f')∧e.d=x.d∧e'.d=y.d∧(∀id ob,e.m=some (id,ob)→f.wr=some id)∧(∀id ob,e'.m=some (id,ob)→f'.wr=some id)∧
   y.apart x=true∧(rZ f f'=true∨nQ l i j=true):=by
 obtain⟨hlen,xl⟩:=qb xl;obtain⟨e,f,h1,h2,h3⟩:=xl i x hx;obtain⟨e',f',h4,h5,h6⟩:=xl j y hy;refine⟨e,f,e',f',h1,h4,CL h2,CL h5,fun id ob=>Ry h2,fun id ob=>Ry h5,?_,?_⟩
 ·exact((rF H9).2 j i y x pI hy hx).resolve_left hn
 ·have hi:([]++(r.take j).map (·.2))[i]? =some f:=by simp[List.getElem?_take,pI,h1]
  rcases vo h6 i f hi with h|h
  ·rw[Nat.zero_add,List.contains_iff_mem]at h;exact(EB h).elim (fun h=>absurd h hn) .inr
  ·exact .inl h
theorem J3 (xl:Trace (ar P G) aG l lt [] st0 r) {j i:Nat} {x y:AI} (hx:l[j]? =some x) (hy:l[i]? =some y) (UK:j<i) (hs:nQ l j i=true) {e e':Ev} {f f':eM} (he:r[j]? =some (e,f)) (Er:r[i]? =some (e',f')):
  ∃id o,e'.m=some (id,o)∧id<st0.mem.length∧fk f id=true∧(∀k,fk f k=true→k=id)∧∀st':St,st'.base=st0.base→(∀t∈x.looks,(ft (r.take j) st0).slot t=st'.slot t)→aA st'.mem id=some o→I6 (ar P G) aG x st' e f:=by
 obtain⟨hp,hq⟩:=mi hx hy hs;obtain⟨kg,sh,kk,n,m,t,h1,h2,h3,h4,h5⟩:=oJ hp;obtain⟨hlen,ht⟩:=qb xl;obtain⟨e1,f1,p1,p2,_⟩:=ht j x hx;rw[he]at p1;cases p1;obtain⟨e2,f2,q1,q2,_⟩:=ht i y hy;rw[Er]at q1;cases q1
 have uy:m∈x.looks∧t∈x.looks:=by simp[AI.looks,h1,yB.looks,bN.sl]
 have b4:∀q eq,(r.map (·.1))[q]? =some eq→j≤q→q<i→eq.m=none∧∀s∈x.looks,eq.d≠some s:=by
  intro q eq hr h6 h7
  rcases Nat.lt_or_ge j q with h8|h8
  ·obtain⟨z,hz,XC,hz2⟩:=hq q h8 h7;obtain⟨e3,f3,r1,r2,_⟩:=ht q z hz
   have:eq=e3:=by simp[r1]at hr;exact hr.symm
   subst this;exact⟨M9 XC r2,fun s hs=>by rw[CL r2];exact hz2 s hs⟩
  ·have:q=j:=by omega
   subst this
   have:eq=e:=by simp[he]at hr;exact hr.symm
   subst this;exact⟨EC hp p2,fun s hs=>by rw[CL p2];exact h5 s hs⟩
 have Gf:∀s∈x.looks,(ft (r.take i) st0).slot s=(ft (r.take j) st0).slot s:=by
  intro s hs;rw[ez r i 0 st0,ez r j 0 st0]
  refine sv _ 0 st0 st0 rfl rfl fun q eq hr dW=>?_
  simp only[Nat.zero_add,ne_eq,decide_eq_decide]at dW;exact(b4 q eq hr (by omega) (by omega)).2 s hs
 have rq:∀k,aA (ft (r.take i) st0).mem k=aA (ft (r.take j) st0).mem k:=by
  intro k;rw[ez r i 0 st0,ez r j 0 st0]
  refine qV _ 0 st0 st0 rfl rfl fun q eq hr dW o ho=>?_
  simp only[Nat.zero_add,ne_eq,decide_eq_decide]at dW;rw[(b4 q eq hr (by omega) (by omega)).1]at ho;cases ho
 have Rz:∀n,(ft (r.take n) st0).base=st0.base∧(ft (r.take n) st0).mem.length=st0.mem.length:=by
  intro n;rw[ez r n 0 st0];exact⟨(kx _ _ _ _).1,(nY _ _ _ _).2⟩
 generalize sg:ft (r.take i) st0=si at q2 Gf rq;generalize hsj:ft (r.take j) st0=sj at p2 Gf rq;have MO:=Rz i;have hbj:=Rz j;rw[sg]at MO;rw[hsj]at hbj
 rcases q2 with⟨_,q2,_⟩|⟨q2,_,_⟩
 case inr=>rw[h4]at q2;cases q2
 rcases p2 with⟨_,p2,p3⟩|⟨p2,_,_⟩
 case inr=>rw[h2]at p2;cases p2
 rw[h3]at q2;rw[h1]at p2 p3;simp only[b6,St.ev]at q2 p2 p3;rw[Gf m uy.1,Gf t uy.2]at q2;unfold wD at q2;split at q2
 case h_2=>simp only[kV,de]at q2
 rename_i id hid;simp only[kV]at q2;obtain⟨ob,k1,q2⟩:=q2;rw[rq id]at k1;split at q2
 case h_2=>simp only[de]at q2
 rename_i rh vg kn rows;split at q2
 case h_2=>simp only[de]at q2
 rename_i yF;split at q2
 case h_2=>simp only[de]at q2
 rename_i kc zE;simp only[de]at q2;obtain⟨q3,q4,q5⟩:=q2
 have hb:(kg==rh)=true∧((PV.int kk n).isAgg==vg)=true:=by
  revert yF
  cases kg==rh<;>intro yF
  ·cases yF
  ·exact⟨rfl,yF⟩
 have Yy:∃fn,wC aG kg sh (.int kk n) false (sj.slot m) (sj.slot t)=.rd id fn∧∀rows,fn (.map rh vg kn rows)=.dH (aG.Ea sh kn rows kc) (vK false (uY aG vg kn rows kc (PV.int kk n).cells) (aG.Av kn rows kc)):=by
  unfold wC;rw[hid];refine⟨_,rfl,fun rows=>?_⟩;simp only[hb.1,hb.2,zE]
 obtain⟨fn,Yy,RA⟩:=Yy;rw[Yy]at p2 p3;simp only[kV,eE,k1,RA]at p2 p3;simp only[Option.some.injEq,exists_eq_left',RA]at p2;simp only[de,kM]at p2 p3;refine⟨id,.map rh vg kn (aG.ug kn rows kc (PV.int kk n).cells),by rw[q5],by rw[←MO.2];exact q3,?_,?_,fun st' hb Gg hm=>.inl ⟨by rw[h2];rfl,?_,?_⟩⟩
 ·rw[p3];exact sx rfl
 ·intro k hk;rw[p3]at hk;simp[fk,HT]at hk;split at hk
  ·rename_i hki;simpa using hki
  ·cases hk
 ·rw[h1];simp only[b6,St.ev];rw[←Gg m uy.1,←Gg t uy.2,Yy];simp only[kV,hm,Option.some.injEq,exists_eq_left',RA];simp only[de];obtain⟨w1,w2⟩:=Na (z:=(PV.int kk n).cells) q4;refine⟨w1,?_⟩;rw[p2.2];simp only[vK,uY];have w3:aG.Jj kn (aG.ug kn rows kc (PV.int kk n).cells) kc (PV.int kk n).cells=aG.Jj kn rows kc (PV.int kk n).cells:=w2;have w4:aG.zb kn (aG.ug kn rows kc (PV.int kk n).cells) kc (PV.int kk n).cells=aG.zb kn rows kc (PV.int kk n).cells:=congrArg (·.headD .nj) w2
  rw[w3,w4]
 ·rw[h1];simp only[b6,St.ev];rw[←Gg m uy.1,←Gg t uy.2,Yy];simp only[eE,hm,RA];simp only[kM];exact p3
theorem CP (bL:lt=iN ops.toList []):∀(j:Nat) o,ops[j]? =some o→∀k∈lt.getD j [],∃e∈o.after,Region.binds .any e=true∧(k=e.on∨k∈lt.getD e.on []):=by
 intro j o hj k hk;have:=(qc ops.toList []).2 j o (by simpa using hj) k (by rw[←bL];simpa using hk);simpa[←bL]using this
theorem tf (bL:lt=iN ops.toList []) {listed:Array Bool} (ED:∀i,listed.getD i false=true→∀k∈lt.getD i [],listed.getD k false=true) {j:Nat} (hj:j∈Region.ready .any ops listed):∀k∈lt.getD j [],listed.getD k false=true:=by
 obtain⟨h1,o,ho,hed⟩:=mem_ready.1 hj;intro k hk;obtain⟨ed,hm,hb,RB⟩:=CP bL j o ho k hk;have:=hed ed hm hb
 rcases RB with rfl|RB
 ·exact this
 ·exact ED _ this k RB
theorem A0 (eN:l.length=ops.size) (bL:lt=iN ops.toList []) (H9:iY l lt=true) (xl:Trace (ar P G) aG l (iO l lt) [] st0 r)
  (inv:Array Bool→Prop) (EE:Nat→Prop) (pr:∀j o,ops[j]? =some o→EE j→∃x,l[j]? =some x∧nP P G accs ops o=some x)
  (hinv:∀(listed:Array Bool) j,inv listed→EE j→inv (listed.setIfInBounds j true))
  (hfin:∀(listed:Array Bool),inv listed→listed.size=ops.size→(∀i,i<ops.size→listed.getD i false=true)→∀a' w',ie w0 own0 hvs G S0 (ft r st0) a' w'→Q .normal a' w')
  (EF:∀(fuel:Nat) (listed:Array Bool) (a:Act) (w:World) (j:Nat),inv listed→listed.size=ops.size→listed.toList.count false≤fuel+1→(∀i,listed.getD i false=true→∀k∈lt.getD i [],listed.getD k false=true)→
   j∈Region.ready .any ops listed→¬EE j→ie w0 own0 hvs G S0 (cS (fun i=>listed.getD i false) 0 (r.map (·.1)) st0) a w→wpOp P ops Q j (wpAny P .any ops Q fuel (listed.setIfInBounds j true)) a w):
  ∀(fuel:Nat) (listed:Array Bool) (a:Act) (w:World),inv listed→listed.size=ops.size→listed.toList.count false≤fuel→(∀i,listed.getD i false=true→∀k∈lt.getD i [],listed.getD k false=true)→
   ie w0 own0 hvs G S0 (cS (fun i=>listed.getD i false) 0 (r.map (·.1)) st0) a w→wpAny P .any ops Q fuel listed a w:=by
 obtain⟨Yz,MU⟩:=rF H9;have Nb:=qb xl;have px:r.length=ops.size:=Nb.1.trans eN;have hedge:=CP bL
 have bP:∀(listed:Array Bool) a w,inv listed→listed.size=ops.size→(∀i,i<ops.size→listed.getD i false=true)→ie w0 own0 hvs G S0 (cS (fun i=>listed.getD i false) 0 (r.map (·.1)) st0) a w→Q .normal a w:=by
  intro listed a w UR dZ hf hs;refine hfin listed UR dZ hf a w ?_;have e1:=ez r r.length 0 st0;rw[List.take_length]at e1;rw[e1]
  have e2:cS (fun i=>decide (i<0+r.length)) 0 (r.map (·.1)) st0=cS (fun i=>listed.getD i false) 0 (r.map (·.1)) st0:=
   ik _ _ _ fun i _ h2=>by
    rw[hf i (by simp at h2;omega),decide_eq_true (by simp at h2;omega)]
  rw[e2];exact hs
 have CQ:∀(listed:Array Bool),listed.size=ops.size→Region.ready .any ops listed=[]→∀i,i<ops.size→listed.getD i false=true:=by
  intro listed dZ hr i
  induction i using Nat.strongRecOn with
  |ind i ih=>
   intro hi
   cases hli:listed.getD i false with
   |true=>rfl
   |false=>
    exfalso
    have rq:i∈Region.ready .any ops listed:=by
     rw[mem_ready];refine⟨?_,ops[i],by simp[hi],fun e he hb=>?_⟩
     ·have:i<listed.size:=by omega
      simpa[this]using hli
     ·by_cases MP:e.on<i
      ·exact ih e.on MP (by omega)
      ·exfalso;have:=xi ops.toList [] i ops[i] (by simp[hi]) e he hb;rw[←bL]at this;exact MP (Yz i (by omega) e.on (by simpa using this))
    rw[hr]at rq;cases rq
 intro fuel
 induction fuel with
 |zero=>
  intro listed a w UR dZ Nc ED hs
  have hf:∀i,i<ops.size→listed.getD i false=true:=by
   intro i hi
   have hY:i<listed.size:=by omega
   have:false∉listed.toList:=List.count_eq_zero.1 (Nat.le_zero.1 Nc)
   cases hv:listed.getD i false with
   |true=>rfl
   |false=>
    exfalso;apply this;simp[hY]at hv;rw[←hv];simp
  refine⟨?_,bP listed a w UR dZ hf hs⟩;apply List.eq_nil_iff_forall_not_mem.2;intro i hi;obtain⟨h1,o,ho,_⟩:=mem_ready.1 hi;have hY:i<ops.size:=(Array.getElem?_eq_some_iff.1 ho).1;have:=hf i hY
  have hi'':i<listed.size:=by omega
  simp[hi'']at h1 this;rw[h1]at this;cases this
 |succ fuel ih=>
  intro listed a w UR dZ Nc ED hs;refine⟨fun hr=>bP listed a w UR dZ (CQ listed dZ hr) hs,fun j hj=>?_⟩
  by_cases J4:EE j
  case neg=>exact EF fuel listed a w j UR dZ Nc ED hj J4 hs
  obtain⟨h1,o,ho,hed⟩:=mem_ready.1 hj;have HZ:j<ops.size:=(Array.getElem?_eq_some_iff.1 ho).1
  have vP:j<listed.size:=by omega
  have US:listed.getD j false=false:=by simpa[vP]using h1
  obtain⟨x,hx,XD⟩:=pr j o (by simpa using ho) J4;obtain⟨e,f,he,Nd,hH⟩:=Nb.2 j x hx;have XE:=tf bL ED hj
  have Gh:∀(i:Nat) ei,(r.map (·.1))[i]? =some ei→decide (i<0+j)≠listed.getD i false→∃fi,r[i]? =some (ei,fi)∧i≠j∧(∀d,ei.d=some d→d∉x.looks∧x.d≠some d)∧(∀id ob,ei.m=some (id,ob)→fk f id=false∨(nQ l j i=true∧j<i))∧
    (∀id ob,ei.m=some (id,ob)→∀ob',e.m≠some (id,ob')):=by
   intro i ei hi dW
   have eQ:i<l.length:=by
    have:=(List.getElem?_eq_some_iff.1 hi).1;simp at this;omega
   have pI:i≠j:=by rintro rfl;simp[US]at dW
   have YA:l[i]? =some l[i]:=List.getElem?_eq_getElem eQ
   rcases Nat.lt_or_ge i j with Jt|B7
   ·have Nf:listed.getD i false=false:=by
     cases hv:listed.getD i false with
     |false=>rfl
     |true=>rw[hv,decide_eq_true (by omega)]at dW;exact absurd rfl dW
    have sQ:i∉lt.getD j []:=fun hm=>by rw[XE i hm]at Nf;cases Nf
    obtain⟨e1,f1,e2,f2,p1,p2,p3,p4,p5,p6,p7,p8⟩:=xk H9 xl Jt YA hx sQ;rw[he]at p2;cases p2
    have:ei=e1:=by simp[p1]at hi;exact hi.symm
    subst this;obtain⟨q1,q2⟩:=apart_spec p7
    have Gg:∀d,ei.d=some d→d∉x.looks∧x.d≠some d:=fun d hd=>by
     rw[p3]at hd;exact⟨q2 d hd,fun hxd=>(q1 d hxd).2 hd⟩
    rcases p8 with p8|p8
    case inr=>
     have v7:ei.m=none:=by
      obtain⟨e3,f3,r1,r2,_⟩:=Nb.2 i _ YA;rw[p1]at r1;cases r1;exact EC (mi YA hx p8).1 r2
     exact⟨f1,p1,pI,Gg,fun id ob hm=>absurd (v7▸hm) (by simp),fun id ob hm=>absurd (v7▸hm) (by simp)⟩
    obtain⟨q3,q4⟩:=vq p8;refine⟨f1,p1,pI,Gg,fun id ob hm=>.inl (q3 id (p5 id ob hm)),fun id ob hm ob' zG=>?_⟩
    ·have k1:=q3 id (p5 id ob hm);rw[oH (p6 id ob' zG)]at k1;cases k1
   ·have H2:j<i:=by omega
    have Nf:listed.getD i false=true:=by
     cases hv:listed.getD i false with
     |true=>rfl
     |false=>rw[hv,decide_eq_false (by omega)]at dW;exact absurd rfl dW
    have sQ:j∉lt.getD i []:=fun hm=>by rw[ED i Nf j hm]at US;cases US
    obtain⟨e1,f1,e2,f2,p1,p2,p3,p4,p5,p6,p7,p8⟩:=xk H9 xl H2 hx YA sQ;rw[he]at p1;cases p1
    have:ei=e2:=by simp[p2]at hi;exact hi.symm
    subst this;obtain⟨q1,q2⟩:=apart_spec p7
    have Gg:∀d,ei.d=some d→d∉x.looks∧x.d≠some d:=fun d hd=>by
     rw[p4]at hd;exact q1 d hd
    rcases p8 with p8|p8
    case inr=>
     have v7:e.m=none:=EC (mi hx YA p8).1 Nd;exact⟨f2,p2,pI,Gg,fun id ob hm=>.inr ⟨p8,H2⟩,fun id ob hm ob' zG=>by rw[v7]at zG;cases zG⟩
    obtain⟨q3,q4⟩:=vq p8;refine⟨f2,p2,pI,Gg,fun id ob hm=>.inl (q4 id (p6 id ob hm)),fun id ob hm ob' zG=>?_⟩
    ·have k1:=q4 id (p6 id ob hm);rw[oH (p5 id ob' zG)]at k1;cases k1
  have YB:I6 (ar P G) aG x (cS (fun i=>listed.getD i false) 0 (r.map (·.1)) st0) e f:=by
   have xm:∀t∈x.looks,(ft (r.take j) st0).slot t=(cS (fun i=>listed.getD i false) 0 (r.map (·.1)) st0).slot t:=by
    intro t ht;rw[ez r j 0 st0]
    refine sv _ 0 st0 st0 rfl rfl fun i ei hi dW hd=>?_
    simp only[Nat.zero_add]at dW;obtain⟨fi,k1,k2,k3,k4,k5⟩:=Gh i ei hi (by simpa using dW);exact(k3 t hd).1 ht
   by_cases RE:∃i,j<i∧listed.getD i false=true∧nQ l j i=true
   ·obtain⟨i,UK,Nf,H3⟩:=RE
    have XF:i<l.length:=by
     unfold nQ at H3;rw[hx]at H3;simp only at H3;split at H3
     ·rename_i y hy;exact(List.getElem?_eq_some_iff.1 hy).1
     ·cases H3
    obtain⟨ei,fi,Et,B9,_⟩:=Nb.2 i _ (List.getElem?_eq_getElem XF);obtain⟨id,o',m1,m2,m3,m4,m5⟩:=J3 xl hx (List.getElem?_eq_getElem XF) UK H3 he Et;refine m5 _ (kx _ _ _ _).1 xm ?_;refine xj (p:=fun i=>listed.getD i false) (r.map (·.1)) i 0 ei st0 (by simp[Et]) (by simp only[Nat.zero_add];exact Nf) m1 m2 ?_;intro q eq hiq hq hLq o'' hm'';simp only[Nat.zero_add]at hLq;obtain⟨fq,k1,k2,k3,k4,k5⟩:=Gh q eq hq (by rw[hLq,decide_eq_false (by omega)];decide)
    rcases k4 id o'' hm'' with k4|⟨k4,k6⟩
    ·rw[m3]at k4;cases k4
    ·have UT:q<l.length:=by
      have:=(List.getElem?_eq_some_iff.1 k1).1;omega
     obtain⟨z,XC,hz2,_⟩:=(mi hx (List.getElem?_eq_getElem UT) k4).2 i UK hiq;obtain⟨kg,sh,kk,n,m,t,_,_,h3,_⟩:=oJ (mi hx (List.getElem?_eq_getElem XF) H3).1;rw[List.getElem?_eq_getElem XF]at XC
     cases XC
     rw[h3]at hz2
     cases hz2
   ·rw[ez r j 0 st0]at Nd xm;refine J1 ?_ ?_ xm ?_ Nd
    ·rw[(kx _ _ _ _).1,(kx _ _ _ _).1]
    ·rw[(nY _ _ _ _).2,(nY _ _ _ _).2]
    ·intro id hid
     refine qV _ 0 st0 st0 rfl rfl fun i ei hi dW ob hm=>?_
     simp only[Nat.zero_add]at dW;obtain⟨fi,k1,k2,k3,k4,k5⟩:=Gh i ei hi (by simpa using dW)
     rcases k4 id ob hm with k4|⟨k4,k6⟩
     ·rw[k4]at hid;cases hid
     ·refine RE ⟨i,k6,?_,k4⟩
      cases hv:listed.getD i false with
      |true=>rfl
      |false=>rw[hv,decide_eq_false (by omega)]at dW;exact absurd rfl dW
  have pB:∀i,i≠j→listed.getD i false=(listed.setIfInBounds j true).getD i false:=fun i hi=>(getD_set_ne false (Ne.symm hi)).symm
  have J5:(listed.setIfInBounds j true).getD j false=true:=by simp[vP]
  have AG:cS (fun i=>(listed.setIfInBounds j true).getD i false) 0 (r.map (·.1)) st0=e.app (cS (fun i=>listed.getD i false) 0 (r.map (·.1)) st0):=by
   refine te (p:=fun i=>listed.getD i false) (j:=j) US J5 pB _ 0 st0 (Nat.zero_le _) (by simp[he]) ?_;intro i ei hi UK Nf;simp only[Nat.zero_add]at UK Nf;obtain⟨fi,k1,k2,k3,k4,k5⟩:=Gh i ei hi (by rw[Nf,decide_eq_false (by omega)];decide);refine⟨fun d hd I7=>?_,fun id o o' hm zG=>k5 id o' zG o hm⟩;exact(k3 d I7).2 (by rw[←CL Nd];exact hd)
  have tg:∀a' w',ie w0 own0 hvs G S0 (e.app (cS (fun i=>listed.getD i false) 0 (r.map (·.1)) st0)) a' w'→wpAny P .any ops Q fuel (listed.setIfInBounds j true) a' w':=by
   intro a' w' gX;refine ih _ a' w' (hinv listed j UR J4) (by simp[dZ]) ?_ ?_ (by rw[AG];exact gX)
   ·have hv:listed.toList[j]'(by simpa using vP)=false:=by simpa[vP]using US
    rw[Array.toList_setIfInBounds,List.count_set (by simpa using vP),hv];simp only[beq_self_eq_true,if_true];have:(true==false)=false:=rfl;simp only[this,Bool.false_eq_true,if_false];omega
   ·intro i hi k hk
    by_cases pI:i=j
    ·subst pI;exact getD_set_true (XE k hk)
    ·rw[←pB i pI]at hi;exact getD_set_true (ED i hi k hk)
  unfold wpOp;simp only[ho];obtain⟨op,c1,c2,c3,c4⟩:=nb XD
  rcases YB with⟨g1,g2,g3⟩|⟨g1,g2,g3⟩
  ·rw[qa hs XD g1];rw[c2,c3]at g2;exact .inl (Oper.wp_mono tg (Yv hs c1 g2))
  ·rw[qa hs XD g1];subst g2;refine tg _ _ ?_;rw[c2];exact zM hs o.dst
theorem UU (hc:fY P G accs ops ops.toList=some l) (bL:lt=iN ops.toList []) (H9:iY l lt=true) (xl:Trace (ar P G) aG l (iO l lt) [] st0 r)
  (hQ:∀a' w',ie w0 own0 hvs G S0 (ft r st0) a' w'→Q .normal a' w'):
  ∀(fuel:Nat) (listed:Array Bool) (a:Act) (w:World),listed.size=ops.size→listed.toList.count false≤fuel→(∀i,listed.getD i false=true→∀k∈lt.getD i [],listed.getD k false=true)→
   ie w0 own0 hvs G S0 (cS (fun i=>listed.getD i false) 0 (r.map (·.1)) st0) a w→wpAny P .any ops Q fuel listed a w:=by
 obtain⟨hlen,pr⟩:=nu hc;intro fuel listed a w;exact A0 (by simpa using hlen) bL H9 xl (fun _=>True) (fun _=>True) (fun j o ho _=>pr j o (by simpa using ho)) (fun _ _ _ _=>trivial) (fun _ _ _ _=>hQ) (fun _ _ _ _ _ _ _ _ _ _ h=>absurd trivial h) fuel listed a w trivial
theorem qW (p:Nat→Bool):∀(k:Nat) (l:List AI),(jC p k l).length=l.length
 |_,[]=>rfl
 |k,x::r=>by simp only[jC,List.length_cons,qW p (k+1) r]
theorem ky (p:Nat→Bool):∀(k:Nat) (l:List AI) (j:Nat),(jC p k l)[j]? =(l[j]?).map fun x=>match p (k+j)with|true=>L8|false=>x
 |_,[],j=>by simp[jC]
 |k,x::r,0=>rfl
 |k,x::r,j+1=>by
  simp only[jC,List.getElem?_cons_succ];rw[ky p (k+1) r j,show k+1+j=k+(j+1) by omega]
theorem zO (x:AI):L8.apart x=true∧x.apart L8=true:=by
 constructor<;>simp[AI.apart,L8,AI.looks,yB.looks,bN.sl]<;>cases x.d<;>simp
theorem vr {p:Nat→Bool} {l:List AI} {lt:List (List Nat)} (h:iY l lt=true):iY (jC p 0 l) lt=true:=by
 unfold iY at h ⊢;rw[qW];rw[List.all_eq_true]at h ⊢;intro i hi;have h:=h i hi;rw[Bool.and_eq_true]at h ⊢;refine⟨h.1,?_⟩;rw[List.all_eq_true];intro j hj;have h:=List.all_eq_true.1 h.2 j hj;rw[Bool.or_eq_true]at h ⊢
 refine h.imp id fun h=>?_
 rw[ky,ky]
 cases hx:l[i]? with
 |none=>rw[hx]at h;cases h
 |some x=>
  cases hy:l[j]? with
  |none=>rw[hx,hy]at h;cases h
  |some y=>
   rw[hx,hy]at h;simp only[Option.map_some]
   cases p (0+i)
   ·cases p (0+j)
    ·exact h
    ·exact(zO x).2
   ·exact(zO _).1
theorem xn:∀{l:List AI},zf l=true→∀(i:Nat) (x:AI),l[i]? =some x→∀kg sh z m k,x.op≠.uC kg sh z m k
 |[],_,i,x,hx=>by simp at hx
 |y::r,h,0,x,hx=>by
  simp only[List.getElem?_cons_zero,Option.some.injEq]at hx;subst hx;intro kg sh z m k he;unfold zf at h;rw[he]at h
  cases h
 |y::r,h,i+1,x,hx=>by
  unfold zf at h;split at h
  ·cases h
  ·exact xn h i x (by simpa using hx)
theorem J6 {l:List AI} (h:∀(i:Nat) (x:AI),l[i]? =some x→∀kg sh z m k,x.op≠.uC kg sh z m k) (j i:Nat):nQ l j i=false:=by
 cases hs:nQ l j i with
 |false=>rfl
 |true=>
  exfalso;unfold nQ at hs;split at hs
  ·split at hs
   ·rename_i y hy;split at hs
    ·rename_i hp;obtain⟨kg,sh,k,n,m,t,_,_,h3,_⟩:=oJ hp;exact h i y hy _ _ _ _ _ h3
    ·cases hs
   ·cases hs
  ·cases hs
theorem zQ {l:List AI} {lt:List (List Nat)} (h:∀j i,nQ l j i=false):iO l lt=(List.range lt.length).map fun i=>lt.getD i []:=by
 unfold iO
 refine List.map_congr_left fun i _=>?_
 rw[List.filter_eq_nil_iff.2 (fun j _=>by rw[h];exact Bool.false_ne_true),List.append_nil]
theorem EG (lt:List (List Nat)) (i:Nat):((List.range lt.length).map fun i=>lt.getD i []).getD i []=lt.getD i []:=by
 by_cases h:i<lt.length
 ·simp[List.getD_eq_getElem?_getD,h]
 ·simp[List.getD_eq_getElem?_getD,h]
theorem sA {p:Nat→Bool}:∀(es:List Ev) (k:Nat) (st:St),(∀i e,es[i]? =some e→p (k+i)=true→∀s,e.app s=s)→cS p k es st=st
 |[],_,_,_=>rfl
 |e::es,k,st,h=>by
  have h0:(match p k with|true=>e.app st|false=>st)=st:=by
   cases hp:p k with
   |false=>rfl
   |true=>exact h 0 e rfl (by simpa using hp) st
  have h1:∀s,s=st→cS p (k+1) es s=st:=by
   rintro s rfl
   exact sA es (k+1) s fun i e' he hp=>h (i+1) e' (by simpa using he) (by rwa [show k+(i+1)=k+1+i by omega])
  exact h1 _ h0
theorem Ng {C:FuncId→List PV→PV→Prop} {A:Ar} {st:St} {e:Ev} {f:eM} (h:I6 C A L8 st e f) (s:St):e.app s=s:=by
 rcases h with⟨_,h,_⟩|⟨h,_⟩
 ·simp only[L8,b6,kV,de]at h;subst h;rfl
 ·simp[L8,guardOf]at h
theorem Nh (hc:fY P G accs ops ops.toList=some l) (bL:lt=iN ops.toList []) (H9:iY l lt=true) {K:St→Prop} (h:Jn (ar P G) aG (bB P G) l (iO l lt) st0 K)
  (hQ:∀st' a' w',ie w0 own0 hvs G S0 st' a' w'→K st'→Q .normal a' w') (listed:Array Bool) (dZ:listed.size=ops.size) (v7:∀i,listed.getD i false=false) (a:Act) (w:World)
  (hs:ie w0 own0 hvs G S0 st0 a w):wpAny P .any ops Q ops.size listed a w:=by
 obtain⟨h0,c,x,XD,hxg,r,xl,hZ⟩:=h;obtain⟨hlen,pr⟩:=nu hc
 have eN:l.length=ops.size:=by simpa using hlen
 have YC:=xn h0
 have YD:∀(p:Nat→Bool) (i:Nat) (y:AI),(jC p 0 l)[i]? =some y→∀kg sh z m k,y.op≠.uC kg sh z m k:=by
  intro p i y hy kg sh z m k;rw[ky]at hy
  cases hl:l[i]? with
  |none=>rw[hl]at hy;cases hy
  |some z'=>
   rw[hl]at hy;simp only[Option.map_some,Option.some.injEq]at hy;split at hy
   ·subst hy;simp[L8]
   ·subst hy;exact YC i z' hl kg sh z m k
 have es:iO l lt=(List.range lt.length).map fun i=>lt.getD i []:=zQ (J6 YC)
 have esN:∀p,iO (jC p 0 l) lt=iO l lt:=fun p=>by rw[es];exact zQ (J6 (YD p))
 have gs:∀i,(iO l lt).getD i []=lt.getD i []:=fun i=>by rw[es];exact EG lt i
 have mj:c<ops.size:=by rw[←eN];exact(List.getElem?_eq_some_iff.1 XD).1
 refine A0 (w0:=w0) (own0:=own0) (hvs:=hvs) (S0:=S0) (accs:=accs) (l:=jC (fun i=>(i==c)||((iO l lt).getD i []).contains c) 0 l) (st0:=st0) (r:=r) (by rw[qW];exact eN) bL (vr H9) (by rw[esN];exact xl)
  (fun li=>li.getD c false=false) (fun j=>((j==c)||((iO l lt).getD j []).contains c)=false) ?_ ?_ ?_ ?_ ops.size listed a w (v7 c) dZ ?_ (fun i hi=>by rw[v7 i]at hi;cases hi) ?_
 ·intro j o ho hg;obtain⟨y,hy,hcy⟩:=pr j o (by simpa using ho);refine⟨y,?_,hcy⟩;rw[ky,hy];simp only[Option.map_some,Nat.zero_add,hg]
 ·intro li j hi hg
  have hjc:j≠c:=by
   rintro rfl;simp at hg
  rw[getD_set_ne false hjc];exact hi
 ·intro li hi lK bP;rw[bP c mj]at hi;cases hi
 ·intro fuel li a' w' j hi lK Nc ED hj hb gX;have XE:=tf bL ED hj
  obtain rfl:j=c:=by
   simp only[Bool.not_eq_false,Bool.or_eq_true,beq_iff_eq,List.contains_iff_mem]at hb
   rcases hb with hb|hb
   ·exact hb
   ·rw[gs]at hb;rw[XE c hb]at hi;cases hi
  obtain⟨h1,o,ho,hed⟩:=mem_ready.1 hj;obtain⟨y,hy,hcy⟩:=pr j o (by simpa using ho);rw[XD]at hy;cases hy;obtain⟨op,c1,c2,c3,c4⟩:=nb hcy
  have uv:∀i,li.toList.getD i false=li.getD i false:=fun i=>by simp[List.getD_eq_getElem?_getD,Array.getD_eq_getD_getElem?]
  have hz:zok l.length (iO l lt) j li.toList:=by
   refine⟨by simp[lK,eN],by rw[uv];exact hi,fun k hk=>?_,fun i hY hl k hk=>?_,fun i hY hm=>?_⟩
   ·rw[gs]at hk;rw[uv];exact XE k hk
   ·rw[gs]at hk;rw[uv]at hl ⊢;exact ED i hl k hk
   ·rw[gs]at hm;rw[uv]
    cases hv:li.getD i false with
    |false=>rfl
    |true=>rw[ED i hv j hm]at hi;cases hi
  have he:=hZ li.toList hz
  have hfe:(fun i=>li.toList.getD i false)=fun i=>li.getD i false:=funext uv
  rw[hfe]at he;unfold wpOp;simp only[ho]
  have hgu:guardOf (cS (fun i=>li.getD i false) 0 (r.map (·.1)) st0) x.g=some true:=by rw[hxg];rfl
  rw[qa gX hcy hgu];refine .inl (Oper.wp_mono ?_ (Rw gX c2 (by rw[c3];exact c1) he));rintro a2 w2 ⟨Md,B1,Ni⟩;obtain⟨r2,UW,hK2⟩:=oI Ni;have US:li.getD j false=false:=hi
  have vP:j<li.size:=by omega
  have pB:∀i,i≠j→li.getD i false=(li.setIfInBounds j true).getD i false:=fun i hi=>(getD_set_ne false (Ne.symm hi)).symm
  have J5:(li.setIfInBounds j true).getD j false=true:=by simp[vP]
  have hp2:∀i,((i==j)||li.getD i false)=(li.setIfInBounds j true).getD i false:=fun i=>by
   by_cases pI:i=j
   ·subst pI;rw[J5];simp
   ·rw[←pB i pI];simp[pI]
  have hfe2:(fun i=>(i==j)||li.toList.getD i false)=fun i=>(li.setIfInBounds j true).getD i false:=funext fun i=>by rw[uv];exact hp2 i
  rw[hfe2]at UW;have RF:=qb UW;refine A0 (w0:=w0) (own0:=own0) (hvs:=hvs) (S0:=S0) (accs:=accs) (l:=jC (fun i=>(li.setIfInBounds j true).getD i false) 0 l) (st0:=Md) (r:=r2) (by rw[qW];exact eN) bL (vr H9) (by rw[esN];exact UW)
   (fun l2=>∀i,(li.setIfInBounds j true).getD i false=true→l2.getD i false=true) (fun i=>(li.setIfInBounds j true).getD i false=false) ?_ ?_ ?_ ?_ fuel _ a2 w2 (fun i hi=>hi) (by simp[lK]) ?_ ?_ ?_
  ·intro i o' ho' hg;obtain⟨y,hy,hcy'⟩:=pr i o' (by simpa using ho');refine⟨y,?_,hcy'⟩;rw[ky,hy];simp only[Option.map_some,Nat.zero_add,hg]
  ·intro l2 i Nj hg k hk;exact getD_set_true (Nj k hk)
  ·intro l2 _ _ _ a3 w3 hs3;exact hQ _ _ _ hs3 hK2
  ·intro fuel' l2 a3 w3 i Nj hsz2 hcnt2 hdn2 hi3 sd hs3;exfalso;obtain⟨q1,o3,q2,_⟩:=mem_ready.1 hi3;have eQ:i<ops.size:=(Array.getElem?_eq_some_iff.1 q2).1
   have XF:i<l2.size:=by omega
   have q3:l2.getD i false=false:=by simpa[XF]using q1
   have q4:(li.setIfInBounds j true).getD i false=true:=by simpa using sd
   rw[Nj i q4]at q3;cases q3
  ·have hv:li.toList[j]'(by simpa using vP)=false:=by simpa[vP]using US
   rw[Array.toList_setIfInBounds,List.count_set (by simpa using vP),hv];simp only[beq_self_eq_true,if_true];have:(true==false)=false:=rfl;simp only[this,Bool.false_eq_true,if_false];omega
  ·intro i Nj k hk
   by_cases pI:i=j
   ·subst pI;exact getD_set_true (XE k hk)
   ·rw[←pB i pI]at Nj;exact getD_set_true (ED i Nj k hk)
  ·rw[sA (p:=fun i=>(li.setIfInBounds j true).getD i false) (r2.map (·.1)) 0 Md]
   ·exact B1
   ·intro i e JU hp s;simp only[Nat.zero_add]at hp
    have eQ:i<(jC (fun i=>(li.setIfInBounds j true).getD i false) 0 l).length:=by
     have h1:=(List.getElem?_eq_some_iff.1 JU).1;rw[List.length_map,RF.1]at h1;exact h1
    obtain⟨e',f',k1,k2,_⟩:=RF.2 i _ (List.getElem?_eq_getElem eQ)
    have hee:e=e':=by
     rw[List.getElem?_map,k1]at JU;simpa using JU.symm
    subst hee
    have hnop:(jC (fun i=>(li.setIfInBounds j true).getD i false) 0 l)[i]=L8:=by
     have h2:=ky (fun i=>(li.setIfInBounds j true).getD i false) 0 l i;rw[List.getElem?_eq_getElem eQ]at h2
     cases hl:l[i]? with
     |none=>rw[hl]at h2;cases h2
     |some z=>
      rw[hl]at h2;simp only[Option.map_some,Nat.zero_add,hp,Option.some.injEq]at h2;exact h2
    rw[hnop]at k2;exact Ng k2 s
 ·have h1:=List.count_le_length (a:=false) (l:=listed.toList)
  have h2:listed.toList.length=ops.size:=by simpa using dZ
  omega
 ·rw[ik (q:=fun _=>false) _ _ _ fun i _ _=>v7 i];rw[sA (p:=fun _=>false) _ _ _ fun i e _ hp=>by cases hp];exact hs
end
end Go.Am
end
section
namespace Go.Am
def wa (P:Program) (c:Code) (Q:Exit→Act→World→Prop) (a:Act) (w:World):Prop:=
 ∀(b:Frame) (k:List Go.Item) (cs:List Frame),∃e a' w',Q e a' w'∧Arrives P (lone (b.at a (.code c::.inLoop c::k)) cs w) b k cs e a' w'
theorem EH {P:Program} {c:Code} {Q:Exit→Act→World→Prop} {a:Act} {w:World} (h:wa P c Q a w):(Code.loop c).wp P Q a w:=by
 intro b k cs;obtain⟨e,a',w',hq,yL⟩:=h b k cs;exact⟨e,a',w',hq,.of_steps (.one step_loop) yL⟩
theorem yM {P:Program} {c:Code} {Q:Exit→Act→World→Prop} {a:Act} {w:World} (h:c.wp P (Exit.then (wa P c Q) Q) a w):wa P c Q a w:=by
 intro b k cs;obtain⟨e,a₁,w₁,hq,yL⟩:=h b (.inLoop c::k) cs
 cases e with
 |normal=>
  obtain⟨e₂,a₂,w₂,hq₂,yL₂⟩:=hq b k cs;exact⟨e₂,a₂,w₂,hq₂,.of_steps (Steps.trans yL (.one step_inLoop)) yL₂⟩
 |exit id=>exact⟨_,a₁,w₁,hq,.pass (x:=.inLoop c) rfl (fun _ _=>.inl (by simp)) yL⟩
 |goto l=>exact⟨_,a₁,w₁,hq,.pass (x:=.inLoop c) rfl (fun _ _=>.inl (by simp)) yL⟩
 |ret=>exact⟨_,a₁,w₁,hq,.pass (x:=.inLoop c) rfl (fun _ _=>.inl (by simp)) yL⟩
 |panic ch=>exact⟨_,a₁,w₁,hq,.pass (x:=.inLoop c) rfl (fun _ _=>.inl (by simp)) yL⟩
 |outgrown=>exact⟨_,a₁,w₁,hq,.pass (x:=.inLoop c) rfl (fun _ _=>.inl (by simp)) yL⟩
def Ex.conv:Ex→Exit
 |.normal=>.normal
 |.ret=>.ret
 |.exit id=>.exit id
section
variable {P:Program} {w0:World} {own0:Nat→Prop} {hvs:List Value} {G:Nat→Option (List PV)} {S0:Nat→Prop} {accs:List Nat}
theorem xo {st:St} {a:Act} {w w':World} (h:ie w0 own0 hvs G S0 st a w) (hh:w'.heap=w.heap) (ho:w'.os=w.os) (ht:w'.tape=w.tape) (jm:w'.output=w.output):ie w0 own0 hvs G S0 st a w':=by
 obtain⟨γ,S,bm,bd,h⟩:=h;exact⟨γ,S,bm,bd,(dj.grow h (w':=w') (S':=S) (fun b _=>by rw[hh]) (by rw[hh];exact Nat.le_refl _) ho ht jm (fun _ hb=>hb) (fun _ hb=>.inl hb)).1⟩
theorem A1 (hm:P.follows .mixedOrders=true):∀(c:Code) {ac:cT} {st:St} {a:Act} {w:World} {Qa:Ex→St→Prop} {Q:Exit→Act→World→Prop},dn P G accs c=some ac→ie w0 own0 hvs G S0 st a w→fw (ar P G) aG (bB P G) ac st Qa→
  (∀e st' a' w',ie w0 own0 hvs G S0 st' a' w'→Qa e st'→Q e.conv a' w')→c.wp P Q a w:=by
 intro c
 induction c with
 |skip=>intro ac st a w Qa Q hc hs h hq;simp only[dn,Option.some.injEq]at hc;subst hc;exact wp_skip (hq .normal _ _ _ hs h)
 |refuse s=>intro ac st a w Qa Q hc hs h hq;simp only[dn,Option.some.injEq]at hc;subst hc;simp[fw,bC,ia,pP,ox,b6,St.ev]at h
 |exit id=>intro ac st a w Qa Q hc hs h hq;simp only[dn,Option.some.injEq]at hc;subst hc;exact wp_exit (hq (.exit id) _ _ _ hs h)
 |ret=>intro ac st a w Qa Q hc hs h hq;simp only[dn,Option.some.injEq]at hc;subst hc;exact wp_ret (hq .ret _ _ _ hs h)
 |region id ops draw=>
  intro ac st a w Qa Q hc hs h hq
  cases draw with
  |false=>
   simp only[dn]at hc;obtain⟨l,hl,rfl⟩:=Option.map_eq_some_iff.1 hc;exact wp_region_list (Ez hl hs h fun st' a' w' gX hk=>hq .normal st' a' w' gX hk)
  |true=>
   simp only[dn]at hc;split at hc
   ·rename_i l hl;split at hc
    ·rename_i H9;simp only[Option.some.injEq]at hc;subst hc;obtain⟨s0,hf,h⟩:=h;have hs:=AR hf hs
     rcases h with h|h
     ·obtain⟨r,hr,hk⟩:=oI h;refine wp_region_any hm (UU (st0:=s0) hl rfl H9 hr (fun a' w' gX=>hq .normal _ a' w' gX hk) ops.size _ _ _ (by simp) ?_ ?_ ?_)
      ·simp
      ·intro i hi;simp[Array.getElem?_replicate]at hi;split at hi<;>simp at hi
      ·have:cS (fun i=>(Array.replicate ops.size false).getD i false) 0 (r.map (·.1)) s0=s0:=by
        have h0:=ez r 0 0 s0;simp only[List.take_zero,ft]at h0;refine Eq.trans (ik _ _ _ fun i _ _=>?_) h0.symm;simp[Array.getElem?_replicate];split<;>rfl
       rw[this];exact xo hs rfl rfl rfl rfl
     ·refine wp_region_any hm (Nh hl rfl H9 h (fun st' a' w' gX hk=>hq .normal st' a' w' gX hk) _ (by simp) ?_ _ _ (xo hs rfl rfl rfl rfl));intro i;simp[Array.getElem?_replicate];split<;>simp
    ·cases hc
   ·cases hc
 |seq x y ihx YE=>
  intro ac st a w Qa Q hc hs h hq;simp only[dn]at hc;split at hc
  ·rename_i ax hx;split at hc
   ·rename_i ay hy;simp only[Option.some.injEq]at hc;subst hc;refine wp_seq (ihx hx hs h ?_);intro e st' a' w' gX hk
    cases e with
    |normal=>exact YE hy gX hk hq
    |ret=>exact hq .ret _ _ _ gX hk
    |exit id=>exact hq (.exit id) _ _ _ gX hk
   ·cases hc
  ·cases hc
 |cond c x y ihx YE=>
  intro ac st a w Qa Q hc hs h hq;simp only[dn]at hc;split at hc
  ·rename_i c' Me;split at hc
   ·rename_i ax hx;split at hc
    ·rename_i ay hy;simp only[Option.some.injEq]at hc;subst hc;simp only[fw]at h;obtain⟨γ,S,bm,bd,hS⟩:=hs;have he:=hS.aj Me;have hs:ie w0 own0 hvs G S0 st a w:=⟨γ,S,bm,bd,hS⟩;split at h
     ·rename_i t ht;rw[ht]at he;simp only[aq,aJ]at he;refine wp_cond he ?_
      cases t with
      |true=>exact ihx hx hs h hq
      |false=>exact YE hy hs h hq
     ·exact h.elim
    ·cases hc
   ·cases hc
  ·cases hc
 |block id b ih=>
  intro ac st a w Qa Q hc hs h hq;simp only[dn]at hc;obtain⟨ab,hb,rfl⟩:=Option.map_eq_some_iff.1 hc;refine wp_block (ih hb hs h ?_);intro e st' a' w' gX hk
  cases e with
  |normal=>exact hq .normal _ _ _ gX hk
  |ret=>exact hq .ret _ _ _ gX hk
  |exit j=>
   simp only at hk;simp only[Ex.conv,Exit.inBlock]
   by_cases hj:j=id
   ·subst hj;simp only[beq_self_eq_true]at hk;simp only[if_true];exact hq .normal _ _ _ gX hk
   ·rw[if_neg hj];rw[beq_eq_false_iff_ne.2 hj]at hk;exact hq (.exit j) _ _ _ gX hk
 |loop b ih=>
  intro ac st a w Qa Q hc hs h hq;simp only[dn]at hc;obtain⟨ab,hb,rfl⟩:=Option.map_eq_some_iff.1 hc;refine EH (h (fun s=>∀a w,ie w0 own0 hvs G S0 s a w→wa P b Q a w) ?_ a w hs);intro s s0 hf bm a' w' th;refine yM (ih hb (AR hf th) bm ?_);intro e st' a'' DV gX hk
  cases e with
  |normal=>exact hk a'' DV gX
  |ret=>exact hq .ret _ _ _ gX hk
  |exit j=>exact hq (.exit j) _ _ _ gX hk
 |_=>intro ac st a w Qa Q hc;simp[dn]at hc
end
end Go.Am
end
