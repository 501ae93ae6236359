import Derived.Below
import Derived.Laws.StructEq
import Derived.Laws.Slices
import Derived.Laws.Cells
import Derived.Laws.World
import Derived.Test.YtfaccbkibjkfjaaGreatDoorT00
set_option linter.all false
set_option maxRecDepth 100000
set_option maxHeartbeats 1000000
section
namespace Go.Am
def At (w:World) (b:Nat):Option (Array Value):=
 match w.heap[b]? with
 |some (.cells c _ _)=>some c
 |_=>none
def YB (w:World) (b:Nat):Option (Array MapEntry×Nat):=
 match w.heap[b]? with
 |some (.map es ck)=>some (es,ck)
 |_=>none
def gm (es:List MapEntry) (ck:Nat):Prop:=(∀e∈es,e.born<ck)∧es.Pairwise (fun a b=>a.born<b.born)
def valOf (g:Bool) (vs:List Value):Value:=
 match g with
 |true=>.agg vs.toArray
 |false=>vs.headD (.agg #[])
def shapeOf (g:Bool) (n:Nat):Prop:=match g with|true=>True|false=>n=1
def aK (sz:Nat) (rows:List (List PV)):Prop:=∀r∈rows,r.length=sz
mutual
def aD (S:Nat→Prop) (w:World):PV→Value→Prop
 |.bool b,v=>v=.bool b
 |.int k n,v=>v=.int k n
 |.str s,v=>v=.string ⟨s.toArray⟩
 |.mh,v=>v=.pointer none
 |.yS,v=>v=.nilFunc
 |.j8,v=>v=.nilIface
 |.oh,v=>v=.map none
 |.gM f ps,v=>∃vs:List Value,v=.func (.func f) #[] vs.toArray∧aM S w ps vs
 |.iface t p,v=>∃v',v=.iface t v'∧aD S w p v'
 |.agg ps,v=>∃vs:List Value,v=.agg vs.toArray∧aM S w ps vs
 |.eN ps,v=>∃vs:List Value,v=.tuple vs.toArray∧aM S w ps vs
 |.sl rows spare,v=>∃a cap,v=.slice a rows.length cap∧rows.length+spare.length≤cap∧
   ((rows=[]∧spare=[])∨∃b off c sz,a=some ⟨b,off,none⟩∧S b∧At w b=some c∧aK sz rows∧aK sz spare∧
    bM S w rows c off∧bM S w spare c (off+rows.length*sz))
 |.ptr ps,v=>∃b off c,v=.pointer (some ⟨b,off,none⟩)∧S b∧At w b=some c∧dm S w ps c off
 |.mp kg vg kn rows,v=>∃b es ck,v=.map (some b)∧S b∧YB w b=some (es,ck)∧gm es.toList ck∧bV S w kg vg kn rows es.toList
def aM (S:Nat→Prop) (w:World):List PV→List Value→Prop
 |[],vs=>vs=[]
 |p::ps,vs=>∃v r,vs=v::r∧aD S w p v∧aM S w ps r
def dm (S:Nat→Prop) (w:World):List PV→Array Value→Nat→Prop
 |[],_,_=>True
 |p::ps,c,off=>(∃v,c[off]? =some v∧aD S w p v)∧dm S w ps c (off+1)
def bM (S:Nat→Prop) (w:World):List (List PV)→Array Value→Nat→Prop
 |[],_,_=>True
 |r::rs,c,off=>dm S w r c off∧bM S w rs c (off+r.length)
def bV (S:Nat→Prop) (w:World) (kg vg:Bool) (kn:Nat):List (List PV)→List MapEntry→Prop
 |[],es=>es=[]
 |r::rs,es=>∃e t kv vv,es=e::t∧aM S w r (kv++vv)∧kv.length=kn∧shapeOf kg kn∧shapeOf vg vv.length∧e.key=valOf kg kv∧e.val=valOf vg vv∧bV S w kg vg kn rs t
end
def bf (S:Nat→Prop) (w:World) (S':Nat→Prop) (w':World):Prop:=∀b,S b→S' b∧At w' b=At w b∧YB w' b=YB w b
theorem dC {w w':World} {b:Nat} (h:w'.heap[b]? =w.heap[b]?):At w' b=At w b∧YB w' b=YB w b:=by
 unfold At YB;rw[h];exact⟨rfl,rfl⟩
theorem bf.refl (S:Nat→Prop) (w:World):bf S w S w:=fun _ h=>⟨h,rfl,rfl⟩
theorem bf.trans {S S' S'':Nat→Prop} {w w' tA:World} (h:bf S w S' w') (h':bf S' w' S'' tA):bf S w S'' tA:=
 fun b hb=>⟨(h' b (h b hb).1).1,((h' b (h b hb).1).2.1).trans (h b hb).2.1,((h' b (h b hb).1).2.2).trans (h b hb).2.2⟩
section
variable {S S':Nat→Prop} {w w':World} (hl:bf S w S' w')
include hl
mutual
theorem aD.later:∀(p:PV) {v:Value},aD S w p v→aD S' w' p v
 |.bool _,_,h=>by simpa only[aD]using h
 |.int _ _,_,h=>by simpa only[aD]using h
 |.str _,_,h=>by simpa only[aD]using h
 |.mh,_,h=>by simpa only[aD]using h
 |.yS,_,h=>by simpa only[aD]using h
 |.j8,_,h=>by simpa only[aD]using h
 |.oh,_,h=>by simpa only[aD]using h
 |.gM f ps,_,h=>by
  simp only[aD]at h ⊢;obtain⟨vs,rfl,h⟩:=h;exact⟨vs,rfl,aM.later ps h⟩
 |.iface t p,_,h=>by
  simp only[aD]at h ⊢;obtain⟨v',rfl,h⟩:=h;exact⟨v',rfl,aD.later p h⟩
 |.agg ps,_,h=>by
  simp only[aD]at h ⊢;obtain⟨vs,rfl,h⟩:=h;exact⟨vs,rfl,aM.later ps h⟩
 |.eN ps,_,h=>by
  simp only[aD]at h ⊢;obtain⟨vs,rfl,h⟩:=h;exact⟨vs,rfl,aM.later ps h⟩
 |.sl rows spare,_,h=>by
  simp only[aD]at h ⊢;obtain⟨a,cap,rfl,hc,h⟩:=h;refine⟨a,cap,rfl,hc,?_⟩
  rcases h with h|⟨b,off,c,sz,ha,hs,hcell,h1,h2,h3,h4⟩
  ·exact .inl h
  ·exact .inr ⟨b,off,c,sz,ha,(hl b hs).1,(hl b hs).2.1.trans hcell,h1,h2,bM.later rows h3,bM.later spare h4⟩
 |.ptr ps,_,h=>by
  simp only[aD]at h ⊢;obtain⟨b,off,c,rfl,hs,hcell,h⟩:=h;exact⟨b,off,c,rfl,(hl b hs).1,(hl b hs).2.1.trans hcell,dm.later ps h⟩
 |.mp kg vg kn rows,_,h=>by
  simp only[aD]at h ⊢;obtain⟨b,es,ck,rfl,hs,hm,hb,h⟩:=h;exact⟨b,es,ck,rfl,(hl b hs).1,(hl b hs).2.2.trans hm,hb,bV.later rows h⟩
theorem aM.later:∀(ps:List PV) {vs:List Value},aM S w ps vs→aM S' w' ps vs
 |[],_,h=>by simpa only[aM]using h
 |p::ps,_,h=>by
  simp only[aM]at h ⊢;obtain⟨v,r,rfl,h1,h2⟩:=h;exact⟨v,r,rfl,aD.later p h1,aM.later ps h2⟩
theorem dm.later:∀(ps:List PV) {c:Array Value} {off:Nat},dm S w ps c off→dm S' w' ps c off
 |[],_,_,h=>by simp only[dm]
 |p::ps,_,_,h=>by
  simp only[dm]at h ⊢;obtain⟨⟨v,hv,h1⟩,h2⟩:=h;exact⟨⟨v,hv,aD.later p h1⟩,dm.later ps h2⟩
theorem bM.later:∀(rs:List (List PV)) {c:Array Value} {off:Nat},bM S w rs c off→bM S' w' rs c off
 |[],_,_,h=>by simp only[bM]
 |r::rs,_,_,h=>by
  simp only[bM]at h ⊢;exact⟨dm.later r h.1,bM.later rs h.2⟩
theorem bV.later {kg vg:Bool} {kn:Nat}:∀(rs:List (List PV)) {es:List MapEntry},bV S w kg vg kn rs es→bV S' w' kg vg kn rs es
 |[],_,h=>by simpa only[bV]using h
 |r::rs,_,h=>by
  simp only[bV]at h ⊢;obtain⟨e,t,kv,vv,rfl,h1,h2,h3,h4,h5,h6,h7⟩:=h;exact⟨e,t,kv,vv,rfl,aM.later r h1,h2,h3,h4,h5,h6,bV.later rs h7⟩
end
end
section
variable (S:Nat→Prop) (w:World) (ρ:AV→Value→Prop)
mutual
def lF:AV→Value→Prop
 |.pv p,v=>aD S w p v
 |.agg cs,v=>∃vs:List Value,v=.agg vs.toArray∧au cs vs
 |.eN cs,v=>∃vs:List Value,v=.tuple vs.toArray∧au cs vs
 |.gM f cs,v=>∃vs:List Value,v=.func (.func f) #[] vs.toArray∧au cs vs
 |.c8 id bq,v=>ρ (.c8 id bq) v
 |.ptr id off,v=>ρ (.ptr id off) v
 |.cR id bq j off,v=>ρ (.cR id bq j off) v
 |.fQ row off,v=>∃b o c,v=.pointer (some ⟨b,o+off,none⟩)∧S b∧At w b=some c∧dm S w row c o
 |.full rows,v=>∃a,v=.slice a rows.length rows.length∧
   (rows=[]∨∃b off c sz,a=some ⟨b,off,none⟩∧S b∧At w b=some c∧aK sz rows∧bM S w rows c off)
 |.Ay f cs,v=>∃vs:List Value,v=.func (.func f) vs.toArray #[]∧au cs vs
 |.dt id,v=>ρ (.dt id) v
 |.eT id i,v=>ρ (.eT id i) v
 |.kM rows,v=>∃a,v=.slice a rows.length rows.length∧
   (rows=[]∨∃b off c sz,a=some ⟨b,off,none⟩∧S b∧At w b=some c∧(∀r∈rows,r.length=sz)∧bU rows c off)
 |.iU _,v=>v=.pointer none
 |.dead,_=>True
def au:List AV→List Value→Prop
 |[],vs=>vs=[]
 |x::xs,vs=>∃v r,vs=v::r∧lF x v∧au xs r
def bB:List AV→Array Value→Nat→Prop
 |[],_,_=>True
 |x::xs,c,off=>(∃v,c[off]? =some v∧lF x v)∧bB xs c (off+1)
def bU:List (List AV)→Array Value→Nat→Prop
 |[],_,_=>True
 |r::rs,c,off=>bB r c off∧bU rs c (off+r.length)
end
end
section
variable {S S':Nat→Prop} {w w':World} {ρ ρ':AV→Value→Prop} (hl:bf S w S' w') (hρ:∀x v,ρ x v→ρ' x v)
include hl hρ
mutual
theorem lF.later:∀(x:AV) {v:Value},lF S w ρ x v→lF S' w' ρ' x v
 |.pv p,_,h=>by simp only[lF]at h ⊢;exact aD.later hl p h
 |.agg cs,_,h=>by simp only[lF]at h ⊢;obtain⟨vs,rfl,h⟩:=h;exact⟨vs,rfl,au.later cs h⟩
 |.eN cs,_,h=>by simp only[lF]at h ⊢;obtain⟨vs,rfl,h⟩:=h;exact⟨vs,rfl,au.later cs h⟩
 |.gM f cs,_,h=>by simp only[lF]at h ⊢;obtain⟨vs,rfl,h⟩:=h;exact⟨vs,rfl,au.later cs h⟩
 |.c8 id bq,_,h=>by simp only[lF]at h ⊢;exact hρ _ _ h
 |.ptr id off,_,h=>by simp only[lF]at h ⊢;exact hρ _ _ h
 |.cR id bq j off,_,h=>by simp only[lF]at h ⊢;exact hρ _ _ h
 |.fQ row off,_,h=>by
  simp only[lF]at h ⊢;obtain⟨b,o,c,rfl,hs,hc,h⟩:=h;exact⟨b,o,c,rfl,(hl b hs).1,(hl b hs).2.1.trans hc,dm.later hl row h⟩
 |.full rows,_,h=>by
  simp only[lF]at h ⊢;obtain⟨a,rfl,h⟩:=h;refine⟨a,rfl,h.imp id ?_⟩;rintro⟨b,off,c,sz,ha,hs,hc,h1,h2⟩;exact⟨b,off,c,sz,ha,(hl b hs).1,(hl b hs).2.1.trans hc,h1,bM.later hl rows h2⟩
 |.Ay f cs,_,h=>by simp only[lF]at h ⊢;obtain⟨vs,rfl,h⟩:=h;exact⟨vs,rfl,au.later cs h⟩
 |.dt id,_,h=>by simp only[lF]at h ⊢;exact hρ _ _ h
 |.eT id i,_,h=>by simp only[lF]at h ⊢;exact hρ _ _ h
 |.kM rows,_,h=>by
  simp only[lF]at h ⊢;obtain⟨a,rfl,h⟩:=h;refine⟨a,rfl,h.imp id ?_⟩;rintro⟨b,off,c,sz,ha,hs,hc,h1,h2⟩;exact⟨b,off,c,sz,ha,(hl b hs).1,(hl b hs).2.1.trans hc,h1,bU.qN rows h2⟩
 |.iU _,_,h=>by simpa only[lF]using h
 |.dead,_,_=>by simp only[lF]
theorem au.later:∀(xs:List AV) {vs:List Value},au S w ρ xs vs→au S' w' ρ' xs vs
 |[],_,h=>by simpa only[au]using h
 |x::xs,_,h=>by
  simp only[au]at h ⊢;obtain⟨v,r,rfl,h1,h2⟩:=h;exact⟨v,r,rfl,lF.later x h1,au.later xs h2⟩
theorem bB.qN:∀(xs:List AV) {c:Array Value} {o:Nat},bB S w ρ xs c o→bB S' w' ρ' xs c o
 |[],_,_,h=>by simp only[bB]
 |x::xs,_,_,h=>by
  simp only[bB]at h ⊢;obtain⟨⟨v,hv,h1⟩,h2⟩:=h;exact⟨⟨v,hv,lF.later x h1⟩,bB.qN xs h2⟩
theorem bU.qN:∀(rs:List (List AV)) {c:Array Value} {o:Nat},bU S w ρ rs c o→bU S' w' ρ' rs c o
 |[],_,_,h=>by simp only[bU]
 |r::rs,_,_,h=>by
  simp only[bU]at h ⊢;exact⟨bB.qN r h.1,bU.qN rs h.2⟩
end
end
def Ref (γ:Nat→Option Nat) (S:Nat→Prop) (w:World) (mem:List (Option Obj)):AV→Value→Prop
 |.c8 id bq,v=>match aj mem id with
  |some (.rows sz rs bm)=>(bq≤bm∧v.oneCell'=true)∧(bq=bm→∃a cap,v=.slice a rs.length cap∧rs.length≤cap∧
    (cap=0∨∃b c,γ id=some b∧a=some ⟨b,0,none⟩∧At w b=some c∧c.size=cap*sz))
  |some (.cg sz rs bm)=>(bq≤bm∧v.oneCell'=true)∧(bq=bm→∃a cap,v=.slice a rs.length cap∧rs.length≤cap∧
    (cap=0∨∃b c,γ id=some b∧a=some ⟨b,0,none⟩∧At w b=some c∧c.size=cap*sz))
  |some (.cL _ rs bm)=>(bq≤bm∧v.oneCell'=true)∧(bq=bm→∃a cap,v=.slice a rs.length cap∧rs.length≤cap∧
    (cap=0∨∃b c,γ id=some b∧a=some ⟨b,0,none⟩∧At w b=some c∧c.size=cap*1))
  |some (.eO rs bm)=>(bq≤bm∧v.oneCell'=true)∧(bq=bm→aD S w (.sl rs []) v)
  |_=>False
 |.ptr id off,v=>match aj mem id with
  |some (.cells _)=>∃b,γ id=some b∧v=.pointer (some ⟨b,off,none⟩)
  |some (.fz _ _)=>∃b,γ id=some b∧v=.pointer (some ⟨b,off,none⟩)
  |some (.eu _ _)=>∃b,γ id=some b∧v=.pointer (some ⟨b,off,none⟩)
  |_=>False
 |.cR id bq j off,v=>match aj mem id with
  |some (.rows sz rs bm)=>(bq≤bm∧v.oneCell'=true)∧(bq=bm→∃b,γ id=some b∧v=.pointer (some ⟨b,j.toNat*sz+off,none⟩)∧0≤j∧j<rs.length)
  |some (.cg sz rs bm)=>(bq≤bm∧v.oneCell'=true)∧(bq=bm→∃b,γ id=some b∧v=.pointer (some ⟨b,j.toNat*sz+off,none⟩)∧0≤j∧j<rs.length)
  |some (.cL _ rs bm)=>(bq≤bm∧v.oneCell'=true)∧(bq=bm→∃b,γ id=some b∧v=.pointer (some ⟨b,j.toNat*1+off,none⟩)∧0≤j∧j<rs.length)
  |some (.eO rs bm)=>(bq≤bm∧v.oneCell'=true)∧(bq=bm→∃b o c,v=.pointer (some ⟨b,o+off,none⟩)∧S b∧At w b=some c∧dm S w (rs.getD j.toNat []) c o∧0≤j∧j<rs.length)
  |_=>False
 |.dt id,v=>match aj mem id with
  |some (.map ..)=>∃b,γ id=some b∧v=.map (some b)
  |some (.iw _)=>∃b,γ id=some b∧v=.map (some b)
  |_=>False
 |.eT id i,v=>match aj mem id with
  |some (.map ..)=>v.oneCell'=true∧∃b es ck e,γ id=some b∧YB w b=some (es,ck)∧0≤i∧es[i.toNat]? =some e∧v=goInt e.born
  |_=>False
 |_,_=>True
def fM (S:Nat→Prop) (w:World) (ρ:AV→Value→Prop):List (List UInt8×AV)→List MapEntry→Prop
 |[],es=>es=[]
 |(s,x)::r,es=>∃e t,es=e::t∧e.key=.string ⟨s.toArray⟩∧lF S w ρ x e.val∧fM S w ρ r t
theorem fM.later {S S':Nat→Prop} {w w':World} {ρ ρ':AV→Value→Prop} (hl:bf S w S' w') (hρ:∀x v,ρ x v→ρ' x v):∀{rs:List (List UInt8×AV)} {es:List MapEntry},fM S w ρ rs es→fM S' w' ρ' rs es
 |[],_,h=>by simpa only[fM]using h
 |(s,x)::r,_,h=>by
  simp only[fM]at h ⊢;obtain⟨e,t,rfl,h1,h2,h3⟩:=h;exact⟨e,t,rfl,h1,lF.later hl hρ x h2,fM.later hl hρ h3⟩
def eK (γ:Nat→Option Nat) (S:Nat→Prop) (w:World) (ρ:AV→Value→Prop) (id:Nat):Obj→Prop
 |.cells cs=>∃b c e,γ id=some b∧w.heap[b]? =some (.cells c e (0,0))∧c.size=cs.length∧bB S w ρ cs c 0∧∀t r,cs=.iU t::r→e=t
 |.cL t rs _=>(γ id=none∧rs=[])∨∃b c,γ id=some b∧w.heap[b]? =some (.cells c t (0,0))∧rs.length*1≤c.size∧aK 1 rs∧bM S w rs c 0
 |.rows sz rs _=>(γ id=none∧rs=[])∨∃b c e,γ id=some b∧w.heap[b]? =some (.cells c e (0,0))∧rs.length*sz≤c.size∧aK sz rs∧bM S w rs c 0
 |.cg sz rs _=>(γ id=none∧rs=[])∨∃b c e,γ id=some b∧w.heap[b]? =some (.cells c e (0,0))∧rs.length*sz≤c.size∧(∀r∈rs,r.length=sz)∧bU S w ρ rs c 0
 |.eO _ _=>True
 |.map kg vg kn rows=>∃b es ck,γ id=some b∧w.heap[b]? =some (.map es ck)∧gm es.toList ck∧bV S w kg vg kn rows es.toList
 |.iw rows=>∃b es ck,γ id=some b∧w.heap[b]? =some (.map es ck)∧gm es.toList ck∧fM S w ρ rows es.toList
 |.fz s pos=>∃b,γ id=some b∧w.heap[b]? =some (.stringIter ⟨s.toArray⟩ pos.toNat)∧0≤pos
 |.eu src seen=>match src with
  |.oh=>∃b,γ id=some b∧w.heap[b]? =some (.mapIter none 0 #[] 0)
  |.mp kg vg kn rows=>∃b mb es ck HZ,γ id=some b∧w.heap[b]? =some (.mapIter (some mb) ck HZ ck)∧S mb∧YB w mb=some (es,ck)∧gm es.toList ck∧bV S w kg vg kn rows es.toList∧
    (∀i e,es[i]? =some e→HZ.contains e.born=seen.contains i)∧∀i r,seen=i::r→∃e,es[i]? =some e∧HZ.back? =some e.born
  |_=>False
structure dW (w0:World) (own0:Nat→Prop) (hvs:List Value×List Deferred) (G:Nat→Option (List PV)) (γ:Nat→Option Nat) (S:Nat→Prop) (st:St) (a:Act) (w:World):Prop where
 size:st.slots.length=a.tmps.size
 slot:∀i,lF S w (Ref γ S w st.mem) (st.slot i) (a.tmps.getD i undef)
 held:au S w (Ref γ S w st.mem) st.held hvs.1
 defers:a.defers=hvs.2
 mem:∀id ob,aj st.mem id=some ob→eK γ S w (Ref γ S w st.mem) id ob
 lU:∀i b,γ i=some b→aj st.mem i≠none
 inj:∀i j b,γ i=some b→γ j=some b→i=j
 own:∀i b,γ i=some b→¬S b∧(w0.heap.size≤b∨own0 b)
 bound:∀b,S b→b<w.heap.size
 eJ:∀i b,γ i=some b→b<w.heap.size
 jn:∀g row,G g=some row→S g∧∃c,At w g=some c∧dm S w row c 0∧c.size=row.length
 kept:∀b,b<w0.heap.size→¬own0 b→w.heap[b]? =w0.heap[b]?
 os:w.os=w0.os
 tape:w.tape=w0.tape
 output:w.output=w0.output
 eY:w0.heap.size≤w.heap.size
def ft (w0:World) (own0:Nat→Prop) (hvs:List Value×List Deferred) (G:Nat→Option (List PV)) (S0:Nat→Prop) (st:St) (a:Act) (w:World):Prop:=
 ∃γ S,(∀b,S0 b→S b)∧(∀b,S b→S0 b∨w0.heap.size≤b∨own0 b)∧dW w0 own0 hvs G γ S st a w
theorem qO {S:Nat→Prop} {w:World} {v:Value} {p:PV} (h:k9 v=some p):aD S w p v:=by
 unfold k9 at h;split at h
 ·cases h;simp only[aD]
 ·cases h;simp only[aD]
 ·rename_i a;cases h;cases a;simp[aD]
 ·cases h;simp only[aD]
 ·cases h;simp only[aD]
 ·cases h;simp only[aD]
 ·cases h;simp only[aD]
 ·cases h;simp only[aD];exact⟨none,0,rfl,by simp,.inl ⟨trivial,trivial⟩⟩
 ·rename_i f first caps
  split at h
  ·rename_i h1 h2
   cases h
   simp only[aD,aM];refine⟨[],?_,rfl⟩
   have e1:first=#[]:=by simpa using h1
   have e2:caps=#[]:=by simpa using h2
   rw[e1,e2]
  ·cases h
 ·cases h
theorem H0 {v:Value} (h:uh v=some (.sl [] [])):v=.slice none 0 0:=by
 unfold uh at h;split at h
 ·split at h<;>simp at h
 ·unfold k9 at h
  split at h<;>try(simp at h;done)
  ·rfl
  ·split at h<;>simp at h
theorem tB {S:Nat→Prop} {w:World}:∀{vs:List Value} {ps:List PV},jx vs=some ps→aM S w ps vs
 |[],ps,h=>by simp only[jx,qaa]at h;subst h;simp only[aM]
 |v::r,ps,h=>by
  simp only[jx]at h
  cases h1:k9 v with
  |none=>simp[h1]at h
  |some p=>
   cases h2:jx r with
   |none=>simp[h1,h2]at h
   |some q=>
    simp only[h1,h2,qaa]at h;subst h;simp only[aM];exact⟨v,r,rfl,qO h1,tB h2⟩
theorem u9 {S:Nat→Prop} {w:World} {v:Value} {p:PV} (h:uh v=some p):aD S w p v:=by
 unfold uh at h;split at h
 ·rename_i cs
  cases h1:jx cs.toList with
  |none=>simp[h1]at h
  |some q=>
   simp only[h1,qaa]at h;subst h;simp only[aD];exact⟨cs.toList,by simp,tB h1⟩
 ·exact qO h
section
variable {w0:World} {own0:Nat→Prop} {hvs:List Value×List Deferred} {G:Nat→Option (List PV)} {γ:Nat→Option Nat} {S:Nat→Prop} {st:St} {a:Act} {w:World}
theorem dW.fR (h:dW w0 own0 hvs G γ S st a w) {o:Operand} {x:bR} (hx:aZ G o=some x):
  lF S w (Ref γ S w st.mem) (st.ev x) (a.eval o):=by
 cases o with
 |tmp t=>simp only[aZ,qaa]at hx;subst hx;exact h.slot t
 |const v=>
  simp only[aZ]at hx
  cases hp:uh v with
  |none=>simp[hp]at hx
  |some p=>
   simp only[hp,qaM,qaa]at hx;subst hx;have hr:aD S w p v:=u9 hp;show lF S w (Ref γ S w st.mem) (st.ev (.k p)) v
   by_cases hn:p=.sl [] []
   ·subst hn;have hv:=H0 hp;subst hv;simp only[St.ev,lF];exact⟨none,rfl,.inl trivial⟩
   ·have e:st.ev (.k p)=.pv p:=by
     unfold St.ev;split
     ·rename_i heq;cases heq
     ·rename_i heq;cases heq;exact absurd rfl hn
     ·rename_i heq;cases heq;rfl
     ·rename_i heq;cases heq
    rw[e];simp only[lF];exact hr
 |global g=>
  simp only[aZ]at hx
  cases hg:G g with
  |none=>simp[hg]at hx
  |some row=>
   simp only[hg,qaM,qaa]at hx;subst hx;obtain⟨hs,c,hc,hr,_⟩:=h.jn g row hg;simp only[St.ev,lF,Act.eval];exact⟨g,0,c,rfl,hs,hc,hr⟩
 |func f=>
  simp only[aZ,qaa]at hx;subst hx;simp only[St.ev,lF,aD,aM,Act.eval];exact⟨[],rfl,rfl⟩
theorem dW.put (h:dW w0 own0 hvs G γ S st a w) (d:Option Nat) {v:AV} {u:Value} (hv:lF S w (Ref γ S w st.mem) v u):
  dW w0 own0 hvs G γ S (st.put d v) (a.put d u) w:=by
 cases d with
 |none=>exact h
 |some d=>
  refine{h with size:=?_,slot:=?_,held:=h.held,defers:=h.defers}
  ·simp[St.put,Act.put,h.size]
  ·intro i;have hi:=h.slot i;simp only[St.put,Act.put,St.slot]at*
   by_cases hd:i=d
   ·subst hd
    by_cases bO:i<st.slots.length
    ·have C2:i<a.tmps.size:=h.size▸bO
     have e1:(st.slots.set i v).getD i .dead=v:=by simp[qab,bO]
     have e2:(a.tmps.setIfInBounds i u).getD i undef=u:=by simp[qaJ,C2]
     rw[e1,e2];exact hv
    ·have e1:st.slots.set i v=st.slots:=List.set_eq_of_length_le (by omega);have e2:a.tmps.setIfInBounds i u=a.tmps:=Array.setIfInBounds_eq_of_size_le (by rw[←h.size];omega);rw[e1,e2];exact hi
   ·have e1:(st.slots.set d v).getD i .dead=st.slots.getD i .dead:=by
     simp[qab,qbF (qbN hd)]
    have e2:(a.tmps.setIfInBounds d u).getD i undef=a.tmps.getD i undef:=by
     simp only[qaJ,qbe (qbN hd)]
    rw[e1,e2];exact hi
end
end Go.Am
end
section
namespace Go.Am
def JK:List PV→List PV→Bool
 |[],[]=>true
 |.bool a::r,.bool b::s=>(a==b)&&JK r s
 |.int _ a::r,.int _ b::s=>(a==b)&&JK r s
 |.str a::r,.str b::s=>(a==b)&&JK r s
 |_,_=>false
def aR:List Nat→List PV→List PV→Prop
 |[],[],[]=>True
 |0::sh,.bool _::r,.bool _::s=>aR sh r s
 |1::sh,.int k _::r,.int k' _::s=>k=k'∧aR sh r s
 |2::sh,.str _::r,.str _::s=>aR sh r s
 |_,_,_=>False
def fS (sz:Nat) (rows:List (List PV)):Prop:=∀r∈rows,r.length=sz∧∀p∈r,(AV.pv p).one=true
def dQ (kn:Nat) (rows:List (List PV)) (k:List PV):Bool:=rows.any fun r=>JK k (r.take kn)
def fb (kn:Nat) (rows:List (List PV)) (k:List PV):Nat:=rows.findIdx fun r=>JK k (r.take kn)
def jy (kn:Nat) (rows:List (List PV)) (k z:List PV):List PV:=
 match rows.find? fun r=>JK k (r.take kn)with
 |some r=>r.drop kn
 |none=>z
def jz (g:Bool) (ps:List PV):PV:=match g with|true=>.agg ps|false=>ps.headD .mh
def aF:Ar:={
 wrap:=IntKind.wrap
 add:=(·+·)
 sub:=(·-·)
 mul:=(·*·)
 quo:=Int.tdiv
 rem:=Int.tmod
 bits op k x y:=
  let a:=BitVec.ofInt k.bits x
  let b:=BitVec.ofInt k.bits y
  k.wrap ((match op with|.and=>(a&&&b)|.or=>(a|||b)|.xor=>(a^^^b)|_=>(a&&&~~~b)).toNat:Nat)
 shl k x y:=k.wrap (x*2^(min y.toNat k.bits))
 shr k x y:=x.fdiv (2^(min y.toNat k.bits))
 lt a b:=decide (a<b)
 le a b:=decide (a≤b)
 eq a b:=decide (a=b)
 not b:= !b
 min a b:=if b<a then b else a
 max a b:=if b>a then b else a
 nz n:=n≠0
 CY n:=0≤n
 ofNat n:=n
 wY s:=s.length
 sat s j:=((s.getD j.toNat 0).toNat:Nat)
 sin j s:=0≤j∧j<s.length
 Lm a b:=a++b
 Ln a b:=a.length+b.length≤9223372036854775807
 Lp s l h:=(s.drop l.toNat).take (h.toNat-l.toNat)
 sbd l h s:=0≤l∧l≤h∧h≤s.length
 seq a b:=decide (a=b)
 slt a b:=Op.bytesLess a b
 mi rows:=rows.length
 rat rows j:=rows.getD j.toNat []
 tu j rows sz:=0≤j∧j<rows.length∧(rows.getD j.toNat []).length=sz
 oi a b:=a++b
 oj xs ys bytes sz:=(xs.length+ys.length+256)*bytes≤2^46∧xs.length+ys.length≤2^46∧fS sz ys∧aK sz xs
 Qn xs ys:=xs=[]∨ys≠[]
 Xf:=JK
 HP:=aR
 bytes s:=s.map fun b=>[.int .u8 (b.toNat:Nat)]
 gN rows:=rows.map fun r=>match r with|[.int _ n]=>UInt8.ofNat n.toNat|_=>0
 qE rows:=∀r∈rows,∃n,r=[.int .u8 n]
 uS rows l h:=(rows.drop l.toNat).take (h.toNat-l.toNat)
 Xg l h rows spare sz:=0≤l∧l≤h∧h≤rows.length+spare.length∧(l=0∨aK sz (rows++spare))
 wZ l h rows sz:=0≤l∧l≤h∧h≤rows.length∧(l=0∨aK sz rows)
 Gt rows j off ys:=rows.set j.toNat (jL off ys (rows.getD j.toNat []))
 AK n z:=List.replicate n.toNat z
 WD l c bytes:=0≤l∧l≤c∧c*bytes≤2^47∧c≤2^47
 aat rs j:=rs.getD j.toNat []
 ain j rs sz:=0≤j∧j<rs.length∧(rs.getD j.toNat []).length=sz
 Lq rs j off ys:=rs.set j.toNat (place off ys (rs.getD j.toNat []))
 yT a b:=a++b
 AL xs ys bytes sz:=(xs.length+ys.length+256)*bytes≤2^46∧xs.length+ys.length≤2^46∧(∀r∈ys,r.length=sz∧kE r=true)∧(∀r∈xs,r.length=sz)
 Lr rs:=rs.length
 off j sz:=j.toNat*sz
 PS j n:=0≤j∧j<n
 CZ sh kn rows k:=k.length=kn∧aR sh k k∧∀r∈rows,aR sh k (r.take kn)
 yU:=dQ
 HR:=jy
 xJ kn rows k z:=(jy kn rows k z).headD .mh
 mix kn rows k:=(fb kn rows k:Nat)
 HS kn rows k v:=match dQ kn rows k with|true=>rows.modify (fb kn rows k) (fun _=>k++v)|false=>rows++[k++v]
 sK kn rows k z:=match dQ kn rows k with|true=>rows|false=>rows++[k++z]
 PT kn rows i v:=rows.modify i.toNat (fun r=>r.take kn++v)
 min1 i rows:=0≤i∧i<rows.length
 mleft seen rows i:=i<rows.length∧seen.contains i=false
 AM seen rows:=(List.range rows.length).all fun i=>seen.contains i
 Ls kg kn rows i:=jz kg ((rows.getD i []).take kn)
 Lt vg kn rows i:=jz vg ((rows.getD i []).drop kn)
 rune s pos:=(Utf8.decode ⟨s.toArray⟩ pos.toNat).1
 C0 s pos:=((Utf8.decode ⟨s.toArray⟩ pos.toNat).2:Nat)
 Lu a b:=a+b
 }
section
variable (P:Program) (w0:World) (own0:Nat→Prop) (hvs:List Value×List Deferred) (G:Nat→Option (List PV)) (S0:Nat→Prop)
def oo (o:Oper) (a:Act) (w:World) (st':St) (v:AV):Prop:=
 ∃u w' γ' S',((execOp a.eval o).run P w=.ok (.value u) w'∨((execOp a.eval o).run P w=.ok .skip w'∧u=undef))∧
  (∀b,S0 b→S' b)∧(∀b,S' b→S0 b∨w0.heap.size≤b∨own0 b)∧dW w0 own0 hvs G γ' S' st' a w'∧lF S' w' (Ref γ' S' w' st'.mem) v u
def ep (o:Oper) (a:Act) (w:World) (st:St) (kn:Nat) (γ:Nat→Option Nat) (S:Nat→Prop):Out→Prop
 |.bad=>True
 |.val v=>oo P w0 own0 hvs G S0 o a w st v
 |.dG p v=>p→oo P w0 own0 hvs G S0 o a w st v
 |.dp id ob v=>oo P w0 own0 hvs G S0 o a w (st.aq id ob) v
 |.ix p id ob v=>p→oo P w0 own0 hvs G S0 o a w (st.aq id ob) v
 |.new ob v=>aj st.mem kn=none→kn≤st.mem.length→oo P w0 own0 hvs G S0 o a w (st.aq kn ob) v
 |.jK p ob v=>aj st.mem kn=none→kn≤st.mem.length→p→oo P w0 own0 hvs G S0 o a w (st.aq kn ob) v
 |.call f args=>∃vs:List Value,(execOp a.eval o).run P w=(callFunc f vs.toArray).run P w∧au S w (Ref γ S w st.mem) args vs
 |.all p id ob v=>∃i,p i∧oo P w0 own0 hvs G S0 o a w (st.aq id (ob i)) (v i)
def cj (o:Oper) (a:Act) (w:World) (st:St) (kn:Nat) (γ:Nat→Option Nat) (S:Nat→Prop):sE→Prop
 |.pure out=>ep P w0 own0 hvs G S0 o a w st kn γ S out
 |.rd id k=>∀ob,aj st.mem id=some ob→ep P w0 own0 hvs G S0 o a w st kn γ S (k ob)
end
section
variable {P:Program} {w0:World} {own0:Nat→Prop} {hvs:List Value×List Deferred} {G:Nat→Option (List PV)} {S0:Nat→Prop} {accs:List Nat}
 {γ:Nat→Option Nat} {S:Nat→Prop} {st:St} {a:Act} {w:World} {o:Oper} {kn:Nat}
 (h:dW w0 own0 hvs G γ S st a w) (bg:∀b,S0 b→S b) (Cy:∀b,S b→S0 b∨w0.heap.size≤b∨own0 b)
include h bg Cy
theorem aG {u:Value} {v:AV} (hr:(execOp a.eval o).run P w=.ok (.value u) w) (hv:lF S w (Ref γ S w st.mem) v u):oo P w0 own0 hvs G S0 o a w st v:=
 ⟨u,w,γ,S,.inl hr,bg,Cy,h,hv⟩
theorem Qs {x:Operand} {x':bR} (ho:o.op=.move x∨o.op=.assign x) (hx:aZ G x=some x'):
  cj P w0 own0 hvs G S0 o a w st kn γ S (KA aF kn (.mv x') st.ev):=by
 refine aG h bg Cy (u:=a.eval x) ?_ (h.fR hx)
 rcases ho with ho|ho<;>simp[execOp,ho]
theorem Lz {c x y:Operand} {c' x' y':bR} (ho:o.op=.pick c x y) (hc:aZ G c=some c') (hx:aZ G x=some x') (hy:aZ G y=some y'):
  cj P w0 own0 hvs G S0 o a w st kn γ S (KA aF kn (.pick c' x' y') st.ev):=by
 simp only[KA];have h1:=h.fR hc;split
 ·rename_i bZ;rw[bZ]at h1;simp only[lF,aD]at h1;exact aG h bg Cy (u:=a.eval x) (by simp[execOp,ho,h1,asBool]) (h.fR hx)
 ·rename_i bZ;rw[bZ]at h1;simp only[lF,aD]at h1;exact aG h bg Cy (u:=a.eval y) (by simp[execOp,ho,h1,asBool]) (h.fR hy)
 ·trivial
theorem S5 {s d:TypeId} {x:Operand} {x':bR} {k k':IntKind} (ho:o.op=.convert s d x) (hs:P.underlying s=some (.int k')) (hd:P.underlying d=some (.int k)) (hx:aZ G x=some x'):
  cj P w0 own0 hvs G S0 o a w st kn γ S (KA aF kn (.Wt k x') st.ev):=by
 simp only[KA];have h1:=h.fR hx;split
 ·rename_i n bZ;rw[bZ]at h1;simp only[lF,aD]at h1;exact aG h bg Cy (u:=.int k (k.wrap n)) (by simp[execOp,ho,convert,run_underlying,hs,hd,h1,Conv.intToInt]) (by simp only[lF,aD,aF])
 ·trivial
theorem Xk {op:UnOp} {t:TypeId} {x:Operand} {x':bR} (ho:o.op=.unOp op t x) (hx:aZ G x=some x'):
  cj P w0 own0 hvs G S0 o a w st kn γ S (KA aF kn (.un op x') st.ev):=by
 simp only[KA,Lv];have h1:=h.fR hx;split
 ·rename_i bZ;rw[bZ]at h1;simp only[lF,aD]at h1;exact aG h bg Cy (u:=.bool false) (by simp[execOp,ho,h1,Op.unary]) (by simp only[lF,aD])
 ·rename_i bZ;rw[bZ]at h1;simp only[lF,aD]at h1;exact aG h bg Cy (u:=.bool true) (by simp[execOp,ho,h1,Op.unary]) (by simp only[lF,aD])
 ·rename_i k n bZ;rw[bZ]at h1;simp only[lF,aD]at h1;exact aG h bg Cy (u:=.int k (k.wrap (0-n))) (by simp[execOp,ho,h1,Op.unary,Op.intArith]) (by simp only[lF,aD,aF])
 ·trivial
theorem S6 {x:Operand} {x':bR} {i:Nat} (ho:o.op=.extract x i) (hx:aZ G x=some x'):
  cj P w0 own0 hvs G S0 o a w st kn γ S (KA aF kn (.ext x' i) st.ev):=by
 simp only[KA];have h1:=h.fR hx;split
 ·rename_i vs bZ;rw[bZ]at h1;simp only[lF,aD]at h1;obtain⟨us,he,hl⟩:=h1;split
  ·rename_i v hv
   have key:∀(ps:List PV) (us:List Value) (i:Nat) (v:PV),aM S w ps us→ps[i]? =some v→∃u,us[i]? =some u∧aD S w v u:=by
    intro ps
    induction ps with
    |nil=>intro us i v _ hv;simp at hv
    |cons p ps ih=>
     intro us i v hl hv;simp only[aM]at hl;obtain⟨u,r,rfl,h1,h2⟩:=hl
     cases i with
     |zero=>simp only[qay,qaa]at hv;subst hv;exact⟨u,rfl,h1⟩
     |succ i=>simpa using ih r i v h2 (by simpa using hv)
   obtain⟨u,hu,hr⟩:=key vs us i v hl hv;exact aG h bg Cy (u:=u) (by simp[execOp,ho,he,Instr.extract,hu]) (by simp only[lF];exact hr)
  ·trivial
 ·rename_i vs bZ;rw[bZ]at h1;simp only[lF]at h1;obtain⟨us,he,hl⟩:=h1;split
  ·rename_i v hv
   have key:∀(ps:List AV) (us:List Value) (i:Nat) (v:AV),au S w (Ref γ S w st.mem) ps us→ps[i]? =some v→∃u,us[i]? =some u∧lF S w (Ref γ S w st.mem) v u:=by
    intro ps
    induction ps with
    |nil=>intro us i v _ hv;simp at hv
    |cons p ps ih=>
     intro us i v hl hv;simp only[au]at hl;obtain⟨u,r,rfl,h1,h2⟩:=hl
     cases i with
     |zero=>simp only[qay,qaa]at hv;subst hv;exact⟨u,rfl,h1⟩
     |succ i=>simpa using ih r i v h2 (by simpa using hv)
   obtain⟨u,hu,hr⟩:=key vs us i v hl hv;exact aG h bg Cy (u:=u) (by simp[execOp,ho,he,Instr.extract,hu]) hr
  ·trivial
 ·trivial
theorem S7 {t:TypeId} {x i:Operand} {x' i':bR} (ho:o.op=.index t x i) (ht:P.underlying t=some .string) (hx:aZ G x=some x') (hi:aZ G i=some i'):
  cj P w0 own0 hvs G S0 o a w st kn γ S (KA aF kn (.SL x' i') st.ev):=by
 simp only[KA];have h1:=h.fR hx;have h2:=h.fR hi;split
 ·rename_i s k j bZ kG;rw[bZ]at h1;rw[kG]at h2;simp only[lF,aD]at h1 h2;rintro⟨tC,kD⟩
  have bO:j.toNat<s.length:=by omega
  refine aG h bg Cy (u:=.int .u8 (s.getD j.toNat 0).toNat) ?_ (by simp only[lF,aD,aF])
  have lf:(ByteArray.mk s.toArray)[j.toNat]? =some s[j.toNat]:=by
   rw[getElem?_pos _ _ (by simpa[ByteArray.size]using bO)];rfl
  have hd:s.getD j.toNat 0=s[j.toNat]:=by rw[qab,qag bO];rfl
  simp only[execOp,ho,h1,h2,Instr.index,asIntOf,Sem.run_bind,Sem.run_pure,Result.andThen_ok,run_underlying ht,qao tC,lf,hd]
 ·trivial
theorem S8 {t:TypeId} {x:Operand} {x':bR} (ho:o.op=.makeInterface t x) (ht:∃d,P.underlying t=some d∧∀ms,d≠.interface ms) (hx:aZ G x=some x')
  (Xl:∀y p v,AV.flat y=some p→lF S w (Ref γ S w st.mem) y v→aD S w p v):
  cj P w0 own0 hvs G S0 o a w st kn γ S (KA aF kn (.Wv t x') st.ev):=by
 simp only[KA];have h1:=h.fR hx;split
 ·rename_i p hp;obtain⟨d,hd,hn⟩:=ht;refine aG h bg Cy (u:=.iface t (a.eval x)) ?_ (by simp only[lF,aD];exact⟨_,rfl,Xl _ _ _ hp h1⟩);simp only[execOp,ho,Instr.makeInterface,Sem.run_bind,run_underlying hd,Result.andThen_ok]
  cases d<;>first|rfl|exact absurd rfl (hn _)
 ·trivial
theorem S9 {s:TypeId} {x:Operand} {x':bR} {f:Nat} {fs:Array Field} {fd:Field} {ti:TypeInfo} (ho:o.op=.fieldAddr s x f) (hs:P.underlying s=some (.struct fs)) (hf:fs[f]? =some fd)
  (hti:P.info? fd.type=some ti) (hn:ti.size≠0) (hx:aZ G x=some x'):
  cj P w0 own0 hvs G S0 o a w st kn γ S (KA aF kn (.pad x' fd.offset) st.ev):=by
 have bN:∀b off,a.eval x=.pointer (some ⟨b,off,none⟩)→(execOp a.eval o).run P w=.ok (.value (.pointer (some ⟨b,off+fd.offset,none⟩))) w:=by
  intro b off he;simp only[execOp,ho,he,Instr.fieldAt,Sem.run_bind,run_underlying hs,Result.andThen_ok,hf,Instr.sureAddr,Sem.run_pure,fieldPlace,sizeOf,typeInfo,run_program,hti,hn,qaW,Addr.add]
  by_cases hz:fd.offset=0<;>simp[hz]
 simp only[KA];have h1:=h.fR hx;split
 ·rename_i id off bZ;rw[bZ]at h1;simp only[lF,Ref]at h1;split at h1
  ·rename_i cs hm;obtain⟨b,hb,he⟩:=h1;refine aG h bg Cy (bN b off he) ?_;simp only[lF,Ref,hm];exact⟨b,hb,rfl⟩
  ·rename_i cs hm;obtain⟨b,hb,he⟩:=h1;refine aG h bg Cy (bN b off he) ?_;simp only[lF,Ref,hm];exact⟨b,hb,rfl⟩
  ·rename_i cs hm;obtain⟨b,hb,he⟩:=h1;refine aG h bg Cy (bN b off he) ?_;simp only[lF,Ref,hm];exact⟨b,hb,rfl⟩
  ·exact h1.elim
 ·rename_i row off bZ;rw[bZ]at h1;simp only[lF]at h1;obtain⟨b,o',c,he,hb,hc,hr⟩:=h1;refine aG h bg Cy (bN b _ he) ?_;simp only[lF];exact⟨b,o',c,by rw[qcg],hb,hc,hr⟩
 ·rename_i id bq j off bZ;rw[bZ]at h1;simp only[lF,Ref]at h1;intro ob bL;simp only[bL]at h1
  cases ob with
  |cells cs=>trivial
  |map=>trivial
  |iw=>trivial
  |fz=>trivial
  |cL=>trivial
  |eu=>trivial
  |rows sz rs bm=>
   by_cases hv:bq=bm
   ·subst hv;simp only[qau];obtain⟨b,hb,he,hj⟩:=h1.2 rfl;refine aG h bg Cy (bN b _ he) ?_;simp only[lF,Ref,bL];exact⟨⟨qak _,rfl⟩,fun _=>⟨b,hb,by rw[qcg],hj⟩⟩
   ·simp only[qar.2 hv];trivial
  |cg sz rs bm=>
   by_cases hv:bq=bm
   ·subst hv;simp only[qau];obtain⟨b,hb,he,hj⟩:=h1.2 rfl;refine aG h bg Cy (bN b _ he) ?_;simp only[lF,Ref,bL];exact⟨⟨qak _,rfl⟩,fun _=>⟨b,hb,by rw[qcg],hj⟩⟩
   ·simp only[qar.2 hv];trivial
  |eO rs bm=>
   by_cases hv:bq=bm
   ·subst hv;simp only[qau];obtain⟨b,o',c,he,hb,hc,hr⟩:=h1.2 rfl;refine aG h bg Cy (bN b _ he) ?_;simp only[lF,Ref,bL];exact⟨⟨qak _,rfl⟩,fun _=>⟨b,o',c,by rw[qcg],hb,hc,hr⟩⟩
   ·simp only[qar.2 hv];trivial
 ·rename_i row bZ;rw[bZ]at h1;simp only[lF,aD]at h1;obtain⟨b,off,c,he,hb,hc,hr⟩:=h1;refine aG h bg Cy (bN b _ he) ?_;simp only[lF];exact⟨b,off,c,rfl,hb,hc,hr⟩
 ·trivial
end
end Go.Am
end
section
namespace Go.Am
section
variable {P:Program} {w0:World} {own0:Nat→Prop} {hvs:List Value×List Deferred} {G:Nat→Option (List PV)} {S0:Nat→Prop} {accs:List Nat}
 {γ:Nat→Option Nat} {S:Nat→Prop} {st:St} {a:Act} {w:World} {o:Oper} {kn:Nat}
 (h:dW w0 own0 hvs G γ S st a w) (bg:∀b,S0 b→S b) (Cy:∀b,S b→S0 b∨w0.heap.size≤b∨own0 b)
theorem kP (s:List UInt8):(ByteArray.mk s.toArray).toList=s:=by rw[ByteArray.toList_eq]
theorem AY (op:BinOp) (t:TypeId) (x y:Operand) (hc:(isConst x||isConst y)=true):(eqGuard op t x y .nilIface .nilIface).run P w=.ok () w:=by
 simp only[eqGuard]
 cases op<;>first|rfl|(cases x<;>cases y<;>first|rfl|exact Bool.noConfusion hc)
theorem C3 {t u:TypeId} {v:Value} {ms:Array (String×TypeId)} (d:Nat) (ht:P.underlying t=some (.interface ms)):(Op.equalIn (d+1) t .nilIface .nilIface).run P w=.ok true w:=by
 simp only[Op.equalIn,Sem.run_bind,run_underlying ht,Result.andThen_ok,Sem.run_pure]
theorem mP {t u:TypeId} {v:Value} {ms:Array (String×TypeId)} (ht:P.underlying t=some (.interface ms)):(Op.equal t .nilIface .nilIface).run P w=.ok true w:=C3 (u:=u) (v:=v) 9999 ht
theorem C4 {t u:TypeId} {v:Value} {ms:Array (String×TypeId)} (d:Nat) (ht:P.underlying t=some (.interface ms)):(Op.equalIn (d+1) t .nilIface (.iface u v)).run P w=.ok false w:=by
 simp only[Op.equalIn,Sem.run_bind,run_underlying ht,Result.andThen_ok,Sem.run_pure]
theorem mQ {t u:TypeId} {v:Value} {ms:Array (String×TypeId)} (ht:P.underlying t=some (.interface ms)):(Op.equal t .nilIface (.iface u v)).run P w=.ok false w:=C4 (u:=u) (v:=v) 9999 ht
theorem C5 {t u:TypeId} {v:Value} {ms:Array (String×TypeId)} (d:Nat) (ht:P.underlying t=some (.interface ms)):(Op.equalIn (d+1) t (.iface u v) .nilIface).run P w=.ok false w:=by
 simp only[Op.equalIn,Sem.run_bind,run_underlying ht,Result.andThen_ok,Sem.run_pure]
theorem mR {t u:TypeId} {v:Value} {ms:Array (String×TypeId)} (ht:P.underlying t=some (.interface ms)):(Op.equal t (.iface u v) .nilIface).run P w=.ok false w:=C5 (u:=u) (v:=v) 9999 ht
theorem EN (m n:List UInt8):(m==n)=decide (m=n):=by rw[qbX];simp
theorem fE:∀(x:AV) {p:PV} {v:Value},AV.flat x=some p→lF S w (Ref γ S w st.mem) x v→aD S w p v:=by
 have hL:∀(cs:List AV) {ps:List PV} {vs:List Value},AV.lQ cs=some ps→au S w (Ref γ S w st.mem) cs vs→aM S w ps vs:=by
  intro cs
  induction cs with
  |nil=>intro ps vs he hr;simp only[AV.lQ,qaa]at he;subst he;simpa only[au,aM]using hr
  |cons c cs ih=>
   intro ps vs he hr;simp only[au]at hr;obtain⟨v,r,rfl,h1,h2⟩:=hr
   cases c with
   |pv p=>
    simp only[AV.lQ]at he;split at he
    ·rename_i q hq;simp only[qaa]at he;subst he;simp only[lF]at h1;simp only[aM];exact⟨v,r,rfl,h1,ih hq h2⟩
    ·simp at he
   |full rows=>
    simp only[AV.lQ]at he;split at he
    ·rename_i q hq;simp only[qaa]at he;subst he;simp only[lF]at h1;simp only[aM];refine⟨v,r,rfl,?_,ih hq h2⟩;simp only[aD];obtain⟨a0,rfl,h1⟩:=h1;refine⟨a0,_,rfl,by simp,?_⟩
     rcases h1 with h1|⟨b,off,c,sz,ha,hs,hc,h3,h4⟩
     ·exact .inl ⟨h1,trivial⟩
     ·exact .inr ⟨b,off,c,sz,ha,hs,hc,h3,by simp[aK],h4,by simp only[bM]⟩
    ·simp at he
   |_=>simp[AV.lQ]at he
 intro x p v hp hr
 cases x with
 |pv q=>simp only[AV.flat,qaa]at hp;subst hp;simpa only[lF]using hr
 |full rows=>
  simp only[AV.flat,qaa]at hp;subst hp;simp only[lF]at hr;simp only[aD];obtain⟨a0,rfl,h1⟩:=hr;refine⟨a0,_,rfl,by simp,?_⟩
  rcases h1 with h1|⟨b,off,c,sz,ha,hs,hc,h3,h4⟩
  ·exact .inl ⟨h1,trivial⟩
  ·exact .inr ⟨b,off,c,sz,ha,hs,hc,h3,by simp[aK],h4,by simp only[bM]⟩
 |agg cs=>
  simp only[AV.flat]at hp;split at hp
  ·rename_i q hq;simp only[qaa]at hp;subst hp;simp only[lF]at hr;obtain⟨vs,rfl,hr⟩:=hr;simp only[aD];exact⟨vs,rfl,hL cs hq hr⟩
  ·simp at hp
 |gM f cs=>
  simp only[AV.flat]at hp;split at hp
  ·rename_i q hq;simp only[qaa]at hp;subst hp;simp only[lF]at hr;obtain⟨vs,rfl,hr⟩:=hr;simp only[aD];exact⟨vs,rfl,hL cs hq hr⟩
  ·simp at hp
 |_=>simp[AV.flat]at hp
include h bg Cy
theorem C6 {op:BinOp} {t ty:TypeId} {x y:Operand} {k k':IntKind} {m n:Int} (ho:o.op=.binOp op t x y ty) (hx:a.eval x=.int k m) (hy:a.eval y=.int k' n):
  ep P w0 own0 hvs G S0 o a w st kn γ S (match(generalizing:=false) op with
   |.shl=>.dG (aF.CY n) (.pv (.int k (aF.shl k m n)))
   |.shr=>.dG (aF.CY n) (.pv (.int k (aF.shr k m n)))
   |op=>if k=k' then uT aF op k m n else .bad):=by
 have hg:∀op,(eqGuard op t x y (.int k m) (.int k' n)).run P w=.ok () w:=by intro op;simp only[eqGuard];cases op<;>rfl
 have bN:∀v,(binOp op t (.int k m) (.int k' n)).run P w=.ok v w→(execOp a.eval o).run P w=.ok (.value v) w:=by
  intro v hv;simp only[execOp,ho,hx,hy,Sem.run_bind,hg,Result.andThen_ok,hv,Sem.run_pure]
 have done:∀v p,(binOp op t (.int k m) (.int k' n)).run P w=.ok v w→aD S w p v→oo P w0 own0 hvs G S0 o a w st (.pv p):=
  fun v p hv hr=>aG h bg Cy (bN v hv) (by simpa only[lF]using hr)
 by_cases hk:k=k'
 ·subst hk
  cases op with
  |shl=>intro hn;exact done _ _ (by simp only[aF]at hn;simp only[binOp,Op.shift];rw[qai (by omega)];rfl) (by simp only[aD,aF])
  |shr=>intro hn;exact done _ _ (by simp only[aF]at hn;simp only[binOp,Op.shift];rw[qai (by omega)];rfl) (by simp only[aD,aF])
  |add=>show ep P w0 own0 hvs G S0 o a w st kn γ S (if k=k then _ else _);rw[qao rfl];exact done _ _ (by simp only[binOp,ne_eq,qa5,qaW,Op.intArith];rfl) (by simp only[aD,aF])
  |sub=>show ep P w0 own0 hvs G S0 o a w st kn γ S (if k=k then _ else _);rw[qao rfl];exact done _ _ (by simp only[binOp,ne_eq,qa5,qaW,Op.intArith];rfl) (by simp only[aD,aF])
  |mul=>show ep P w0 own0 hvs G S0 o a w st kn γ S (if k=k then _ else _);rw[qao rfl];exact done _ _ (by simp only[binOp,ne_eq,qa5,qaW,Op.intArith];rfl) (by simp only[aD,aF])
  |quo=>show ep P w0 own0 hvs G S0 o a w st kn γ S (if k=k then _ else _);rw[qao rfl];intro hn;exact done _ _ (by simp only[aF]at hn;simp only[binOp,ne_eq,qa5,qaW,Op.intDiv,hn];rfl) (by simp only[aD,aF])
  |rem=>show ep P w0 own0 hvs G S0 o a w st kn γ S (if k=k then _ else _);rw[qao rfl];intro hn;exact done _ _ (by simp only[aF]at hn;simp only[binOp,ne_eq,qa5,qaW,Op.intDiv,hn];rfl) (by simp only[aD,aF])
  |lss=>show ep P w0 own0 hvs G S0 o a w st kn γ S (if k=k then _ else _);rw[qao rfl];exact done _ _ (by simp only[binOp,ne_eq,qa5,qaW,Op.intCmp];rfl) (by simp only[aD,aF])
  |leq=>show ep P w0 own0 hvs G S0 o a w st kn γ S (if k=k then _ else _);rw[qao rfl];exact done _ _ (by simp only[binOp,ne_eq,qa5,qaW,Op.intCmp];rfl) (by simp only[aD,aF])
  |gtr=>show ep P w0 own0 hvs G S0 o a w st kn γ S (if k=k then _ else _);rw[qao rfl];exact done _ _ (by simp only[binOp,ne_eq,qa5,qaW,Op.intCmp];rfl) (by simp only[aD,aF,gt_iff_lt])
  |geq=>show ep P w0 own0 hvs G S0 o a w st kn γ S (if k=k then _ else _);rw[qao rfl];exact done _ _ (by simp only[binOp,ne_eq,qa5,qaW,Op.intCmp];rfl) (by simp only[aD,aF,ge_iff_le])
  |eql=>show ep P w0 own0 hvs G S0 o a w st kn γ S (if k=k then _ else _);rw[qao rfl];exact done (.bool (m==n)) _ (by simp only[binOp,ne_eq,qa5,qaW,Op.intCmp];rfl) (by simp only[aD,aF];rfl)
  |neq=>show ep P w0 own0 hvs G S0 o a w st kn γ S (if k=k then _ else _);rw[qao rfl];exact done (.bool (m !=n)) _ (by simp only[binOp,ne_eq,qa5,qaW,Op.intCmp];rfl) (by simp only[aD,aF];rfl)
  |and=>show ep P w0 own0 hvs G S0 o a w st kn γ S (if k=k then _ else _);rw[qao rfl];exact done _ _ (by simp only[binOp,ne_eq,qa5,qaW,Op.intBits];rfl) (by simp only[aD,aF])
  |or=>show ep P w0 own0 hvs G S0 o a w st kn γ S (if k=k then _ else _);rw[qao rfl];exact done _ _ (by simp only[binOp,ne_eq,qa5,qaW,Op.intBits];rfl) (by simp only[aD,aF])
  |xor=>show ep P w0 own0 hvs G S0 o a w st kn γ S (if k=k then _ else _);rw[qao rfl];exact done _ _ (by simp only[binOp,ne_eq,qa5,qaW,Op.intBits];rfl) (by simp only[aD,aF])
  |andNot=>show ep P w0 own0 hvs G S0 o a w st kn γ S (if k=k then _ else _);rw[qao rfl];exact done _ _ (by simp only[binOp,ne_eq,qa5,qaW,Op.intBits];rfl) (by simp only[aD,aF])
 ·cases op with
  |shl=>intro hn;exact done _ _ (by simp only[aF]at hn;simp only[binOp,Op.shift];rw[qai (by omega)];rfl) (by simp only[aD,aF])
  |shr=>intro hn;exact done _ _ (by simp only[aF]at hn;simp only[binOp,Op.shift];rw[qai (by omega)];rfl) (by simp only[aD,aF])
  |_=>show ep P w0 own0 hvs G S0 o a w st kn γ S (if k=k' then _ else _);rw[qai hk];trivial
theorem C7 {op:BinOp} {t ty:TypeId} {x y:Operand} {m n:List UInt8} (ho:o.op=.binOp op t x y ty) (hx:a.eval x=.string ⟨m.toArray⟩) (hy:a.eval y=.string ⟨n.toArray⟩):
  ep P w0 own0 hvs G S0 o a w st kn γ S (uU aF op m n):=by
 have hg:∀op,(eqGuard op t x y (.string ⟨m.toArray⟩) (.string ⟨n.toArray⟩)).run P w=.ok () w:=by intro op;simp only[eqGuard];cases op<;>rfl
 have done:∀v p,(binOp op t (.string ⟨m.toArray⟩) (.string ⟨n.toArray⟩)).run P w=.ok v w→aD S w p v→oo P w0 own0 hvs G S0 o a w st (.pv p):=
  fun v p hv hr=>aG h bg Cy (u:=v) (by simp only[execOp,ho,hx,hy,Sem.run_bind,hg,Result.andThen_ok,hv,Sem.run_pure]) (by simpa only[lF]using hr)
 have H2:IntKind.i64.max=9223372036854775807:=by decide
 unfold uU;split
 ·intro hc;refine done (.string (⟨m.toArray⟩++⟨n.toArray⟩)) _ ?_ ?_
  ·simp only[aF]at hc;simp only[binOp,Op.stringOp];rw[qai (by rw[H2];simp only[ByteArray.size,qb9];omega)];rfl
  ·simp only[aD,aF]
   congr 1
 ·exact done (.bool (m==n)) _ (by simp only[binOp,Op.stringOp,kP];rfl) (by simp only[aD,aF,EN])
 ·exact done (.bool (!(m==n))) _ (by simp only[binOp,Op.stringOp,kP];rfl) (by simp only[aD,aF,EN])
 ·exact done (.bool (Op.bytesLess m n)) _ (by simp only[binOp,Op.stringOp,kP];rfl) (by simp only[aD,aF])
 ·trivial
theorem A0 {op:BinOp} {t ty:TypeId} {x y:Operand} {m n:Bool} (ho:o.op=.binOp op t x y ty) (ht:P.underlying t=some .bool) (hx:a.eval x=.bool m) (hy:a.eval y=.bool n):
  ep P w0 own0 hvs G S0 o a w st kn γ S (uu op m n):=by
 have hg:∀op,(eqGuard op t x y (.bool m) (.bool n)).run P w=.ok () w:=by intro op;simp only[eqGuard];cases op<;>rfl
 have done:∀v p,(binOp op t (.bool m) (.bool n)).run P w=.ok v w→aD S w p v→oo P w0 own0 hvs G S0 o a w st (.pv p):=
  fun v p hv hr=>aG h bg Cy (u:=v) (by simp only[execOp,ho,hx,hy,Sem.run_bind,hg,Result.andThen_ok,hv,Sem.run_pure]) (by simpa only[lF]using hr)
 unfold uu;split
 ·exact done _ _ (run_eql_bool _ t m n ht) (by simp only[aD];cases m<;>cases n<;>rfl)
 ·exact done _ _ (run_neq_bool _ t m n ht) (by simp only[aD];cases m<;>cases n<;>rfl)
 ·trivial
theorem C8 {op:BinOp} {t ty:TypeId} {x y:Operand} {ms:Array (String×TypeId)} (ho:o.op=.binOp op t x y ty) (ht:P.underlying t=some (.interface ms)) (hc:(isConst x||isConst y)=true)
  (p q:PV) (hx:aD S w p (a.eval x)) (hy:aD S w q (a.eval y)):
  ep P w0 own0 hvs G S0 o a w st kn γ S (match(generalizing:=false) p,q with
   |.j8,.j8=>match(generalizing:=false) op with|.eql=>.val (.pv (.bool true))|.neq=>.val (.pv (.bool false))|_=>.bad
   |.j8,.iface ..=>match(generalizing:=false) op with|.eql=>.val (.pv (.bool false))|.neq=>.val (.pv (.bool true))|_=>.bad
   |.iface ..,.j8=>match(generalizing:=false) op with|.eql=>.val (.pv (.bool false))|.neq=>.val (.pv (.bool true))|_=>.bad
   |_,_=>.bad):=by
 have done:∀v p,((do eqGuard op t x y (a.eval x) (a.eval y);binOp op t (a.eval x) (a.eval y)):Sem Value).run P w=.ok v w→aD S w p v→oo P w0 own0 hvs G S0 o a w st (.pv p):=
  fun v p hv hr=>aG h bg Cy (u:=v) (by simp only[execOp,ho,Sem.run_bind,Sem.run_pure]at hv ⊢;rw[hv];rfl) (by simpa only[lF]using hr)
 have g0:∀op,(eqGuard op t x y .nilIface .nilIface).run P w=.ok () w:=fun op=>AY op t x y hc
 cases p with
 |j8=>
  cases q with
  |j8=>
   simp only[aD]at hx hy
   cases op<;>first|exact True.intro|skip
   ·exact done (.bool true) _ (by rw[hx,hy];simp only[Sem.run_bind,g0,Result.andThen_ok,binOp,mP (u:=0) (v:=undef) ht,mQ ht,mR ht,Sem.run_pure]) (by simp only[aD])
   ·exact done (.bool false) _ (by rw[hx,hy];simp only[Sem.run_bind,g0,Result.andThen_ok,binOp,mP (u:=0) (v:=undef) ht,mQ ht,mR ht,Sem.run_pure];rfl) (by simp only[aD])
  |iface tt pp=>
   simp only[aD]at hx hy;obtain⟨v',hy,_⟩:=hy
   have g0:∀op,(eqGuard op t x y .nilIface (.iface tt v')).run P w=.ok () w:=by intro op;simp only[eqGuard];cases op<;>rfl
   cases op<;>first|exact True.intro|skip
   ·exact done (.bool false) _ (by rw[hx,hy];simp only[Sem.run_bind,g0,Result.andThen_ok,binOp,mP (u:=0) (v:=undef) ht,mQ ht,mR ht,Sem.run_pure]) (by simp only[aD])
   ·exact done (.bool true) _ (by rw[hx,hy];simp only[Sem.run_bind,g0,Result.andThen_ok,binOp,mP (u:=0) (v:=undef) ht,mQ ht,mR ht,Sem.run_pure];rfl) (by simp only[aD])
  |_=>exact True.intro
 |iface tt pp=>
  cases q with
  |j8=>
   simp only[aD]at hx hy;obtain⟨v',hx,_⟩:=hx
   have g0:∀op,(eqGuard op t x y (.iface tt v') .nilIface).run P w=.ok () w:=by intro op;simp only[eqGuard];cases op<;>rfl
   cases op<;>first|exact True.intro|skip
   ·exact done (.bool false) _ (by rw[hx,hy];simp only[Sem.run_bind,g0,Result.andThen_ok,binOp,mP (u:=0) (v:=undef) ht,mQ ht,mR ht,Sem.run_pure]) (by simp only[aD])
   ·exact done (.bool true) _ (by rw[hx,hy];simp only[Sem.run_bind,g0,Result.andThen_ok,binOp,mP (u:=0) (v:=undef) ht,mQ ht,mR ht,Sem.run_pure];rfl) (by simp only[aD])
  |_=>exact True.intro
 |_=>cases q<;>exact True.intro
end
end Go.Am
end
section
namespace Go.Am
theorem cell_of {w:World} {b:Nat} {c:Array Value} (h:At w b=some c) (i:Nat):w.cell? ⟨b,i,none⟩=c[i]?:=by
 unfold At at h
 unfold World.cell?
 split at h
 ·rename_i c' e f hb;simp only[qaa]at h;subst h;simp[hb]
 ·simp at h
section
variable {S:Nat→Prop} {w:World} {ρ:AV→Value→Prop}
theorem dm.get:∀{ps:List PV} {c:Array Value} {o j:Nat} {p:PV},dm S w ps c o→ps[j]? =some p→∃v,c[o+j]? =some v∧aD S w p v
 |[],_,_,_,_,_,h=>by simp at h
 |p::ps,c,o,0,q,hr,h=>by
  simp only[qay,qaa]at h;subst h;simp only[dm]at hr;exact hr.1
 |p::ps,c,o,j+1,q,hr,h=>by
  simp only[dm]at hr;have:=dm.get (j:=j) hr.2 (by simpa using h)
  rwa [show o+(j+1)=o+1+j by omega]
theorem dm.drop:∀{ps:List PV} {c:Array Value} {o:Nat} (k:Nat),dm S w ps c o→dm S w (ps.drop k) c (o+k)
 |_,_,_,0,h=>by simpa using h
 |[],_,_,k+1,_=>by simp only[qdk,dm]
 |p::ps,c,o,k+1,h=>by
  simp only[dm]at h;have:=dm.drop k h.2;rw[show o+(k+1)=o+1+k by omega];simpa using this
theorem dm.take:∀{ps:List PV} {c:Array Value} {o:Nat} (k:Nat),dm S w ps c o→dm S w (ps.take k) c o
 |_,_,_,0,h=>by simp only[qbo,dm]
 |[],_,_,k+1,_=>by simp only[qdi,dm]
 |p::ps,c,o,k+1,h=>by
  simp only[dm]at h;simp only[qbl,dm];exact⟨h.1,dm.take k h.2⟩
theorem dm.list:∀{ps:List PV} {c:Array Value} {o:Nat},dm S w ps c o→
  ∃vs:List Value,aM S w ps vs∧vs.length=ps.length∧∀j v,vs[j]? =some v→c[o+j]? =some v
 |[],_,_,_=>⟨[],by simp only[aM],rfl,by simp⟩
 |p::ps,c,o,h=>by
  simp only[dm]at h;obtain⟨⟨v,hv,h1⟩,h2⟩:=h;obtain⟨vs,h3,h4,h5⟩:=dm.list h2;refine⟨v::vs,by simp only[aM];exact⟨v,vs,rfl,h1,h3⟩,by simp[h4],?_⟩;intro j u hj
  cases j with
  |zero=>simp only[qay,qaa]at hj;subst hj;exact hv
  |succ j=>rw[show o+(j+1)=o+1+j by omega];exact h5 j u (by simpa using hj)
theorem bB.get:∀{ps:List AV} {c:Array Value} {o j:Nat} {p:AV},bB S w ρ ps c o→ps[j]? =some p→∃v,c[o+j]? =some v∧lF S w ρ p v
 |[],_,_,_,_,_,h=>by simp at h
 |p::ps,c,o,0,q,hr,h=>by
  simp only[qay,qaa]at h;subst h;simp only[bB]at hr;exact hr.1
 |p::ps,c,o,j+1,q,hr,h=>by
  simp only[bB]at hr;have:=bB.get (j:=j) hr.2 (by simpa using h)
  rwa [show o+(j+1)=o+1+j by omega]
theorem bB.drop:∀{ps:List AV} {c:Array Value} {o:Nat} (k:Nat),bB S w ρ ps c o→bB S w ρ (ps.drop k) c (o+k)
 |_,_,_,0,h=>by simpa using h
 |[],_,_,k+1,_=>by simp only[qdk,bB]
 |p::ps,c,o,k+1,h=>by
  simp only[bB]at h;have:=bB.drop k h.2;rw[show o+(k+1)=o+1+k by omega];simpa using this
theorem bB.take:∀{ps:List AV} {c:Array Value} {o:Nat} (k:Nat),bB S w ρ ps c o→bB S w ρ (ps.take k) c o
 |_,_,_,0,h=>by simp only[qbo,bB]
 |[],_,_,k+1,_=>by simp only[qdi,bB]
 |p::ps,c,o,k+1,h=>by
  simp only[bB]at h;simp only[qbl,bB];exact⟨h.1,bB.take k h.2⟩
theorem bB.list:∀{ps:List AV} {c:Array Value} {o:Nat},bB S w ρ ps c o→
  ∃vs:List Value,au S w ρ ps vs∧vs.length=ps.length∧∀j v,vs[j]? =some v→c[o+j]? =some v
 |[],_,_,_=>⟨[],by simp only[au],rfl,by simp⟩
 |p::ps,c,o,h=>by
  simp only[bB]at h;obtain⟨⟨v,hv,h1⟩,h2⟩:=h;obtain⟨vs,h3,h4,h5⟩:=bB.list h2;refine⟨v::vs,by simp only[au];exact⟨v,vs,rfl,h1,h3⟩,by simp[h4],?_⟩;intro j u hj
  cases j with
  |zero=>simp only[qay,qaa]at hj;subst hj;exact hv
  |succ j=>rw[show o+(j+1)=o+1+j by omega];exact h5 j u (by simpa using hj)
theorem au.length:∀{xs:List AV} {vs:List Value},au S w ρ xs vs→vs.length=xs.length
 |[],vs,h=>by simp only[au]at h;subst h;rfl
 |x::xs,vs,h=>by
  simp only[au]at h;obtain⟨v,r,rfl,_,h2⟩:=h;simp[au.length h2]
theorem aM.length:∀{xs:List PV} {vs:List Value},aM S w xs vs→vs.length=xs.length
 |[],vs,h=>by simp only[aM]at h;subst h;rfl
 |x::xs,vs,h=>by
  simp only[aM]at h;obtain⟨v,r,rfl,_,h2⟩:=h;simp[aM.length h2]
theorem aM.av:∀{xs:List PV} {vs:List Value},aM S w xs vs→au S w ρ (xs.map .pv) vs
 |[],vs,h=>by simpa only[aM,qaF,au]using h
 |x::xs,vs,h=>by
  simp only[aM]at h;obtain⟨v,r,rfl,h1,h2⟩:=h;simp only[qaj,au,lF];exact⟨v,r,rfl,h1,aM.av h2⟩
def va (ρ:AV→Value→Prop):Prop:=∀x v,(match x with|.c8 ..|.ptr ..|.cR ..|.dt ..|.eT ..=>True|_=>False)→ρ x v→v.oneCell'=true
theorem aD.one {p:PV} {v:Value} (h1:(AV.pv p).one=true) (h:aD S w p v):v.oneCell'=true:=by
 cases p with
 |agg c=>simp[AV.one]at h1
 |eN c=>simp[AV.one]at h1
 |gM f ps=>simp only[aD]at h;obtain⟨vs,rfl,_⟩:=h;rfl
 |iface t p=>simp only[aD]at h;obtain⟨vs,rfl,_⟩:=h;rfl
 |sl r s=>simp only[aD]at h;obtain⟨a,c,rfl,_⟩:=h;rfl
 |ptr r=>simp only[aD]at h;obtain⟨a,c,b,rfl,_⟩:=h;rfl
 |mp=>simp only[aD]at h;obtain⟨a,c,b,rfl,_⟩:=h;rfl
 |_=>simp only[aD]at h;subst h;rfl
theorem lF.one (hρ:va ρ) {x:AV} {v:Value} (h1:x.one=true) (h:lF S w ρ x v):v.oneCell'=true:=by
 cases x with
 |pv p=>simp only[lF]at h;exact aD.one h1 h
 |agg c=>simp[AV.one]at h1
 |eN c=>simp[AV.one]at h1
 |dead=>simp[AV.one]at h1
 |iU t=>simp[AV.one]at h1
 |c8 id bq=>simp only[lF]at h;exact hρ _ _ trivial h
 |ptr id bq=>simp only[lF]at h;exact hρ _ _ trivial h
 |cR id bq j o=>simp only[lF]at h;exact hρ _ _ trivial h
 |fQ r o=>simp only[lF]at h;obtain⟨b,o',c,rfl,_⟩:=h;rfl
 |full r=>simp only[lF]at h;obtain⟨b,rfl,_⟩:=h;rfl
 |gM f c=>simp only[lF]at h;obtain⟨b,rfl,_⟩:=h;rfl
 |Ay f c=>simp only[lF]at h;obtain⟨b,rfl,_⟩:=h;rfl
 |kM r=>simp only[lF]at h;obtain⟨b,rfl,_⟩:=h;rfl
 |dt id=>simp only[lF]at h;exact hρ _ _ trivial h
 |eT id i=>simp only[lF]at h;exact hρ _ _ trivial h
theorem pG {v:Value} (h:v.oneCell'=true):v.cells=#[v]:=by
 cases v<;>first|rfl|simp[Value.oneCell']at h
theorem lF.cells (hρ:va ρ) {x:AV} {v:Value} (h1:kE x.cells=true) (h:lF S w ρ x v):au S w ρ x.cells v.cells.toList:=by
 cases x with
 |agg cs=>simp only[lF]at h;obtain⟨vs,rfl,h⟩:=h;simpa only[AV.cells,Value.cells]using h
 |pv p=>
  cases p with
  |agg ps=>simp only[lF,aD]at h;obtain⟨vs,rfl,h⟩:=h;simpa only[AV.cells,Value.cells]using aM.av h
  |eN ps=>simp[AV.cells,kE,AV.one]at h1
  |_=>
   rw[pG (lF.one hρ (by rfl) h)];simp only[AV.cells,au];exact⟨v,[],rfl,h,rfl⟩
 |eN cs=>simp[AV.cells,kE,AV.one]at h1
 |dead=>simp[AV.cells,kE,AV.one]at h1
 |iU t=>simp[AV.cells,kE,AV.one]at h1
 |_=>
  rw[pG (lF.one hρ (by rfl) h)];simp only[AV.cells,au];exact⟨v,[],rfl,h,rfl⟩
theorem jX (γ:Nat→Option Nat) (mem:List (Option Obj)):va (Ref γ S w mem):=by
 intro x v hx h
 cases x with
 |c8 id bq=>simp only[Ref]at h;split at h<;>first|exact h.1.2|exact h.elim
 |ptr id bq=>simp only[Ref]at h;split at h<;>first|(obtain⟨b,_,rfl⟩:=h;rfl)|exact h.elim
 |cR id bq j o=>simp only[Ref]at h;split at h<;>first|exact h.1.2|exact h.elim
 |dt id=>simp only[Ref]at h;split at h<;>first|(obtain⟨b,_,rfl⟩:=h;rfl)|exact h.elim
 |eT id i=>simp only[Ref]at h;split at h<;>first|exact h.1|exact h.elim
 |_=>exact hx.elim
end
end Go.Am
end
section
namespace Go.Am
theorem uQ {mem:List (Option Obj)} {d:Nat} {o:Obj} (hd:d≤mem.length) (i:Nat):
  aj (qG mem d o) i=if i=d then some o else aj mem i:=by
 unfold qG;split
 ·rename_i hb;have hd:d<mem.length:=qaH hb;unfold aj
  by_cases h:i=d
  ·subst h;simp[qab,hd]
  ·simp[qab,qbF (qbN h),h]
 ·rename_i hb
  have HI:d=mem.length:=by
   have:¬d+1≤mem.length:=fun h=>by rw[qcQ h]at hb;cases hb
   omega
  subst HI;unfold aj
  by_cases h:i=mem.length
  ·subst h;simp[qab]
  ·rw[qai h]
   by_cases h2:i<mem.length
   ·simp[qab,qaQ h2]
   ·have h3:mem.length<i:=by omega
    simp[qab,qa0 (qby h2),qaV (qcl h3),show i-mem.length≠0 by omega,List.getElem?_cons,List.getElem?_nil]
theorem mS {mem:List (Option Obj)} {i:Nat} {o:Obj} (h:aj mem i=some o):i<mem.length:=by
 unfold aj at h
 by_cases hl:i<mem.length
 ·exact hl
 ·simp[qab,qa0 (qby hl)]at h
theorem bT {mem:List (Option Obj)} {i:Nat} {o:Obj} (h:aj mem i=some o):i≤mem.length:=qcl (mS h)
theorem et {w:World} {o:Go.Obj} {b:Nat} (h:b<w.heap.size):(w.alloc o).heap[b]? =w.heap[b]?:=RowKit.Below.heap_alloc w o b h
theorem heap_alloc_new {w:World} {o:Go.Obj}:(w.alloc o).heap[w.heap.size]? =some o:=by
 show(w.heap.push o)[w.heap.size]? =_;simp
section
variable {S S':Nat→Prop} {w w':World} {ρ ρ':AV→Value→Prop}
theorem bB.later (hl:bf S w S' w') (hρ:∀x v,ρ x v→ρ' x v) {xs:List AV} {c:Array Value} {o:Nat} (h:bB S w ρ xs c o):bB S' w' ρ' xs c o:=bB.qN hl hρ xs h
theorem bU.later (hl:bf S w S' w') (hρ:∀x v,ρ x v→ρ' x v) {xs:List (List AV)} {c:Array Value} {o:Nat} (h:bU S w ρ xs c o):bU S' w' ρ' xs c o:=bU.qN hl hρ xs h
theorem eK.later {γ γ':Nat→Option Nat} (hl:bf S w S' w') (hρ:∀x v,ρ x v→ρ' x v) {id:Nat} {ob:Obj} (hγ:γ' id=γ id)
  (hb:∀b,γ id=some b→w'.heap[b]? =w.heap[b]?) (h:eK γ S w ρ id ob):eK γ' S' w' ρ' id ob:=by
 cases ob with
 |cells cs=>
  obtain⟨b,c,e,h1,h2,h3,h4⟩:=h;exact⟨b,c,e,hγ.trans h1,(hb b h1).trans h2,h3,bB.later hl hρ h4.1,h4.2⟩
 |cL t rs bq=>
  rcases h with⟨h1,h2⟩|⟨b,c,h1,h2,h3,h4,h5⟩
  ·exact .inl ⟨hγ.trans h1,h2⟩
  ·exact .inr ⟨b,c,hγ.trans h1,(hb b h1).trans h2,h3,h4,bM.later hl rs h5⟩
 |rows sz rs bq=>
  rcases h with⟨h1,h2⟩|⟨b,c,e,h1,h2,h3,h4,h5⟩
  ·exact .inl ⟨hγ.trans h1,h2⟩
  ·exact .inr ⟨b,c,e,hγ.trans h1,(hb b h1).trans h2,h3,h4,bM.later hl rs h5⟩
 |cg sz rs bq=>
  rcases h with⟨h1,h2⟩|⟨b,c,e,h1,h2,h3,h4,h5⟩
  ·exact .inl ⟨hγ.trans h1,h2⟩
  ·exact .inr ⟨b,c,e,hγ.trans h1,(hb b h1).trans h2,h3,h4,bU.later hl hρ h5⟩
 |eO rs bq=>trivial
 |map kg vg kn rows=>
  obtain⟨b,es,ck,h1,h2,h3,h4⟩:=h;exact⟨b,es,ck,hγ.trans h1,(hb b h1).trans h2,h3,bV.later hl rows h4⟩
 |iw rows=>
  obtain⟨b,es,ck,h1,h2,h3,h4⟩:=h;exact⟨b,es,ck,hγ.trans h1,(hb b h1).trans h2,h3,fM.later hl hρ h4⟩
 |fz s pos=>
  obtain⟨b,h1,h2,h3⟩:=h;exact⟨b,hγ.trans h1,(hb b h1).trans h2,h3⟩
 |eu src seen=>
  simp only[eK]at h ⊢;split at h
  ·obtain⟨b,h1,h2⟩:=h;exact⟨b,hγ.trans h1,(hb b h1).trans h2⟩
  ·obtain⟨b,mb,es,ck,sb,h1,h2,h3,h4,h5,h6,h7⟩:=h;exact⟨b,mb,es,ck,sb,hγ.trans h1,(hb b h1).trans h2,(hl mb h3).1,(hl mb h3).2.2.trans h4,h5,bV.later hl _ h6,h7⟩
  ·exact h
end
def bI:AV→Option Nat
 |.c8 id _=>some id
 |.ptr id _=>some id
 |.cR id _ _ _=>some id
 |.dt id=>some id
 |.eT id _=>some id
 |_=>none
theorem Ref.sO {γ γ':Nat→Option Nat} {S S':Nat→Prop} {w w':World} {mem mem':List (Option Obj)} (hl:bf S w S' w')
  (x:AV) (v:Value) (hm:∀id ob,bI x=some id→aj mem id=some ob→aj mem' id=some ob∧γ' id=γ id∧∀b,γ id=some b→At w' b=At w b∧YB w' b=YB w b)
  (h:Ref γ S w mem x v):Ref γ' S' w' mem' x v:=by
 cases x with
 |c8 id bq=>
  simp only[Ref]at h ⊢
  cases hg:aj mem id with
  |none=>simp only[hg]at h
  |some ob=>
   obtain⟨h1,h2,h3⟩:=hm id ob rfl hg;simp only[hg]at h;simp only[h1]
   cases ob with
   |rows sz rs bm=>
    refine⟨h.1,fun e=>?_⟩;obtain⟨a,cap,hv,hc,h4⟩:=h.2 e;refine⟨a,cap,hv,hc,h4.imp (fun h=>h) ?_⟩;rintro⟨b,c,hb,ha,xP,hs⟩;exact⟨b,c,h2.trans hb,ha,(h3 b hb).1.trans xP,hs⟩
   |cg sz rs bm=>
    refine⟨h.1,fun e=>?_⟩;obtain⟨a,cap,hv,hc,h4⟩:=h.2 e;refine⟨a,cap,hv,hc,h4.imp (fun h=>h) ?_⟩;rintro⟨b,c,hb,ha,xP,hs⟩;exact⟨b,c,h2.trans hb,ha,(h3 b hb).1.trans xP,hs⟩
   |cL t rs bm=>
    refine⟨h.1,fun e=>?_⟩;obtain⟨a,cap,hv,hc,h4⟩:=h.2 e;refine⟨a,cap,hv,hc,h4.imp (fun h=>h) ?_⟩;rintro⟨b,c,hb,ha,xP,hs⟩;exact⟨b,c,h2.trans hb,ha,(h3 b hb).1.trans xP,hs⟩
   |eO rs bm=>exact⟨h.1,fun e=>aD.later hl _ (h.2 e)⟩
   |_=>exact h
 |ptr id off=>
  simp only[Ref]at h ⊢
  cases hg:aj mem id with
  |none=>simp only[hg]at h
  |some ob=>
   obtain⟨h1,h2,h3⟩:=hm id ob rfl hg;simp only[hg]at h;simp only[h1]
   cases ob with
   |cells cs=>obtain⟨b,hb,hv⟩:=h;exact⟨b,h2.trans hb,hv⟩
   |fz=>obtain⟨b,hb,hv⟩:=h;exact⟨b,h2.trans hb,hv⟩
   |eu=>obtain⟨b,hb,hv⟩:=h;exact⟨b,h2.trans hb,hv⟩
   |_=>exact h
 |cR id bq j off=>
  simp only[Ref]at h ⊢
  cases hg:aj mem id with
  |none=>simp only[hg]at h
  |some ob=>
   obtain⟨h1,h2,h3⟩:=hm id ob rfl hg;simp only[hg]at h;simp only[h1]
   cases ob with
   |rows sz rs bm=>
    refine⟨h.1,fun e=>?_⟩;obtain⟨b,hb,hv,hj⟩:=h.2 e;exact⟨b,h2.trans hb,hv,hj⟩
   |cg sz rs bm=>
    refine⟨h.1,fun e=>?_⟩;obtain⟨b,hb,hv,hj⟩:=h.2 e;exact⟨b,h2.trans hb,hv,hj⟩
   |cL t rs bm=>
    refine⟨h.1,fun e=>?_⟩;obtain⟨b,hb,hv,hj⟩:=h.2 e;exact⟨b,h2.trans hb,hv,hj⟩
   |eO rs bm=>
    refine⟨h.1,fun e=>?_⟩;obtain⟨b,o,c,hv,hs,hc,hr,hj⟩:=h.2 e;exact⟨b,o,c,hv,(hl b hs).1,(hl b hs).2.1.trans hc,dm.later hl _ hr,hj⟩
   |_=>exact h
 |dt id=>
  simp only[Ref]at h ⊢
  cases hg:aj mem id with
  |none=>simp only[hg]at h
  |some ob=>
   obtain⟨h1,h2,h3⟩:=hm id ob rfl hg;simp only[hg]at h;simp only[h1]
   cases ob with
   |map=>obtain⟨b,hb,hv⟩:=h;exact⟨b,h2.trans hb,hv⟩
   |iw=>obtain⟨b,hb,hv⟩:=h;exact⟨b,h2.trans hb,hv⟩
   |_=>exact h
 |eT id i=>
  simp only[Ref]at h ⊢
  cases hg:aj mem id with
  |none=>simp only[hg]at h
  |some ob=>
   obtain⟨h1,h2,h3⟩:=hm id ob rfl hg;simp only[hg]at h;simp only[h1]
   cases ob with
   |map=>obtain⟨h0,b,es,ck,e,hb,hm,h4⟩:=h;exact⟨h0,b,es,ck,e,h2.trans hb,(h3 b hb).2.trans hm,h4⟩
   |_=>exact h
 |_=>simp only[Ref]
theorem Ref.later {γ γ':Nat→Option Nat} {S S':Nat→Prop} {w w':World} {mem mem':List (Option Obj)} (hl:bf S w S' w')
  (hm:∀id ob,aj mem id=some ob→aj mem' id=some ob∧γ' id=γ id∧∀b,γ id=some b→At w' b=At w b∧YB w' b=YB w b):
  ∀x v,Ref γ S w mem x v→Ref γ' S' w' mem' x v:=fun x v h=>Ref.sO hl x v (fun id ob _ hg=>hm id ob hg) h
section
variable {P:Program} {w0:World} {own0:Nat→Prop} {hvs:List Value×List Deferred} {G:Nat→Option (List PV)} {S0:Nat→Prop} {accs:List Nat}
 {γ:Nat→Option Nat} {S:Nat→Prop} {st:St} {a:Act} {w:World} {o:Oper} {kn:Nat}
 (h:dW w0 own0 hvs G γ S st a w) (bg:∀b,S0 b→S b) (Cy:∀b,S b→S0 b∨w0.heap.size≤b∨own0 b)
def dp (γ:Nat→Option Nat) (d:Nat) (b:Option Nat):Nat→Option Nat:=fun i=>if i=d then b else γ i
include h
theorem tD (ob:Go.Obj):bf S w S (w.alloc ob):=fun b hb=>⟨hb,dC (et (h.bound b hb))⟩
theorem dW.grow {w':World} {S':Nat→Prop} (hk:∀b,b<w.heap.size→w'.heap[b]? =w.heap[b]?) (dH:w.heap.size≤w'.heap.size) (Gx:w'.os=w.os) (Gy:w'.tape=w.tape) (om:w'.output=w.output)
  (hS:∀b,S b→S' b) (ke:∀b,S' b→S b∨(w.heap.size≤b∧b<w'.heap.size)):
  dW w0 own0 hvs G γ S' st a w'∧bf S w S' w'∧(∀x v,Ref γ S w st.mem x v→Ref γ S' w' st.mem x v):=by
 have hl:bf S w S' w':=fun b hb=>⟨hS b hb,dC (hk b (h.bound b hb))⟩
 have hb:∀i b,γ i=some b→w'.heap[b]? =w.heap[b]?:=fun i b hb=>hk b (h.eJ i b hb)
 have hρ:=Ref.later (γ:=γ) (γ':=γ) (mem:=st.mem) (mem':=st.mem) hl fun id ob' hm=>⟨hm,rfl,fun b h'=>dC (hb id b h')⟩
 refine⟨?_,hl,hρ⟩
 exact{
     size:=h.size,slot:=fun i=>lF.later hl hρ _ (h.slot i),held:=au.later hl hρ _ h.held,defers:=h.defers
     mem:=fun id ob' hm=>eK.later hl hρ rfl (hb id) (h.mem id ob' hm)
     lU:=h.lU,inj:=h.inj
     own:=fun i b hg=>by
      refine⟨fun hs=>?_,(h.own i b hg).2⟩
      rcases ke b hs with h1|h1
      ·exact(h.own i b hg).1 h1
      ·have:=h.eJ i b hg;omega
     bound:=fun b hb=>by
      rcases ke b hb with h1|h1
      ·have:=h.bound b h1;omega
      ·exact h1.2
     eJ:=fun i b hb=>by have:=h.eJ i b hb;omega
     jn:=fun g row hg=>by
      obtain⟨h1,c,h2,h3,h4⟩:=h.jn g row hg;exact⟨hS g h1,c,((hl g h1).2.1).trans h2,dm.later hl row h3,h4⟩
     kept:=fun b hb hn=>(hk b (by have:=h.eY;omega)).trans (h.kept b hb hn)
     os:=Gx.trans h.os,tape:=Gy.trans h.tape,output:=om.trans h.output
     eY:=by have:=h.eY;omega}
theorem dW.Gz {d:Nat} (hd:aj st.mem d=none) (bO:d≤st.mem.length) (ob:Obj) (go:Go.Obj)
  (ho:(∀x v,Ref γ S w st.mem x v→Ref (dp γ d (some w.heap.size)) S (w.alloc go) (st.aq d ob).mem x v)→bf S w S (w.alloc go)→
   eK (dp γ d (some w.heap.size)) S (w.alloc go) (Ref (dp γ d (some w.heap.size)) S (w.alloc go) (st.aq d ob).mem) d ob):
  dW w0 own0 hvs G (dp γ d (some w.heap.size)) S (st.aq d ob) a (w.alloc go)∧
   (∀x v,Ref γ S w st.mem x v→Ref (dp γ d (some w.heap.size)) S (w.alloc go) (st.aq d ob).mem x v)∧bf S w S (w.alloc go):=by
 have hl:=tD h go
 have hγd:γ d=none:=by
  cases hg:γ d with
  |none=>rfl
  |some b=>exact absurd hd (h.lU d b hg)
 have hb:∀i b,γ i=some b→(w.alloc go).heap[b]? =w.heap[b]?:=fun i b hb=>et (h.eJ i b hb)
 have hm:∀id ob',aj st.mem id=some ob'→aj (st.aq d ob).mem id=some ob'∧dp γ d (some w.heap.size) id=γ id:=by
  intro id ob' hm
  have MB:id≠d:=fun e=>by rw[e,hd]at hm;cases hm
  exact⟨by simp only[St.aq,uQ bO,qai MB,hm],by simp only[dp,qai MB]⟩
 have hρ:=Ref.later (γ:=γ) (γ':=dp γ d (some w.heap.size)) (mem:=st.mem) (mem':=(st.aq d ob).mem) hl
  fun id ob' hg=>⟨(hm id ob' hg).1,(hm id ob' hg).2,fun b h'=>dC (hb id b h')⟩
 refine⟨?_,hρ,hl⟩
 exact{
     size:=h.size,slot:=fun i=>lF.later hl hρ _ (h.slot i),held:=au.later hl hρ _ h.held,defers:=h.defers
     mem:=fun id ob' hg=>by
      by_cases hi:id=d
      ·subst hi;simp only[St.aq,uQ bO,qax,qaa]at hg;subst hg;exact ho hρ hl
      ·simp only[St.aq,uQ bO,qai hi]at hg;exact eK.later hl hρ (by simp only[dp,qai hi]) (hb id) (h.mem id ob' hg)
     lU:=fun i b hg=>by
      simp only[St.aq,uQ bO]
      by_cases hi:i=d
      ·simp[hi]
      ·simp only[dp,qai hi]at hg ⊢;exact h.lU i b hg
     inj:=fun i j b hi hj=>by
      simp only[dp]at hi hj;split at hi<;>split at hj
      ·rename_i e1 e2;rw[e1,e2]
      ·simp only[qaa]at hi;subst hi;have:=h.eJ j _ hj;omega
      ·simp only[qaa]at hj;subst hj;have:=h.eJ i _ hi;omega
      ·exact h.inj i j b hi hj
     own:=fun i b hi=>by
      simp only[dp]at hi;split at hi
      ·simp only[qaa]at hi;subst hi;exact⟨fun hS=>by have:=h.bound _ hS;omega,.inl h.eY⟩
      ·exact h.own i b hi
     bound:=fun b hb=>by simp;have:=h.bound b hb;omega
     eJ:=fun i b hi=>by
      simp only[dp]at hi;simp only[World.size_alloc];split at hi
      ·simp only[qaa]at hi;omega
      ·have:=h.eJ i b hi;omega
     jn:=fun g row hg=>by
      obtain⟨h1,c,h2,h3,h4⟩:=h.jn g row hg;exact⟨h1,c,((hl g h1).2.1).trans h2,dm.later hl row h3,h4⟩
     kept:=fun b hb hn=>(et (by have:=h.eY;omega)).trans (h.kept b hb hn)
     os:=h.os,tape:=h.tape,output:=h.output
     eY:=by simp;have:=h.eY;omega}
theorem dW.new {d:Nat} (hd:aj st.mem d=none) (bO:d≤st.mem.length) (ob:Obj) (c:Array Value) (e:TypeId)
  (ho:(∀x v,Ref γ S w st.mem x v→Ref (dp γ d (some w.heap.size)) S (w.alloc (.cells c e)) (st.aq d ob).mem x v)→bf S w S (w.alloc (.cells c e))→
   eK (dp γ d (some w.heap.size)) S (w.alloc (.cells c e)) (Ref (dp γ d (some w.heap.size)) S (w.alloc (.cells c e)) (st.aq d ob).mem) d ob):
  dW w0 own0 hvs G (dp γ d (some w.heap.size)) S (st.aq d ob) a (w.alloc (.cells c e))∧
   (∀x v,Ref γ S w st.mem x v→Ref (dp γ d (some w.heap.size)) S (w.alloc (.cells c e)) (st.aq d ob).mem x v)∧bf S w S (w.alloc (.cells c e)):=dW.Gz h hd bO ob (.cells c e) ho
theorem dW.C9 {d:Nat} (hd:aj st.mem d=none) (bO:d≤st.mem.length) (sz bq:Nat):
  dW w0 own0 hvs G γ S (st.aq d (.rows sz [] bq)) a w:=by
 have hγd:γ d=none:=by
  cases hg:γ d with
  |none=>rfl
  |some b=>exact absurd hd (h.lU d b hg)
 have hl:=bf.refl S w
 have hm:∀id ob',aj st.mem id=some ob'→aj (st.aq d (.rows sz [] bq)).mem id=some ob':=by
  intro id ob' hm
  have MB:id≠d:=fun e=>by rw[e,hd]at hm;cases hm
  simp only[St.aq,uQ bO,qai MB,hm]
 have hρ:=Ref.later (γ:=γ) (γ':=γ) (mem:=st.mem) (mem':=(st.aq d (.rows sz [] bq)).mem) hl
  fun id ob' hg=>⟨hm id ob' hg,rfl,fun b _=>⟨rfl,rfl⟩⟩
 exact{h with
     slot:=fun i=>lF.later hl hρ _ (h.slot i),held:=au.later hl hρ _ h.held
     mem:=fun id ob' hg=>by
      by_cases hi:id=d
      ·subst hi;simp only[St.aq,uQ bO,qax,qaa]at hg;subst hg;exact .inl ⟨hγd,rfl⟩
      ·simp only[St.aq,uQ bO,qai hi]at hg;exact eK.later hl hρ rfl (fun _ _=>rfl) (h.mem id ob' hg)
     lU:=fun i b hg=>by
      simp only[St.aq,uQ bO]
      by_cases hi:i=d
      ·simp[hi]
      ·simp only[qai hi];exact h.lU i b hg}
theorem dW.lg {id b:Nat} {ob ob':Obj} {w':World} (hid:aj st.mem id=some ob) (hb:γ id=some b)
  (hw:∀k,k≠b→w'.heap[k]? =w.heap[k]?) (dH:w'.heap.size=w.heap.size) (Gx:w'.os=w.os) (Gy:w'.tape=w.tape) (om:w'.output=w.output)
  (hR:∀x v,bI x=some id→Ref γ S w st.mem x v→Ref γ S w' (st.aq id ob').mem x v)
  (hO:(∀x v,Ref γ S w st.mem x v→Ref γ S w' (st.aq id ob').mem x v)→bf S w S w'→eK γ S w' (Ref γ S w' (st.aq id ob').mem) id ob'):
  dW w0 own0 hvs G γ S (st.aq id ob') a w'∧(∀x v,Ref γ S w st.mem x v→Ref γ S w' (st.aq id ob').mem x v)∧bf S w S w':=by
 have bO:=bT hid;have Da:=h.own id b hb
 have hl:bf S w S w':=fun k hk=>⟨hk,dC (hw k (fun e=>Da.1 (e▸hk)))⟩
 have hρ:∀x v,Ref γ S w st.mem x v→Ref γ S w' (st.aq id ob').mem x v:=by
  intro x v hx
  by_cases hi:bI x=some id
  ·exact hR x v hi hx
  ·refine Ref.sO hl x v (fun mD GA hr hg=>?_) hx
   have MB:mD≠id:=fun e=>hi (e▸hr)
   refine⟨by simp only[St.aq,uQ bO,qai MB,hg],rfl,fun b' fP=>dC (hw b' (fun e=>MB (h.inj mD id b' fP (e▸hb))))⟩
 refine⟨?_,hρ,hl⟩
 exact{
     size:=h.size,slot:=fun i=>lF.later hl hρ _ (h.slot i),held:=au.later hl hρ _ h.held,defers:=h.defers
     mem:=fun mD GA hg=>by
      by_cases hi:mD=id
      ·subst hi;simp only[St.aq,uQ bO,qax,qaa]at hg;subst hg;exact hO hρ hl
      ·simp only[St.aq,uQ bO,qai hi]at hg;exact eK.later hl hρ rfl (fun b' fP=>hw b' (fun e=>hi (h.inj mD id b' fP (e▸hb)))) (h.mem mD GA hg)
     lU:=fun i b' hg=>by
      simp only[St.aq,uQ bO]
      by_cases hi:i=id
      ·simp[hi]
      ·simp only[qai hi];exact h.lU i b' hg
     inj:=h.inj,own:=h.own
     bound:=fun k hk=>by rw[dH];exact h.bound k hk
     eJ:=fun i k hk=>by rw[dH];exact h.eJ i k hk
     jn:=fun g row hg=>by
      obtain⟨h1,c,h2,h3,h4⟩:=h.jn g row hg;exact⟨h1,c,((hl g h1).2.1).trans h2,dm.later hl row h3,h4⟩
     kept:=fun k hk hn=>by
      rw[hw k (fun e=>?_)];exact h.kept k hk hn;subst e
      rcases Da.2 with h1|h1
      ·omega
      ·exact hn h1
     os:=Gx.trans h.os,tape:=Gy.trans h.tape,output:=om.trans h.output
     eY:=by rw[dH];exact h.eY}
end
end Go.Am
end
section
namespace Go.Am
theorem gU (b off n:Nat):(Addr.mk b off none).add n=⟨b,off+n,none⟩:=by
 unfold Addr.add;split
 ·rename_i h;subst h;rfl
 ·rfl
section
variable {P:Program} {w:World}
theorem ji {t:TypeId} {g:Bool} (h:ey P t=some g):(isAgg t).run P w=.ok g w:=by
 unfold ey at h;simp only[isAgg,Sem.run_bind];split at h
 ·rename_i d hd;simp only[qaa]at h;subst h;rw[run_underlying hd];rfl
 ·rename_i d hd;simp only[qaa]at h;subst h;rw[run_underlying hd];rfl
 ·rename_i d h1 h2 hd;simp only[qaa]at h;subst h;rw[run_underlying hd]
  cases d<;>first|rfl|exact absurd rfl (h1 _)|exact absurd rfl (h2 _ _)
 ·cases h
theorem run_sizeOf {t:TypeId} {n:Nat} (h:dK P t=some n):(sizeOf t).run P w=.ok n w:=by
 unfold dK at h
 cases hi:P.info? t with
 |none=>simp[hi]at h
 |some i=>
  simp only[hi,qaM,qaa]at h;subst h;simp only[sizeOf,typeInfo,Sem.run_bind,run_program,Result.andThen_ok,hi,Sem.run_pure]
theorem aeO {b i:Nat} {c:Array Value} {v:Value} (hc:At w b=some c) (hv:c[i]? =some v):(load ⟨b,i,none⟩).run P w=.ok v w:=by
 simp only[load,Sem.run,cell_of hc,hv]
theorem kH {t:TypeId} {b i:Nat} {c:Array Value} {v:Value} (ht:ey P t=some false) (hc:At w b=some c) (hv:c[i]? =some v):
  (loadVar t ⟨b,i,none⟩).run P w=.ok v w:=by
 simp only[loadVar,Sem.run_bind,ji ht,Result.andThen_ok,qaP,qaW,aeO hc hv]
theorem kI {t:TypeId} {b i n:Nat} {c:Array Value} {vs:List Value} (ht:ey P t=some true) (hn:dK P t=some n) (hc:At w b=some c)
  (hl:vs.length=n) (hv:∀j v,vs[j]? =some v→c[i+j]? =some v):
  (loadVar t ⟨b,i,none⟩).run P w=.ok (.agg vs.toArray) w:=by
 have:=run_loadCells_list (P:=P) w ⟨b,i,none⟩ vs (fun j v hj=>by rw[gU,cell_of hc];exact hv j v hj);rw[hl]at this;simp only[loadVar,Sem.run_bind,ji ht,Result.andThen_ok,qax,run_sizeOf hn,this,Sem.run_pure]
theorem oK {b:Nat} {e:TypeId}:∀(vs:List Value) (i off:Nat) (c:Array Value) (w:World),w.heap[b]? =some (.cells c e (0,0))→off+i+vs.length≤c.size→
  (∀v∈vs,v.oneCell'=true)→
  ∃(w':World) (c':Array Value),(storeCells ⟨b,off,none⟩ vs i).run P w=.ok () w'∧w'.heap[b]? =some (.cells c' e (0,0))∧c'.size=c.size∧
   (∀j,c'[j]? =if off+i≤j∧j<off+i+vs.length then vs[j-(off+i)]? else c[j]?)∧
   (∀k,k≠b→w'.heap[k]? =w.heap[k]?)∧w'.heap.size=w.heap.size∧w'.os=w.os∧w'.tape=w.tape∧w'.output=w.output:=by
 intro vs
 induction vs with
 |nil=>
  intro i off c w hb _ _;refine⟨w,c,rfl,hb,rfl,fun j=>?_,fun _ _=>rfl,rfl,rfl,rfl,rfl⟩;rw[qai (by simp)]
 |cons v vs ih=>
  intro i off c w hb hlen oq;simp only[qaq]at hlen
  have hcell:w.cell? ⟨b,off+i,none⟩=some c[off+i]:=by
   have hc:At w b=some c:=by simp[At,hb]
   rw[cell_of hc,qbd (by omega)]
  have hfz:w.frozen? ⟨b,off+i,none⟩=false:=by simp[World.frozen?,hb]
  have WE:(w.setCell ⟨b,off+i,none⟩ v).heap[b]? =some (.cells (c.setIfInBounds (off+i) v) e (0,0)):=by
   simp[World.setCell,qbk,hb]
  obtain⟨w',c',h1,h2,h3,h4,h5,h6,h7,h8,h9⟩:=ih (i+1) off (c.setIfInBounds (off+i) v) (w.setCell ⟨b,off+i,none⟩ v) WE (by simp;omega) (fun u hu=>oq u (qaE _ hu));refine⟨w',c',?_,h2,by simpa using h3,fun j=>?_,fun k hk=>?_,by simpa using h6,h7,h8,h9⟩
  ·simp only[storeCells,Sem.run_bind,gU,run_store P w _ v _ (oq v (qaz)),hcell,hfz,qaP,qaW,Result.andThen_ok];exact h1
  ·rw[h4 j]
   by_cases hj:j=off+i
   ·subst hj;rw[qai (by omega),qao (by simp)];simp[show off+i<c.size by omega]
   ·by_cases hj2:off+(i+1)≤j∧j<off+(i+1)+vs.length
    ·rw[qao hj2,qao (by simp;omega),show j-(off+i)=(j-(off+(i+1)))+1 by omega];simp
    ·rw[qai hj2,qai (by simp;omega),qbe (by omega)]
  ·rw[h5 k hk];exact RowKit.Below.heap_setCell w _ v k hk
end
section
variable {P:Program} {w0:World} {own0:Nat→Prop} {hvs:List Value×List Deferred} {G:Nat→Option (List PV)} {S0:Nat→Prop} {accs:List Nat}
 {γ:Nat→Option Nat} {S:Nat→Prop} {st:St} {a:Act} {w:World} {o:Oper} {kn:Nat}
 (h:dW w0 own0 hvs G γ S st a w) (bg:∀b,S0 b→S b) (Cy:∀b,S b→S0 b∨w0.heap.size≤b∨own0 b)
include h bg Cy
theorem rA {t:TypeId} {x:Operand} {g:Bool} {n:Option Nat} (ho:o.op=.load t x) (hg:ey P t=some g) (hn:match g with|true=>∃m,dK P t=some m∧n=some m|false=>n=none)
  {b off:Nat} {c:Array Value} {row:List PV} {k:Nat} (he:a.eval x=.pointer (some ⟨b,off+k,none⟩)) (hc:At w b=some c) (hr:dm S w row c off):
  ep P w0 own0 hvs G S0 o a w st kn γ S (il row k n):=by
 have bN:∀v,(loadVar t ⟨b,off+k,none⟩).run P w=.ok v w→(execOp a.eval o).run P w=.ok (.value v) w:=by
  intro v hv;simp only[execOp,ho,he,Instr.loadAt,Instr.sureAddr,Sem.run_bind,Sem.run_pure,Result.andThen_ok,hv]
 cases g with
 |false=>
  simp only at hn;subst hn;simp only[il];split
  ·rename_i p hp;obtain⟨v,hv,K2⟩:=dm.get hr hp;exact aG h bg Cy (bN v (kH hg hc hv)) (by simp only[lF];exact K2)
  ·trivial
 |true=>
  simp only at hn;obtain⟨m,hm,rfl⟩:=hn;simp only[il];split
  ·rename_i hle;obtain⟨vs,h1,h2,h3⟩:=dm.list ((hr.drop k).take m)
   have hlen:vs.length=m:=by rw[h2];simp;omega
   exact aG h bg Cy (bN _ (kI hg hm hc hlen h3)) (by simp only[lF,aD];exact⟨vs,rfl,h1⟩)
  ·trivial
theorem A1 {t:TypeId} {x:Operand} {g:Bool} {n:Option Nat} (ho:o.op=.load t x) (hg:ey P t=some g) (hn:match g with|true=>∃m,dK P t=some m∧n=some m|false=>n=none)
  {b k o0:Nat} {c:Array Value} {row:List AV} (he:a.eval x=.pointer (some ⟨b,o0+k,none⟩)) (hc:At w b=some c) (hr:bB S w (Ref γ S w st.mem) row c o0):
  ep P w0 own0 hvs G S0 o a w st kn γ S (js row k n):=by
 have bN:∀v,(loadVar t ⟨b,o0+k,none⟩).run P w=.ok v w→(execOp a.eval o).run P w=.ok (.value v) w:=by
  intro v hv;simp only[execOp,ho,he,Instr.loadAt,Instr.sureAddr,Sem.run_bind,Sem.run_pure,Result.andThen_ok,hv]
 cases g with
 |false=>
  simp only at hn;subst hn;simp only[js];split
  ·rename_i p hp;obtain⟨v,hv,K2⟩:=bB.get hr hp;exact aG h bg Cy (bN v (kH hg hc hv)) K2
  ·trivial
 |true=>
  simp only at hn;obtain⟨m,hm,rfl⟩:=hn;simp only[js];split
  ·rename_i hle;obtain⟨vs,h1,h2,h3⟩:=bB.list ((hr.drop k).take m)
   have hlen:vs.length=m:=by rw[h2];simp;omega
   exact aG h bg Cy (bN _ (kI hg hm hc hlen h3)) (by simp only[lF];exact⟨vs,rfl,h1⟩)
  ·trivial
theorem bM.row {S:Nat→Prop} {w:World}:∀{rs:List (List PV)} {c:Array Value} {o sz j:Nat},aK sz rs→bM S w rs c o→j<rs.length→dm S w (rs.getD j []) c (o+j*sz)
 |[],_,_,_,_,_,_,hj=>by simp at hj
 |r::rs,c,o,sz,0,_,hr,_=>by simp only[bM]at hr;simpa using hr.1
 |r::rs,c,o,sz,j+1,hl,hr,hj=>by
  simp only[bM]at hr;have:=bM.row (j:=j) (fun x hx=>hl x (qaE _ hx)) hr.2 (by simpa using hj);have hs:r.length=sz:=hl r qaz;rw[hs]at this;rw[show o+(j+1)*sz=o+sz+j*sz by rw[qaS,qbt];omega];simpa using this
omit h bg Cy in
theorem rows_block {id sz:Nat} {rs:List (List PV)} {bq:Nat} {b:Nat} (hb:γ id=some b) (ho:eK γ S w (Ref γ S w st.mem) id (.rows sz rs bq)):
  ∃c e,w.heap[b]? =some (.cells c e (0,0))∧rs.length*sz≤c.size∧aK sz rs∧bM S w rs c 0:=by
 rcases ho with⟨h1,_⟩|⟨b',c,e,h1,h2,h3,h4,h5⟩
 ·rw[hb]at h1;cases h1
 ·rw[hb]at h1;cases h1;exact⟨c,e,h2,h3,h4,h5⟩
omit h bg Cy in
theorem bU.row {S:Nat→Prop} {w:World} {ρ:AV→Value→Prop}:∀{rs:List (List AV)} {c:Array Value} {o sz j:Nat},(∀r∈rs,r.length=sz)→bU S w ρ rs c o→j<rs.length→bB S w ρ (rs.getD j []) c (o+j*sz)
 |[],_,_,_,_,_,_,hj=>by simp at hj
 |r::rs,c,o,sz,0,_,hr,_=>by simp only[bU]at hr;simpa using hr.1
 |r::rs,c,o,sz,j+1,hl,hr,hj=>by
  simp only[bU]at hr;have:=bU.row (j:=j) (fun x hx=>hl x (qaE _ hx)) hr.2 (by simpa using hj);have hs:r.length=sz:=hl r qaz;rw[hs]at this;rw[show o+(j+1)*sz=o+sz+j*sz by rw[qaS,qbt];omega];simpa using this
omit h bg Cy in
theorem kf {id sz:Nat} {rs:List (List AV)} {bq:Nat} {b:Nat} (hb:γ id=some b) (ho:eK γ S w (Ref γ S w st.mem) id (.cg sz rs bq)):
  ∃c e,w.heap[b]? =some (.cells c e (0,0))∧rs.length*sz≤c.size∧(∀r∈rs,r.length=sz)∧bU S w (Ref γ S w st.mem) rs c 0:=by
 rcases ho with⟨h1,_⟩|⟨b',c,e,h1,h2,h3,h4,h5⟩
 ·rw[hb]at h1;cases h1
 ·rw[hb]at h1;cases h1;exact⟨c,e,h2,h3,h4,h5⟩
theorem Qt {t:TypeId} {x:Operand} {x':bR} {g:Bool} {n:Option Nat} (ho:o.op=.load t x) (hg:ey P t=some g) (hn:match g with|true=>∃m,dK P t=some m∧n=some m|false=>n=none) (hx:aZ G x=some x'):
  cj P w0 own0 hvs G S0 o a w st kn γ S (KA aF kn (.ld x' n) st.ev):=by
 simp only[KA,ur];have h1:=h.fR hx;split
 ·rename_i id off bZ;rw[bZ]at h1;simp only[lF,Ref]at h1;intro ob bL;simp only[bL]at h1
  cases ob with
  |cells cs=>
   obtain⟨b,hb,he⟩:=h1;obtain⟨b',c,e,fP,hc,dH,hr,_⟩:=h.mem id _ bL;rw[hb]at fP;cases fP;exact A1 h bg Cy (o0:=0) ho hg hn (by rw[qaA];exact he) (by simp[At,hc]) hr
  |_=>trivial
 ·rename_i id bq j off bZ;rw[bZ]at h1;simp only[lF,Ref]at h1;intro ob bL;simp only[bL]at h1
  cases ob with
  |cells cs=>trivial
  |map=>trivial
  |iw=>trivial
  |fz=>trivial
  |cL=>trivial
  |eu=>trivial
  |cg sz rs bm=>
   by_cases hv:bq=bm
   ·subst hv;simp only[qau];obtain⟨b,hb,he,tC,hj⟩:=h1.2 rfl;obtain⟨c,e,hc,dH,bS,hr⟩:=kf hb (h.mem id _ bL);have bK:=bU.row (j:=j.toNat) bS hr (by omega);rw[qaA]at bK;exact A1 h bg Cy ho hg hn he (by simp[At,hc]) bK
   ·simp only[qar.2 hv];trivial
  |rows sz rs bm=>
   by_cases hv:bq=bm
   ·subst hv;simp only[qau];obtain⟨b,hb,he,tC,hj⟩:=h1.2 rfl;obtain⟨c,e,hc,dH,bS,hr⟩:=rows_block hb (h.mem id _ bL);have bK:=bM.row h bg Cy (j:=j.toNat) bS hr (by omega);rw[qaA]at bK;exact rA h bg Cy ho hg hn he (by simp[At,hc]) bK
   ·simp only[qar.2 hv];trivial
  |eO rs bm=>
   by_cases hv:bq=bm
   ·subst hv;simp only[qau];obtain⟨b,o',c,he,hb,hc,hr,hj⟩:=h1.2 rfl;exact rA h bg Cy ho hg hn he hc hr
   ·simp only[qar.2 hv];trivial
 ·rename_i row off bZ;rw[bZ]at h1;simp only[lF]at h1;obtain⟨b,o',c,he,hb,hc,hr⟩:=h1;exact rA h bg Cy ho hg hn he hc hr
 ·rename_i row bZ;rw[bZ]at h1;simp only[lF,aD]at h1;obtain⟨b,o',c,hb,hr⟩:=h1;exact rA h bg Cy (off:=o') (k:=0) ho hg hn (by rw[qcz];exact hb) hr.2.1 hr.2.2
 ·trivial
end
end Go.Am
end
