import Derived.Below
import Derived.Laws.StructEq
import Derived.Laws.Slices
import Derived.Laws.Cells
import Derived.Laws.World
import Derived.Test.YtfaccbkibjkfjaaGreatDoorT00
set_option linter.all false
set_option maxRecDepth 100000
set_option maxHeartbeats 1000000
section
namespace Go.Am
def ag (w:World) (b:Nat):Option (Array Value):=
 match w.heap[b]? with
 |some (.cells c _ _)=>some c
 |_=>none
def fc (w:World) (b:Nat):Option (Array MapEntry×Nat):=
 match w.heap[b]? with
 |some (.map es ck)=>some (es,ck)
 |_=>none
def gD (es:List MapEntry) (ck:Nat):Prop:=(∀e∈es,e.born<ck)∧es.Pairwise (fun a b=>a.born<b.born)
def valOf (g:Bool) (vs:List Value):Value:=
 match g with
 |true=>.agg vs.toArray
 |false=>vs.headD (.agg #[])
def shapeOf (g:Bool) (n:Nat):Prop:=match g with|true=>True|false=>n=1
def aS (sz:Nat) (rows:List (List PV)):Prop:=∀r∈rows,r.length=sz
mutual
def aJ (S:Nat→Prop) (w:World):PV→Value→Prop
 |.bool b,v=>v=.bool b
 |.int k n,v=>v=.int k n
 |.str s,v=>v=.string ⟨s.toArray⟩
 |.nj,v=>v=.pointer none
 |.At,v=>v=.nilFunc
 |.kT,v=>v=.nilIface
 |.pn,v=>v=.map none
 |.gZ f ps,v=>∃vs:List Value,v=.func (.func f) #[] vs.toArray∧a7 S w ps vs
 |.iface t p,v=>∃v',v=.iface t v'∧aJ S w p v'
 |.agg ps,v=>∃vs:List Value,v=.agg vs.toArray∧a7 S w ps vs
 |.ep ps,v=>∃vs:List Value,v=.tuple vs.toArray∧a7 S w ps vs
 |.sl rows spare,v=>∃a cap,v=.slice a rows.length cap∧rows.length+spare.length≤cap∧
   ((rows=[]∧spare=[])∨∃b off c sz,a=some ⟨b,off,none⟩∧S b∧ag w b=some c∧aS sz rows∧aS sz spare∧
    bI S w rows c off∧bI S w spare c (off+rows.length*sz))
 |.ptr ps,v=>∃b off c,v=.pointer (some ⟨b,off,none⟩)∧S b∧ag w b=some c∧b7 S w ps c off
 |.mp kg vg kn rows,v=>∃b es ck,v=.map (some b)∧S b∧fc w b=some (es,ck)∧gD es.toList ck∧bU S w kg vg kn rows es.toList
def a7 (S:Nat→Prop) (w:World):List PV→List Value→Prop
 |[],vs=>vs=[]
 |p::ps,vs=>∃v r,vs=v::r∧aJ S w p v∧a7 S w ps r
def b7 (S:Nat→Prop) (w:World):List PV→Array Value→Nat→Prop
 |[],_,_=>True
 |p::ps,c,off=>(∃v,c[off]? =some v∧aJ S w p v)∧b7 S w ps c (off+1)
def bI (S:Nat→Prop) (w:World):List (List PV)→Array Value→Nat→Prop
 |[],_,_=>True
 |r::rs,c,off=>b7 S w r c off∧bI S w rs c (off+r.length)
def bU (S:Nat→Prop) (w:World) (kg vg:Bool) (kn:Nat):List (List PV)→List MapEntry→Prop
 |[],es=>es=[]
 |r::rs,es=>∃e t kv vv,es=e::t∧a7 S w r (kv++vv)∧kv.length=kn∧shapeOf kg kn∧shapeOf vg vv.length∧e.key=valOf kg kv∧e.val=valOf vg vv∧bU S w kg vg kn rs t
end
def cA (S:Nat→Prop) (w:World) (S':Nat→Prop) (w':World):Prop:=∀b,S b→S' b∧ag w' b=ag w b∧fc w' b=fc w b
theorem eI {w w':World} {b:Nat} (h:w'.heap[b]? =w.heap[b]?):ag w' b=ag w b∧fc w' b=fc w b:=by
 unfold ag fc;rw[h];exact⟨rfl,rfl⟩
theorem cA.refl (S:Nat→Prop) (w:World):cA S w S w:=fun _ h=>⟨h,rfl,rfl⟩
theorem cA.trans {S S' S'':Nat→Prop} {w w' DV:World} (h:cA S w S' w') (h':cA S' w' S'' DV):cA S w S'' DV:=
 fun b hb=>⟨(h' b (h b hb).1).1,((h' b (h b hb).1).2.1).trans (h b hb).2.1,((h' b (h b hb).1).2.2).trans (h b hb).2.2⟩
section
variable {S S':Nat→Prop} {w w':World} (hl:cA S w S' w')
include hl
mutual
theorem aJ.later:∀(p:PV) {v:Value},aJ S w p v→aJ S' w' p v
 |.bool _,_,h=>by simpa only[aJ]using h
 |.int _ _,_,h=>by simpa only[aJ]using h
 |.str _,_,h=>by simpa only[aJ]using h
 |.nj,_,h=>by simpa only[aJ]using h
 |.At,_,h=>by simpa only[aJ]using h
 |.kT,_,h=>by simpa only[aJ]using h
 |.pn,_,h=>by simpa only[aJ]using h
 |.gZ f ps,_,h=>by
  simp only[aJ]at h ⊢;obtain⟨vs,rfl,h⟩:=h;exact⟨vs,rfl,a7.later ps h⟩
 |.iface t p,_,h=>by
  simp only[aJ]at h ⊢;obtain⟨v',rfl,h⟩:=h;exact⟨v',rfl,aJ.later p h⟩
 |.agg ps,_,h=>by
  simp only[aJ]at h ⊢;obtain⟨vs,rfl,h⟩:=h;exact⟨vs,rfl,a7.later ps h⟩
 |.ep ps,_,h=>by
  simp only[aJ]at h ⊢;obtain⟨vs,rfl,h⟩:=h;exact⟨vs,rfl,a7.later ps h⟩
 |.sl rows spare,_,h=>by
  simp only[aJ]at h ⊢;obtain⟨a,cap,rfl,hc,h⟩:=h;refine⟨a,cap,rfl,hc,?_⟩
  rcases h with h|⟨b,off,c,sz,ha,hs,o9,h1,h2,h3,h4⟩
  ·exact .inl h
  ·exact .inr ⟨b,off,c,sz,ha,(hl b hs).1,(hl b hs).2.1.trans o9,h1,h2,bI.later rows h3,bI.later spare h4⟩
 |.ptr ps,_,h=>by
  simp only[aJ]at h ⊢;obtain⟨b,off,c,rfl,hs,o9,h⟩:=h;exact⟨b,off,c,rfl,(hl b hs).1,(hl b hs).2.1.trans o9,b7.later ps h⟩
 |.mp kg vg kn rows,_,h=>by
  simp only[aJ]at h ⊢;obtain⟨b,es,ck,rfl,hs,hm,hb,h⟩:=h;exact⟨b,es,ck,rfl,(hl b hs).1,(hl b hs).2.2.trans hm,hb,bU.later rows h⟩
theorem a7.later:∀(ps:List PV) {vs:List Value},a7 S w ps vs→a7 S' w' ps vs
 |[],_,h=>by simpa only[a7]using h
 |p::ps,_,h=>by
  simp only[a7]at h ⊢;obtain⟨v,r,rfl,h1,h2⟩:=h;exact⟨v,r,rfl,aJ.later p h1,a7.later ps h2⟩
theorem b7.later:∀(ps:List PV) {c:Array Value} {off:Nat},b7 S w ps c off→b7 S' w' ps c off
 |[],_,_,h=>by simp only[b7]
 |p::ps,_,_,h=>by
  simp only[b7]at h ⊢;obtain⟨⟨v,hv,h1⟩,h2⟩:=h;exact⟨⟨v,hv,aJ.later p h1⟩,b7.later ps h2⟩
theorem bI.later:∀(rs:List (List PV)) {c:Array Value} {off:Nat},bI S w rs c off→bI S' w' rs c off
 |[],_,_,h=>by simp only[bI]
 |r::rs,_,_,h=>by
  simp only[bI]at h ⊢;exact⟨b7.later r h.1,bI.later rs h.2⟩
theorem bU.later {kg vg:Bool} {kn:Nat}:∀(rs:List (List PV)) {es:List MapEntry},bU S w kg vg kn rs es→bU S' w' kg vg kn rs es
 |[],_,h=>by simpa only[bU]using h
 |r::rs,_,h=>by
  simp only[bU]at h ⊢;obtain⟨e,t,kv,vv,rfl,h1,h2,h3,h4,h5,h6,h7⟩:=h;exact⟨e,t,kv,vv,rfl,a7.later r h1,h2,h3,h4,h5,h6,bU.later rs h7⟩
end
end
section
variable (S:Nat→Prop) (w:World) (ρ:AV→Value→Prop)
mutual
def aq:AV→Value→Prop
 |.pv p,v=>aJ S w p v
 |.agg cs,v=>∃vs:List Value,v=.agg vs.toArray∧aF cs vs
 |.ep cs,v=>∃vs:List Value,v=.tuple vs.toArray∧aF cs vs
 |.gZ f cs,v=>∃vs:List Value,v=.func (.func f) #[] vs.toArray∧aF cs vs
 |.dB id ver,v=>ρ (.dB id ver) v
 |.ptr id off,v=>ρ (.ptr id off) v
 |.cW id ver j off,v=>ρ (.cW id ver j off) v
 |.fX row off,v=>∃b o c,v=.pointer (some ⟨b,o+off,none⟩)∧S b∧ag w b=some c∧b7 S w row c o
 |.full rows,v=>∃a,v=.slice a rows.length rows.length∧
   (rows=[]∨∃b off c sz,a=some ⟨b,off,none⟩∧S b∧ag w b=some c∧aS sz rows∧bI S w rows c off)
 |.B0 f cs,v=>∃vs:List Value,v=.func (.func f) vs.toArray #[]∧aF cs vs
 |.dt id,v=>ρ (.dt id) v
 |.eR id i,v=>ρ (.eR id i) v
 |.lF rows,v=>∃a,v=.slice a rows.length rows.length∧
   (rows=[]∨∃b off c sz,a=some ⟨b,off,none⟩∧S b∧ag w b=some c∧(∀r∈rows,r.length=sz)∧bR rows c off)
 |.iJ _,v=>v=.pointer none
 |.dead,_=>True
def aF:List AV→List Value→Prop
 |[],vs=>vs=[]
 |x::xs,vs=>∃v r,vs=v::r∧aq x v∧aF xs r
def bz:List AV→Array Value→Nat→Prop
 |[],_,_=>True
 |x::xs,c,off=>(∃v,c[off]? =some v∧aq x v)∧bz xs c (off+1)
def bR:List (List AV)→Array Value→Nat→Prop
 |[],_,_=>True
 |r::rs,c,off=>bz r c off∧bR rs c (off+r.length)
end
end
section
variable {S S':Nat→Prop} {w w':World} {ρ ρ':AV→Value→Prop} (hl:cA S w S' w') (hρ:∀x v,ρ x v→ρ' x v)
include hl hρ
mutual
theorem aq.later:∀(x:AV) {v:Value},aq S w ρ x v→aq S' w' ρ' x v
 |.pv p,_,h=>by simp only[aq]at h ⊢;exact aJ.later hl p h
 |.agg cs,_,h=>by simp only[aq]at h ⊢;obtain⟨vs,rfl,h⟩:=h;exact⟨vs,rfl,aF.later cs h⟩
 |.ep cs,_,h=>by simp only[aq]at h ⊢;obtain⟨vs,rfl,h⟩:=h;exact⟨vs,rfl,aF.later cs h⟩
 |.gZ f cs,_,h=>by simp only[aq]at h ⊢;obtain⟨vs,rfl,h⟩:=h;exact⟨vs,rfl,aF.later cs h⟩
 |.dB id ver,_,h=>by simp only[aq]at h ⊢;exact hρ _ _ h
 |.ptr id off,_,h=>by simp only[aq]at h ⊢;exact hρ _ _ h
 |.cW id ver j off,_,h=>by simp only[aq]at h ⊢;exact hρ _ _ h
 |.fX row off,_,h=>by
  simp only[aq]at h ⊢;obtain⟨b,o,c,rfl,hs,hc,h⟩:=h;exact⟨b,o,c,rfl,(hl b hs).1,(hl b hs).2.1.trans hc,b7.later hl row h⟩
 |.full rows,_,h=>by
  simp only[aq]at h ⊢;obtain⟨a,rfl,h⟩:=h;refine⟨a,rfl,h.imp id ?_⟩;rintro⟨b,off,c,sz,ha,hs,hc,h1,h2⟩;exact⟨b,off,c,sz,ha,(hl b hs).1,(hl b hs).2.1.trans hc,h1,bI.later hl rows h2⟩
 |.B0 f cs,_,h=>by simp only[aq]at h ⊢;obtain⟨vs,rfl,h⟩:=h;exact⟨vs,rfl,aF.later cs h⟩
 |.dt id,_,h=>by simp only[aq]at h ⊢;exact hρ _ _ h
 |.eR id i,_,h=>by simp only[aq]at h ⊢;exact hρ _ _ h
 |.lF rows,_,h=>by
  simp only[aq]at h ⊢;obtain⟨a,rfl,h⟩:=h;refine⟨a,rfl,h.imp id ?_⟩;rintro⟨b,off,c,sz,ha,hs,hc,h1,h2⟩;exact⟨b,off,c,sz,ha,(hl b hs).1,(hl b hs).2.1.trans hc,h1,bR.sa rows h2⟩
 |.iJ _,_,h=>by simpa only[aq]using h
 |.dead,_,_=>by simp only[aq]
theorem aF.later:∀(xs:List AV) {vs:List Value},aF S w ρ xs vs→aF S' w' ρ' xs vs
 |[],_,h=>by simpa only[aF]using h
 |x::xs,_,h=>by
  simp only[aF]at h ⊢;obtain⟨v,r,rfl,h1,h2⟩:=h;exact⟨v,r,rfl,aq.later x h1,aF.later xs h2⟩
theorem bz.sa:∀(xs:List AV) {c:Array Value} {o:Nat},bz S w ρ xs c o→bz S' w' ρ' xs c o
 |[],_,_,h=>by simp only[bz]
 |x::xs,_,_,h=>by
  simp only[bz]at h ⊢;obtain⟨⟨v,hv,h1⟩,h2⟩:=h;exact⟨⟨v,hv,aq.later x h1⟩,bz.sa xs h2⟩
theorem bR.sa:∀(rs:List (List AV)) {c:Array Value} {o:Nat},bR S w ρ rs c o→bR S' w' ρ' rs c o
 |[],_,_,h=>by simp only[bR]
 |r::rs,_,_,h=>by
  simp only[bR]at h ⊢;exact⟨bz.sa r h.1,bR.sa rs h.2⟩
end
end
def Ref (γ:Nat→Option Nat) (S:Nat→Prop) (w:World) (mem:List (Option Obj)):AV→Value→Prop
 |.dB id ver,v=>match aA mem id with
  |some (.rows sz rs bo)=>(ver≤bo∧v.oneCell'=true)∧(ver=bo→∃a cap,v=.slice a rs.length cap∧rs.length≤cap∧
    (cap=0∨∃b c,γ id=some b∧a=some ⟨b,0,none⟩∧ag w b=some c∧c.size=cap*sz))
  |some (.cf sz rs bo)=>(ver≤bo∧v.oneCell'=true)∧(ver=bo→∃a cap,v=.slice a rs.length cap∧rs.length≤cap∧
    (cap=0∨∃b c,γ id=some b∧a=some ⟨b,0,none⟩∧ag w b=some c∧c.size=cap*sz))
  |some (.cH _ rs bo)=>(ver≤bo∧v.oneCell'=true)∧(ver=bo→∃a cap,v=.slice a rs.length cap∧rs.length≤cap∧
    (cap=0∨∃b c,γ id=some b∧a=some ⟨b,0,none⟩∧ag w b=some c∧c.size=cap*1))
  |some (.eL rs bo)=>(ver≤bo∧v.oneCell'=true)∧(ver=bo→aJ S w (.sl rs []) v)
  |_=>False
 |.ptr id off,v=>match aA mem id with
  |some (.cells _)=>∃b,γ id=some b∧v=.pointer (some ⟨b,off,none⟩)
  |some (.fz _ _)=>∃b,γ id=some b∧v=.pointer (some ⟨b,off,none⟩)
  |some (.er _ _)=>∃b,γ id=some b∧v=.pointer (some ⟨b,off,none⟩)
  |_=>False
 |.cW id ver j off,v=>match aA mem id with
  |some (.rows sz rs bo)=>(ver≤bo∧v.oneCell'=true)∧(ver=bo→∃b,γ id=some b∧v=.pointer (some ⟨b,j.toNat*sz+off,none⟩)∧0≤j∧j<rs.length)
  |some (.cf sz rs bo)=>(ver≤bo∧v.oneCell'=true)∧(ver=bo→∃b,γ id=some b∧v=.pointer (some ⟨b,j.toNat*sz+off,none⟩)∧0≤j∧j<rs.length)
  |some (.cH _ rs bo)=>(ver≤bo∧v.oneCell'=true)∧(ver=bo→∃b,γ id=some b∧v=.pointer (some ⟨b,j.toNat*1+off,none⟩)∧0≤j∧j<rs.length)
  |some (.eL rs bo)=>(ver≤bo∧v.oneCell'=true)∧(ver=bo→∃b o c,v=.pointer (some ⟨b,o+off,none⟩)∧S b∧ag w b=some c∧b7 S w (rs.getD j.toNat []) c o∧0≤j∧j<rs.length)
  |_=>False
 |.dt id,v=>match aA mem id with
  |some (.map ..)=>∃b,γ id=some b∧v=.map (some b)
  |some (.iK _)=>∃b,γ id=some b∧v=.map (some b)
  |_=>False
 |.eR id i,v=>match aA mem id with
  |some (.map ..)=>v.oneCell'=true∧∃b es ck e,γ id=some b∧fc w b=some (es,ck)∧0≤i∧es[i.toNat]? =some e∧v=goInt e.born
  |_=>False
 |_,_=>True
def fR (S:Nat→Prop) (w:World) (ρ:AV→Value→Prop):List (List UInt8×AV)→List MapEntry→Prop
 |[],es=>es=[]
 |(s,x)::r,es=>∃e t,es=e::t∧e.key=.string ⟨s.toArray⟩∧aq S w ρ x e.val∧fR S w ρ r t
theorem fR.later {S S':Nat→Prop} {w w':World} {ρ ρ':AV→Value→Prop} (hl:cA S w S' w') (hρ:∀x v,ρ x v→ρ' x v):∀{rs:List (List UInt8×AV)} {es:List MapEntry},fR S w ρ rs es→fR S' w' ρ' rs es
 |[],_,h=>by simpa only[fR]using h
 |(s,x)::r,_,h=>by
  simp only[fR]at h ⊢;obtain⟨e,t,rfl,h1,h2,h3⟩:=h;exact⟨e,t,rfl,h1,aq.later hl hρ x h2,fR.later hl hρ h3⟩
def fU (γ:Nat→Option Nat) (S:Nat→Prop) (w:World) (ρ:AV→Value→Prop) (id:Nat):Obj→Prop
 |.cells cs=>∃b c e,γ id=some b∧w.heap[b]? =some (.cells c e (0,0))∧c.size=cs.length∧bz S w ρ cs c 0∧∀t r,cs=.iJ t::r→e=t
 |.cH t rs _=>(γ id=none∧rs=[])∨∃b c,γ id=some b∧w.heap[b]? =some (.cells c t (0,0))∧rs.length*1≤c.size∧aS 1 rs∧bI S w rs c 0
 |.rows sz rs _=>(γ id=none∧rs=[])∨∃b c e,γ id=some b∧w.heap[b]? =some (.cells c e (0,0))∧rs.length*sz≤c.size∧aS sz rs∧bI S w rs c 0
 |.cf sz rs _=>(γ id=none∧rs=[])∨∃b c e,γ id=some b∧w.heap[b]? =some (.cells c e (0,0))∧rs.length*sz≤c.size∧(∀r∈rs,r.length=sz)∧bR S w ρ rs c 0
 |.eL _ _=>True
 |.map kg vg kn rows=>∃b es ck,γ id=some b∧w.heap[b]? =some (.map es ck)∧gD es.toList ck∧bU S w kg vg kn rows es.toList
 |.iK rows=>∃b es ck,γ id=some b∧w.heap[b]? =some (.map es ck)∧gD es.toList ck∧fR S w ρ rows es.toList
 |.fz s pos=>∃b,γ id=some b∧w.heap[b]? =some (.stringIter ⟨s.toArray⟩ pos.toNat)∧0≤pos
 |.er src seen=>match src with
  |.pn=>∃b,γ id=some b∧w.heap[b]? =some (.mapIter none 0 #[] 0)
  |.mp kg vg kn rows=>∃b mb es ck Jr,γ id=some b∧w.heap[b]? =some (.mapIter (some mb) ck Jr ck)∧S mb∧fc w mb=some (es,ck)∧gD es.toList ck∧bU S w kg vg kn rows es.toList∧
    (∀i e,es[i]? =some e→Jr.contains e.born=seen.contains i)∧∀i r,seen=i::r→∃e,es[i]? =some e∧Jr.back? =some e.born
  |_=>False
structure dj (w0:World) (own0:Nat→Prop) (hvs:List Value) (G:Nat→Option (List PV)) (γ:Nat→Option Nat) (S:Nat→Prop) (st:St) (a:Act) (w:World):Prop where
 size:st.cY.length=a.tmps.size
 slot:∀i,aq S w (Ref γ S w st.mem) (st.slot i) (a.tmps.getD i undef)
 held:aF S w (Ref γ S w st.mem) st.held hvs
 defers:a.defers=[]
 mem:∀id ob,aA st.mem id=some ob→fU γ S w (Ref γ S w st.mem) id ob
 qQ:∀i b,γ i=some b→aA st.mem i≠none
 inj:∀i j b,γ i=some b→γ j=some b→i=j
 own:∀i b,γ i=some b→¬S b∧(w0.heap.size≤b∨own0 b)
 bound:∀b,S b→b<w.heap.size
 dx:∀i b,γ i=some b→b<w.heap.size
 nR:∀g row,G g=some row→S g∧∃c,ag w g=some c∧b7 S w row c 0∧c.size=row.length
 kept:∀b,b<w0.heap.size→¬own0 b→w.heap[b]? =w0.heap[b]?
 os:w.os=w0.os
 tape:w.tape=w0.tape
 output:w.output=w0.output
 eF:w0.heap.size≤w.heap.size
def ie (w0:World) (own0:Nat→Prop) (hvs:List Value) (G:Nat→Option (List PV)) (S0:Nat→Prop) (st:St) (a:Act) (w:World):Prop:=
 ∃γ S,(∀b,S0 b→S b)∧(∀b,S b→S0 b∨w0.heap.size≤b∨own0 b)∧dj w0 own0 hvs G γ S st a w
theorem sc {S:Nat→Prop} {w:World} {v:Value} {p:PV} (h:l0 v=some p):aJ S w p v:=by
 unfold l0 at h;split at h
 ·cases h;simp only[aJ]
 ·cases h;simp only[aJ]
 ·rename_i a;cases h;cases a;simp[aJ]
 ·cases h;simp only[aJ]
 ·cases h;simp only[aJ]
 ·cases h;simp only[aJ]
 ·cases h;simp only[aJ]
 ·cases h;simp only[aJ];exact⟨none,0,rfl,by simp,.inl ⟨trivial,trivial⟩⟩
 ·rename_i f first fW
  split at h
  ·rename_i h1 h2
   cases h
   simp only[aJ,a7];refine⟨[],?_,rfl⟩
   have e1:first=#[]:=by simpa using h1
   have e2:fW=#[]:=by simpa using h2
   rw[e1,e2]
  ·cases h
 ·cases h
theorem Js {v:Value} (h:vM v=some (.sl [] [])):v=.slice none 0 0:=by
 unfold vM at h;split at h
 ·split at h<;>simp at h
 ·unfold l0 at h
  split at h<;>try(simp at h;done)
  ·rfl
  ·split at h<;>simp at h
theorem u6 {S:Nat→Prop} {w:World}:∀{vs:List Value} {ps:List PV},jT vs=some ps→a7 S w ps vs
 |[],ps,h=>by simp only[jT,Option.some.injEq]at h;subst h;simp only[a7]
 |v::r,ps,h=>by
  simp only[jT]at h
  cases h1:l0 v with
  |none=>simp[h1]at h
  |some p=>
   cases h2:jT r with
   |none=>simp[h1,h2]at h
   |some q=>
    simp only[h1,h2,Option.some.injEq]at h;subst h;simp only[a7];exact⟨v,r,rfl,sc h1,u6 h2⟩
theorem wJ {S:Nat→Prop} {w:World} {v:Value} {p:PV} (h:vM v=some p):aJ S w p v:=by
 unfold vM at h;split at h
 ·rename_i cs
  cases h1:jT cs.toList with
  |none=>simp[h1]at h
  |some q=>
   simp only[h1,Option.some.injEq]at h;subst h;simp only[aJ];exact⟨cs.toList,by simp,u6 h1⟩
 ·exact sc h
section
variable {w0:World} {own0:Nat→Prop} {hvs:List Value} {G:Nat→Option (List PV)} {γ:Nat→Option Nat} {S:Nat→Prop} {st:St} {a:Act} {w:World}
theorem dj.aj (h:dj w0 own0 hvs G γ S st a w) {o:Operand} {x:bN} (hx:a8 G o=some x):
  aq S w (Ref γ S w st.mem) (st.ev x) (a.eval o):=by
 cases o with
 |tmp t=>simp only[a8,Option.some.injEq]at hx;subst hx;exact h.slot t
 |const v=>
  simp only[a8]at hx
  cases hp:vM v with
  |none=>simp[hp]at hx
  |some p=>
   simp only[hp,Option.map_some,Option.some.injEq]at hx;subst hx;have hr:aJ S w p v:=wJ hp;show aq S w (Ref γ S w st.mem) (st.ev (.k p)) v
   by_cases hn:p=.sl [] []
   ·subst hn;have hv:=Js hp;subst hv;simp only[St.ev,aq];exact⟨none,rfl,.inl trivial⟩
   ·have e:st.ev (.k p)=.pv p:=by
     unfold St.ev;split
     ·rename_i heq;cases heq
     ·rename_i heq;cases heq;exact absurd rfl hn
     ·rename_i heq;cases heq;rfl
     ·rename_i heq;cases heq
    rw[e];simp only[aq];exact hr
 |global g=>
  simp only[a8]at hx
  cases hg:G g with
  |none=>simp[hg]at hx
  |some row=>
   simp only[hg,Option.map_some,Option.some.injEq]at hx;subst hx;obtain⟨hs,c,hc,hr,_⟩:=h.nR g row hg;simp only[St.ev,aq,Act.eval];exact⟨g,0,c,rfl,hs,hc,hr⟩
 |func f=>
  simp only[a8,Option.some.injEq]at hx;subst hx;simp only[St.ev,aq,aJ,a7,Act.eval];exact⟨[],rfl,rfl⟩
theorem dj.put (h:dj w0 own0 hvs G γ S st a w) (d:Option Nat) {v:AV} {u:Value} (hv:aq S w (Ref γ S w st.mem) v u):
  dj w0 own0 hvs G γ S (st.put d v) (a.put d u) w:=by
 cases d with
 |none=>exact h
 |some d=>
  refine{h with size:=?_,slot:=?_,held:=h.held,defers:=h.defers}
  ·simp[St.put,Act.put,h.size]
  ·intro i;have hi:=h.slot i;simp only[St.put,Act.put,St.slot]at*
   by_cases hd:i=d
   ·subst hd
    by_cases bL:i<st.cY.length
    ·have Jt:i<a.tmps.size:=h.size▸bL
     have e1:(st.cY.set i v).getD i .dead=v:=by simp[List.getD_eq_getElem?_getD,bL]
     have e2:(a.tmps.setIfInBounds i u).getD i undef=u:=by simp[Array.getD_eq_getD_getElem?,Jt]
     rw[e1,e2];exact hv
    ·have e1:st.cY.set i v=st.cY:=List.set_eq_of_length_le (by omega);have e2:a.tmps.setIfInBounds i u=a.tmps:=Array.setIfInBounds_eq_of_size_le (by rw[←h.size];omega);rw[e1,e2];exact hi
   ·have e1:(st.cY.set d v).getD i .dead=st.cY.getD i .dead:=by
     simp[List.getD_eq_getElem?_getD,List.getElem?_set_ne (Ne.symm hd)]
    have e2:(a.tmps.setIfInBounds d u).getD i undef=a.tmps.getD i undef:=by
     simp only[Array.getD_eq_getD_getElem?,Array.getElem?_setIfInBounds_ne (Ne.symm hd)]
    rw[e1,e2];exact hi
end
end Go.Am
end
section
namespace Go.Am
def bw:List PV→List PV→Bool
 |[],[]=>true
 |.bool a::r,.bool b::s=>(a==b)&&bw r s
 |.int _ a::r,.int _ b::s=>(a==b)&&bw r s
 |.str a::r,.str b::s=>(a==b)&&bw r s
 |_,_=>false
def aX:List Nat→List PV→List PV→Prop
 |[],[],[]=>True
 |0::sh,.bool _::r,.bool _::s=>aX sh r s
 |1::sh,.int k _::r,.int k' _::s=>k=k'∧aX sh r s
 |2::sh,.str _::r,.str _::s=>aX sh r s
 |_,_,_=>False
def cr (sz:Nat) (rows:List (List PV)):Prop:=∀r∈rows,r.length=sz∧∀p∈r,(AV.pv p).one=true
def dP (kn:Nat) (rows:List (List PV)) (k:List PV):Bool:=rows.any fun r=>bw k (r.take kn)
def fe (kn:Nat) (rows:List (List PV)) (k:List PV):Nat:=rows.findIdx fun r=>bw k (r.take kn)
def jn (kn:Nat) (rows:List (List PV)) (k z:List PV):List PV:=
 match rows.find? fun r=>bw k (r.take kn)with
 |some r=>r.drop kn
 |none=>z
def jU (g:Bool) (ps:List PV):PV:=match g with|true=>.agg ps|false=>ps.headD .nj
def aG:Ar:={
 wrap:=IntKind.wrap
 add:=(·+·)
 sub:=(·-·)
 mul:=(·*·)
 quo:=Int.tdiv
 rem:=Int.tmod
 bits op k x y:=
  let a:=BitVec.ofInt k.bits x
  let b:=BitVec.ofInt k.bits y
  k.wrap ((match op with|.and=>(a&&&b)|.or=>(a|||b)|.xor=>(a^^^b)|_=>(a&&&~~~b)).toNat:Nat)
 shl k x y:=k.wrap (x*2^(min y.toNat k.bits))
 shr k x y:=x.fdiv (2^(min y.toNat k.bits))
 lt a b:=decide (a<b)
 le a b:=decide (a≤b)
 eq a b:=decide (a=b)
 not b:= !b
 min a b:=if b<a then b else a
 max a b:=if b>a then b else a
 nz n:=n≠0
 D9 n:=0≤n
 ofNat n:=n
 yH s:=s.length
 sat s j:=((s.getD j.toNat 0).toNat:Nat)
 sin j s:=0≤j∧j<s.length
 Mu a b:=a++b
 Mv a b:=a.length+b.length≤9223372036854775807
 Mw s l h:=(s.drop l.toNat).take (h.toNat-l.toNat)
 sbd l h s:=0≤l∧l≤h∧h≤s.length
 seq a b:=decide (a=b)
 slt a b:=Op.bytesLess a b
 nk rows:=rows.length
 rat rows j:=rows.getD j.toNat []
 wx j rows sz:=0≤j∧j<rows.length∧(rows.getD j.toNat []).length=sz
 re a b:=a++b
 po xs ys bytes sz:=(xs.length+ys.length+256)*bytes≤2^46∧xs.length+ys.length≤2^46∧cr sz ys∧aS sz xs
 Rk xs ys:=xs=[]∨ys≠[]
 XX:=bw
 Jh:=aX
 bytes s:=s.map fun b=>[.int .u8 (b.toNat:Nat)]
 gB rows:=rows.map fun r=>match r with|[.int _ n]=>UInt8.ofNat n.toNat|_=>0
 rW rows:=∀r∈rows,∃n,r=[.int .u8 n]
 wy rows l h:=(rows.drop l.toNat).take (h.toNat-l.toNat)
 XY l h rows spare sz:=0≤l∧l≤h∧h≤rows.length+spare.length∧(l=0∨aS sz (rows++spare))
 yI l h rows sz:=0≤l∧l≤h∧h≤rows.length∧(l=0∨aS sz rows)
 Mx rows j off ys:=rows.set j.toNat (np off ys (rows.getD j.toNat []))
 Ce n z:=List.replicate n.toNat z
 Xt l c bytes:=0≤l∧l≤c∧c*bytes≤2^47∧c≤2^47
 aat rs j:=rs.getD j.toNat []
 ain j rs sz:=0≤j∧j<rs.length∧(rs.getD j.toNat []).length=sz
 My rs j off ys:=rs.set j.toNat (place off ys (rs.getD j.toNat []))
 Au a b:=a++b
 Cf xs ys bytes sz:=(xs.length+ys.length+256)*bytes≤2^46∧xs.length+ys.length≤2^46∧(∀r∈ys,r.length=sz∧fr r=true)∧(∀r∈xs,r.length=sz)
 Mz rs:=rs.length
 off j sz:=j.toNat*sz
 Ji j n:=0≤j∧j<n
 Ea sh kn rows k:=k.length=kn∧aX sh k k∧∀r∈rows,aX sh k (r.take kn)
 Av:=dP
 Jj:=jn
 zb kn rows k z:=(jn kn rows k z).headD .nj
 mix kn rows k:=(fe kn rows k:Nat)
 Jk kn rows k v:=match dP kn rows k with|true=>rows.modify (fe kn rows k) (fun _=>k++v)|false=>rows++[k++v]
 ug kn rows k z:=match dP kn rows k with|true=>rows|false=>rows++[k++z]
 Jl kn rows i v:=rows.modify i.toNat (fun r=>r.take kn++v)
 MA i rows:=0≤i∧i<rows.length
 mleft seen rows i:=i<rows.length∧seen.contains i=false
 Cg seen rows:=(List.range rows.length).all fun i=>seen.contains i
 MB kg kn rows i:=jU kg ((rows.getD i []).take kn)
 MC vg kn rows i:=jU vg ((rows.getD i []).drop kn)
 rune s pos:=(Utf8.decode ⟨s.toArray⟩ pos.toNat).1
 Eb s pos:=((Utf8.decode ⟨s.toArray⟩ pos.toNat).2:Nat)
 MD a b:=a+b
 }
section
variable (P:Program) (w0:World) (own0:Nat→Prop) (hvs:List Value) (G:Nat→Option (List PV)) (S0:Nat→Prop)
def pq (o:Oper) (a:Act) (w:World) (st':St) (v:AV):Prop:=
 ∃u w' γ' S',((execOp a.eval o).run P w=.ok (.value u) w'∨((execOp a.eval o).run P w=.ok .skip w'∧u=undef))∧
  (∀b,S0 b→S' b)∧(∀b,S' b→S0 b∨w0.heap.size≤b∨own0 b)∧dj w0 own0 hvs G γ' S' st' a w'∧aq S' w' (Ref γ' S' w' st'.mem) v u
def ek (o:Oper) (a:Act) (w:World) (st:St) (kn:Nat) (γ:Nat→Option Nat) (S:Nat→Prop):Out→Prop
 |.bad=>True
 |.val v=>pq P w0 own0 hvs G S0 o a w st v
 |.dH p v=>p→pq P w0 own0 hvs G S0 o a w st v
 |.dw id ob v=>pq P w0 own0 hvs G S0 o a w (st.aC id ob) v
 |.iL p id ob v=>p→pq P w0 own0 hvs G S0 o a w (st.aC id ob) v
 |.new ob v=>aA st.mem kn=none→kn≤st.mem.length→pq P w0 own0 hvs G S0 o a w (st.aC kn ob) v
 |.km p ob v=>aA st.mem kn=none→kn≤st.mem.length→p→pq P w0 own0 hvs G S0 o a w (st.aC kn ob) v
 |.call f args=>∃vs:List Value,(execOp a.eval o).run P w=(callFunc f vs.toArray).run P w∧aF S w (Ref γ S w st.mem) args vs
 |.all p id ob v=>∃i,p i∧pq P w0 own0 hvs G S0 o a w (st.aC id (ob i)) (v i)
def cg (o:Oper) (a:Act) (w:World) (st:St) (kn:Nat) (γ:Nat→Option Nat) (S:Nat→Prop):tZ→Prop
 |.pure out=>ek P w0 own0 hvs G S0 o a w st kn γ S out
 |.rd id k=>∀ob,aA st.mem id=some ob→ek P w0 own0 hvs G S0 o a w st kn γ S (k ob)
end
section
variable {P:Program} {w0:World} {own0:Nat→Prop} {hvs:List Value} {G:Nat→Option (List PV)} {S0:Nat→Prop} {accs:List Nat}
 {γ:Nat→Option Nat} {S:Nat→Prop} {st:St} {a:Act} {w:World} {o:Oper} {kn:Nat}
 (h:dj w0 own0 hvs G γ S st a w) (bm:∀b,S0 b→S b) (bd:∀b,S b→S0 b∨w0.heap.size≤b∨own0 b)
include h bm bd
theorem aK {u:Value} {v:AV} (hr:(execOp a.eval o).run P w=.ok (.value u) w) (hv:aq S w (Ref γ S w st.mem) v u):pq P w0 own0 hvs G S0 o a w st v:=
 ⟨u,w,γ,S,.inl hr,bm,bd,h,hv⟩
theorem Rp {x:Operand} {x':bN} (ho:o.op=.move x∨o.op=.assign x) (hx:a8 G x=some x'):
  cg P w0 own0 hvs G S0 o a w st kn γ S (b6 aG kn (.mv x') st.ev):=by
 refine aK h bm bd (u:=a.eval x) ?_ (h.aj hx)
 rcases ho with ho|ho<;>simp[execOp,ho]
theorem MI {c x y:Operand} {c' x' y':bN} (ho:o.op=.pick c x y) (hc:a8 G c=some c') (hx:a8 G x=some x') (hy:a8 G y=some y'):
  cg P w0 own0 hvs G S0 o a w st kn γ S (b6 aG kn (.pick c' x' y') st.ev):=by
 simp only[b6];have h1:=h.aj hc;split
 ·rename_i b4;rw[b4]at h1;simp only[aq,aJ]at h1;exact aK h bm bd (u:=a.eval x) (by simp[execOp,ho,h1,asBool]) (h.aj hx)
 ·rename_i b4;rw[b4]at h1;simp only[aq,aJ]at h1;exact aK h bm bd (u:=a.eval y) (by simp[execOp,ho,h1,asBool]) (h.aj hy)
 ·trivial
theorem T1 {s d:TypeId} {x:Operand} {x':bN} {k k':IntKind} (ho:o.op=.convert s d x) (hs:P.underlying s=some (.int k')) (hd:P.underlying d=some (.int k)) (hx:a8 G x=some x'):
  cg P w0 own0 hvs G S0 o a w st kn γ S (b6 aG kn (.Xj k x') st.ev):=by
 simp only[b6];have h1:=h.aj hx;split
 ·rename_i n b4;rw[b4]at h1;simp only[aq,aJ]at h1;exact aK h bm bd (u:=.int k (k.wrap n)) (by simp[execOp,ho,convert,run_underlying,hs,hd,h1,Conv.intToInt]) (by simp only[aq,aJ,aG])
 ·trivial
theorem X2 {op:UnOp} {t:TypeId} {x:Operand} {x':bN} (ho:o.op=.unOp op t x) (hx:a8 G x=some x'):
  cg P w0 own0 hvs G S0 o a w st kn γ S (b6 aG kn (.un op x') st.ev):=by
 simp only[b6,ME];have h1:=h.aj hx;split
 ·rename_i b4;rw[b4]at h1;simp only[aq,aJ]at h1;exact aK h bm bd (u:=.bool false) (by simp[execOp,ho,h1,Op.unary]) (by simp only[aq,aJ])
 ·rename_i b4;rw[b4]at h1;simp only[aq,aJ]at h1;exact aK h bm bd (u:=.bool true) (by simp[execOp,ho,h1,Op.unary]) (by simp only[aq,aJ])
 ·rename_i k n b4;rw[b4]at h1;simp only[aq,aJ]at h1;exact aK h bm bd (u:=.int k (k.wrap (0-n))) (by simp[execOp,ho,h1,Op.unary,Op.intArith]) (by simp only[aq,aJ,aG])
 ·trivial
theorem T2 {x:Operand} {x':bN} {i:Nat} (ho:o.op=.extract x i) (hx:a8 G x=some x'):
  cg P w0 own0 hvs G S0 o a w st kn γ S (b6 aG kn (.ext x' i) st.ev):=by
 simp only[b6];have h1:=h.aj hx;split
 ·rename_i vs b4;rw[b4]at h1;simp only[aq,aJ]at h1;obtain⟨us,he,hl⟩:=h1;split
  ·rename_i v hv
   have key:∀(ps:List PV) (us:List Value) (i:Nat) (v:PV),a7 S w ps us→ps[i]? =some v→∃u,us[i]? =some u∧aJ S w v u:=by
    intro ps
    induction ps with
    |nil=>intro us i v _ hv;simp at hv
    |cons p ps ih=>
     intro us i v hl hv;simp only[a7]at hl;obtain⟨u,r,rfl,h1,h2⟩:=hl
     cases i with
     |zero=>simp only[List.getElem?_cons_zero,Option.some.injEq]at hv;subst hv;exact⟨u,rfl,h1⟩
     |succ i=>simpa using ih r i v h2 (by simpa using hv)
   obtain⟨u,hu,hr⟩:=key vs us i v hl hv;exact aK h bm bd (u:=u) (by simp[execOp,ho,he,Instr.extract,hu]) (by simp only[aq];exact hr)
  ·trivial
 ·rename_i vs b4;rw[b4]at h1;simp only[aq]at h1;obtain⟨us,he,hl⟩:=h1;split
  ·rename_i v hv
   have key:∀(ps:List AV) (us:List Value) (i:Nat) (v:AV),aF S w (Ref γ S w st.mem) ps us→ps[i]? =some v→∃u,us[i]? =some u∧aq S w (Ref γ S w st.mem) v u:=by
    intro ps
    induction ps with
    |nil=>intro us i v _ hv;simp at hv
    |cons p ps ih=>
     intro us i v hl hv;simp only[aF]at hl;obtain⟨u,r,rfl,h1,h2⟩:=hl
     cases i with
     |zero=>simp only[List.getElem?_cons_zero,Option.some.injEq]at hv;subst hv;exact⟨u,rfl,h1⟩
     |succ i=>simpa using ih r i v h2 (by simpa using hv)
   obtain⟨u,hu,hr⟩:=key vs us i v hl hv;exact aK h bm bd (u:=u) (by simp[execOp,ho,he,Instr.extract,hu]) hr
  ·trivial
 ·trivial
theorem T3 {t:TypeId} {x i:Operand} {x' i':bN} (ho:o.op=.index t x i) (ht:P.underlying t=some .string) (hx:a8 G x=some x') (hi:a8 G i=some i'):
  cg P w0 own0 hvs G S0 o a w st kn γ S (b6 aG kn (.TP x' i') st.ev):=by
 simp only[b6];have h1:=h.aj hx;have h2:=h.aj hi;split
 ·rename_i s k j b4 lz;rw[b4]at h1;rw[lz]at h2;simp only[aq,aJ]at h1 h2;rintro⟨zj,AF⟩
  have bL:j.toNat<s.length:=by omega
  refine aK h bm bd (u:=.int .u8 (s.getD j.toNat 0).toNat) ?_ (by simp only[aq,aJ,aG])
  have pr:(ByteArray.mk s.toArray)[j.toNat]? =some s[j.toNat]:=by
   rw[getElem?_pos _ _ (by simpa[ByteArray.size]using bL)];rfl
  have hd:s.getD j.toNat 0=s[j.toNat]:=by rw[List.getD_eq_getElem?_getD,List.getElem?_eq_getElem bL];rfl
  simp only[execOp,ho,h1,h2,Instr.index,asIntOf,Sem.run_bind,Sem.run_pure,Result.andThen_ok,run_underlying ht,if_pos zj,pr,hd]
 ·trivial
theorem T4 {t:TypeId} {x:Operand} {x':bN} (ho:o.op=.makeInterface t x) (ht:∃d,P.underlying t=some d∧∀ms,d≠.interface ms) (hx:a8 G x=some x')
  (X3:∀y p v,AV.flat y=some p→aq S w (Ref γ S w st.mem) y v→aJ S w p v):
  cg P w0 own0 hvs G S0 o a w st kn γ S (b6 aG kn (.Xl t x') st.ev):=by
 simp only[b6];have h1:=h.aj hx;split
 ·rename_i p hp;obtain⟨d,hd,hn⟩:=ht;refine aK h bm bd (u:=.iface t (a.eval x)) ?_ (by simp only[aq,aJ];exact⟨_,rfl,X3 _ _ _ hp h1⟩);simp only[execOp,ho,Instr.makeInterface,Sem.run_bind,run_underlying hd,Result.andThen_ok]
  cases d<;>first|rfl|exact absurd rfl (hn _)
 ·trivial
theorem T5 {s:TypeId} {x:Operand} {x':bN} {f:Nat} {fs:Array Field} {fd:Field} {ti:TypeInfo} (ho:o.op=.fieldAddr s x f) (hs:P.underlying s=some (.struct fs)) (hf:fs[f]? =some fd)
  (hti:P.info? fd.type=some ti) (hn:ti.size≠0) (hx:a8 G x=some x'):
  cg P w0 own0 hvs G S0 o a w st kn γ S (b6 aG kn (.pad x' fd.offset) st.ev):=by
 have bJ:∀b off,a.eval x=.pointer (some ⟨b,off,none⟩)→(execOp a.eval o).run P w=.ok (.value (.pointer (some ⟨b,off+fd.offset,none⟩))) w:=by
  intro b off he;simp only[execOp,ho,he,Instr.fieldAt,Sem.run_bind,run_underlying hs,Result.andThen_ok,hf,Instr.sureAddr,Sem.run_pure,fieldPlace,sizeOf,typeInfo,run_program,hti,hn,if_false,Addr.add]
  by_cases hz:fd.offset=0<;>simp[hz]
 simp only[b6];have h1:=h.aj hx;split
 ·rename_i id off b4;rw[b4]at h1;simp only[aq,Ref]at h1;split at h1
  ·rename_i cs hm;obtain⟨b,hb,he⟩:=h1;refine aK h bm bd (bJ b off he) ?_;simp only[aq,Ref,hm];exact⟨b,hb,rfl⟩
  ·rename_i cs hm;obtain⟨b,hb,he⟩:=h1;refine aK h bm bd (bJ b off he) ?_;simp only[aq,Ref,hm];exact⟨b,hb,rfl⟩
  ·rename_i cs hm;obtain⟨b,hb,he⟩:=h1;refine aK h bm bd (bJ b off he) ?_;simp only[aq,Ref,hm];exact⟨b,hb,rfl⟩
  ·exact h1.elim
 ·rename_i row off b4;rw[b4]at h1;simp only[aq]at h1;obtain⟨b,o',c,he,hb,hc,hr⟩:=h1;refine aK h bm bd (bJ b _ he) ?_;simp only[aq];exact⟨b,o',c,by rw[Nat.add_assoc],hb,hc,hr⟩
 ·rename_i id ver j off b4;rw[b4]at h1;simp only[aq,Ref]at h1;intro ob bH;simp only[bH]at h1
  cases ob with
  |cells cs=>trivial
  |map=>trivial
  |iK=>trivial
  |fz=>trivial
  |cH=>trivial
  |er=>trivial
  |rows sz rs bo=>
   by_cases hv:ver=bo
   ·subst hv;simp only[beq_self_eq_true];obtain⟨b,hb,he,hj⟩:=h1.2 rfl;refine aK h bm bd (bJ b _ he) ?_;simp only[aq,Ref,bH];exact⟨⟨Nat.le_refl _,rfl⟩,fun _=>⟨b,hb,by rw[Nat.add_assoc],hj⟩⟩
   ·simp only[beq_eq_false_iff_ne.2 hv];trivial
  |cf sz rs bo=>
   by_cases hv:ver=bo
   ·subst hv;simp only[beq_self_eq_true];obtain⟨b,hb,he,hj⟩:=h1.2 rfl;refine aK h bm bd (bJ b _ he) ?_;simp only[aq,Ref,bH];exact⟨⟨Nat.le_refl _,rfl⟩,fun _=>⟨b,hb,by rw[Nat.add_assoc],hj⟩⟩
   ·simp only[beq_eq_false_iff_ne.2 hv];trivial
  |eL rs bo=>
   by_cases hv:ver=bo
   ·subst hv;simp only[beq_self_eq_true];obtain⟨b,o',c,he,hb,hc,hr⟩:=h1.2 rfl;refine aK h bm bd (bJ b _ he) ?_;simp only[aq,Ref,bH];exact⟨⟨Nat.le_refl _,rfl⟩,fun _=>⟨b,o',c,by rw[Nat.add_assoc],hb,hc,hr⟩⟩
   ·simp only[beq_eq_false_iff_ne.2 hv];trivial
 ·rename_i row b4;rw[b4]at h1;simp only[aq,aJ]at h1;obtain⟨b,off,c,he,hb,hc,hr⟩:=h1;refine aK h bm bd (bJ b _ he) ?_;simp only[aq];exact⟨b,off,c,rfl,hb,hc,hr⟩
 ·trivial
end
end Go.Am
end
section
namespace Go.Am
section
variable {P:Program} {w0:World} {own0:Nat→Prop} {hvs:List Value} {G:Nat→Option (List PV)} {S0:Nat→Prop} {accs:List Nat}
 {γ:Nat→Option Nat} {S:Nat→Prop} {st:St} {a:Act} {w:World} {o:Oper} {kn:Nat}
 (h:dj w0 own0 hvs G γ S st a w) (bm:∀b,S0 b→S b) (bd:∀b,S b→S0 b∨w0.heap.size≤b∨own0 b)
theorem lJ (s:List UInt8):(ByteArray.mk s.toArray).toList=s:=by rw[ByteArray.toList_eq]
theorem Cn (op:BinOp) (t:TypeId) (x y:Operand) (hc:(isConst x||isConst y)=true):(eqGuard op t x y .nilIface .nilIface).run P w=.ok () w:=by
 simp only[eqGuard]
 cases op<;>first|rfl|(cases x<;>cases y<;>first|rfl|exact Bool.noConfusion hc)
theorem Ed {t u:TypeId} {v:Value} {ms:Array (String×TypeId)} (d:Nat) (ht:P.underlying t=some (.interface ms)):(Op.equalIn (d+1) t .nilIface .nilIface).run P w=.ok true w:=by
 simp only[Op.equalIn,Sem.run_bind,run_underlying ht,Result.andThen_ok,Sem.run_pure]
theorem nS {t u:TypeId} {v:Value} {ms:Array (String×TypeId)} (ht:P.underlying t=some (.interface ms)):(Op.equal t .nilIface .nilIface).run P w=.ok true w:=Ed (u:=u) (v:=v) 9999 ht
theorem Ee {t u:TypeId} {v:Value} {ms:Array (String×TypeId)} (d:Nat) (ht:P.underlying t=some (.interface ms)):(Op.equalIn (d+1) t .nilIface (.iface u v)).run P w=.ok false w:=by
 simp only[Op.equalIn,Sem.run_bind,run_underlying ht,Result.andThen_ok,Sem.run_pure]
theorem nT {t u:TypeId} {v:Value} {ms:Array (String×TypeId)} (ht:P.underlying t=some (.interface ms)):(Op.equal t .nilIface (.iface u v)).run P w=.ok false w:=Ee (u:=u) (v:=v) 9999 ht
theorem Ef {t u:TypeId} {v:Value} {ms:Array (String×TypeId)} (d:Nat) (ht:P.underlying t=some (.interface ms)):(Op.equalIn (d+1) t (.iface u v) .nilIface).run P w=.ok false w:=by
 simp only[Op.equalIn,Sem.run_bind,run_underlying ht,Result.andThen_ok,Sem.run_pure]
theorem nU {t u:TypeId} {v:Value} {ms:Array (String×TypeId)} (ht:P.underlying t=some (.interface ms)):(Op.equal t (.iface u v) .nilIface).run P w=.ok false w:=Ef (u:=u) (v:=v) 9999 ht
theorem F7 (m n:List UInt8):(m==n)=decide (m=n):=by rw[Bool.eq_iff_iff];simp
theorem fD:∀(x:AV) {p:PV} {v:Value},AV.flat x=some p→aq S w (Ref γ S w st.mem) x v→aJ S w p v:=by
 have hL:∀(cs:List AV) {ps:List PV} {vs:List Value},AV.mR cs=some ps→aF S w (Ref γ S w st.mem) cs vs→a7 S w ps vs:=by
  intro cs
  induction cs with
  |nil=>intro ps vs he hr;simp only[AV.mR,Option.some.injEq]at he;subst he;simpa only[aF,a7]using hr
  |cons c cs ih=>
   intro ps vs he hr;simp only[aF]at hr;obtain⟨v,r,rfl,h1,h2⟩:=hr
   cases c with
   |pv p=>
    simp only[AV.mR]at he;split at he
    ·rename_i q hq;simp only[Option.some.injEq]at he;subst he;simp only[aq]at h1;simp only[a7];exact⟨v,r,rfl,h1,ih hq h2⟩
    ·simp at he
   |full rows=>
    simp only[AV.mR]at he;split at he
    ·rename_i q hq;simp only[Option.some.injEq]at he;subst he;simp only[aq]at h1;simp only[a7];refine⟨v,r,rfl,?_,ih hq h2⟩;simp only[aJ];obtain⟨a0,rfl,h1⟩:=h1;refine⟨a0,_,rfl,by simp,?_⟩
     rcases h1 with h1|⟨b,off,c,sz,ha,hs,hc,h3,h4⟩
     ·exact .inl ⟨h1,trivial⟩
     ·exact .inr ⟨b,off,c,sz,ha,hs,hc,h3,by simp[aS],h4,by simp only[bI]⟩
    ·simp at he
   |_=>simp[AV.mR]at he
 intro x p v hp hr
 cases x with
 |pv q=>simp only[AV.flat,Option.some.injEq]at hp;subst hp;simpa only[aq]using hr
 |full rows=>
  simp only[AV.flat,Option.some.injEq]at hp;subst hp;simp only[aq]at hr;simp only[aJ];obtain⟨a0,rfl,h1⟩:=hr;refine⟨a0,_,rfl,by simp,?_⟩
  rcases h1 with h1|⟨b,off,c,sz,ha,hs,hc,h3,h4⟩
  ·exact .inl ⟨h1,trivial⟩
  ·exact .inr ⟨b,off,c,sz,ha,hs,hc,h3,by simp[aS],h4,by simp only[bI]⟩
 |agg cs=>
  simp only[AV.flat]at hp;split at hp
  ·rename_i q hq;simp only[Option.some.injEq]at hp;subst hp;simp only[aq]at hr;obtain⟨vs,rfl,hr⟩:=hr;simp only[aJ];exact⟨vs,rfl,hL cs hq hr⟩
  ·simp at hp
 |gZ f cs=>
  simp only[AV.flat]at hp;split at hp
  ·rename_i q hq;simp only[Option.some.injEq]at hp;subst hp;simp only[aq]at hr;obtain⟨vs,rfl,hr⟩:=hr;simp only[aJ];exact⟨vs,rfl,hL cs hq hr⟩
  ·simp at hp
 |_=>simp[AV.flat]at hp
include h bm bd
theorem Eg {op:BinOp} {t ty:TypeId} {x y:Operand} {k k':IntKind} {m n:Int} (ho:o.op=.binOp op t x y ty) (hx:a.eval x=.int k m) (hy:a.eval y=.int k' n):
  ek P w0 own0 hvs G S0 o a w st kn γ S (match(generalizing:=false) op with
   |.shl=>.dH (aG.D9 n) (.pv (.int k (aG.shl k m n)))
   |.shr=>.dH (aG.D9 n) (.pv (.int k (aG.shr k m n)))
   |op=>if k=k' then wz aG op k m n else .bad):=by
 have hg:∀op,(eqGuard op t x y (.int k m) (.int k' n)).run P w=.ok () w:=by intro op;simp only[eqGuard];cases op<;>rfl
 have bJ:∀v,(binOp op t (.int k m) (.int k' n)).run P w=.ok v w→(execOp a.eval o).run P w=.ok (.value v) w:=by
  intro v hv;simp only[execOp,ho,hx,hy,Sem.run_bind,hg,Result.andThen_ok,hv,Sem.run_pure]
 have done:∀v p,(binOp op t (.int k m) (.int k' n)).run P w=.ok v w→aJ S w p v→pq P w0 own0 hvs G S0 o a w st (.pv p):=
  fun v p hv hr=>aK h bm bd (bJ v hv) (by simpa only[aq]using hr)
 by_cases hk:k=k'
 ·subst hk
  cases op with
  |shl=>intro hn;exact done _ _ (by simp only[aG]at hn;simp only[binOp,Op.shift];rw[if_neg (by omega)];rfl) (by simp only[aJ,aG])
  |shr=>intro hn;exact done _ _ (by simp only[aG]at hn;simp only[binOp,Op.shift];rw[if_neg (by omega)];rfl) (by simp only[aJ,aG])
  |add=>show ek P w0 own0 hvs G S0 o a w st kn γ S (if k=k then _ else _);rw[if_pos rfl];exact done _ _ (by simp only[binOp,ne_eq,not_true_eq_false,if_false,Op.intArith];rfl) (by simp only[aJ,aG])
  |sub=>show ek P w0 own0 hvs G S0 o a w st kn γ S (if k=k then _ else _);rw[if_pos rfl];exact done _ _ (by simp only[binOp,ne_eq,not_true_eq_false,if_false,Op.intArith];rfl) (by simp only[aJ,aG])
  |mul=>show ek P w0 own0 hvs G S0 o a w st kn γ S (if k=k then _ else _);rw[if_pos rfl];exact done _ _ (by simp only[binOp,ne_eq,not_true_eq_false,if_false,Op.intArith];rfl) (by simp only[aJ,aG])
  |quo=>show ek P w0 own0 hvs G S0 o a w st kn γ S (if k=k then _ else _);rw[if_pos rfl];intro hn;exact done _ _ (by simp only[aG]at hn;simp only[binOp,ne_eq,not_true_eq_false,if_false,Op.intDiv,hn];rfl) (by simp only[aJ,aG])
  |rem=>show ek P w0 own0 hvs G S0 o a w st kn γ S (if k=k then _ else _);rw[if_pos rfl];intro hn;exact done _ _ (by simp only[aG]at hn;simp only[binOp,ne_eq,not_true_eq_false,if_false,Op.intDiv,hn];rfl) (by simp only[aJ,aG])
  |lss=>show ek P w0 own0 hvs G S0 o a w st kn γ S (if k=k then _ else _);rw[if_pos rfl];exact done _ _ (by simp only[binOp,ne_eq,not_true_eq_false,if_false,Op.intCmp];rfl) (by simp only[aJ,aG])
  |leq=>show ek P w0 own0 hvs G S0 o a w st kn γ S (if k=k then _ else _);rw[if_pos rfl];exact done _ _ (by simp only[binOp,ne_eq,not_true_eq_false,if_false,Op.intCmp];rfl) (by simp only[aJ,aG])
  |gtr=>show ek P w0 own0 hvs G S0 o a w st kn γ S (if k=k then _ else _);rw[if_pos rfl];exact done _ _ (by simp only[binOp,ne_eq,not_true_eq_false,if_false,Op.intCmp];rfl) (by simp only[aJ,aG,gt_iff_lt])
  |geq=>show ek P w0 own0 hvs G S0 o a w st kn γ S (if k=k then _ else _);rw[if_pos rfl];exact done _ _ (by simp only[binOp,ne_eq,not_true_eq_false,if_false,Op.intCmp];rfl) (by simp only[aJ,aG,ge_iff_le])
  |eql=>show ek P w0 own0 hvs G S0 o a w st kn γ S (if k=k then _ else _);rw[if_pos rfl];exact done (.bool (m==n)) _ (by simp only[binOp,ne_eq,not_true_eq_false,if_false,Op.intCmp];rfl) (by simp only[aJ,aG];rfl)
  |neq=>show ek P w0 own0 hvs G S0 o a w st kn γ S (if k=k then _ else _);rw[if_pos rfl];exact done (.bool (m !=n)) _ (by simp only[binOp,ne_eq,not_true_eq_false,if_false,Op.intCmp];rfl) (by simp only[aJ,aG];rfl)
  |and=>show ek P w0 own0 hvs G S0 o a w st kn γ S (if k=k then _ else _);rw[if_pos rfl];exact done _ _ (by simp only[binOp,ne_eq,not_true_eq_false,if_false,Op.intBits];rfl) (by simp only[aJ,aG])
  |or=>show ek P w0 own0 hvs G S0 o a w st kn γ S (if k=k then _ else _);rw[if_pos rfl];exact done _ _ (by simp only[binOp,ne_eq,not_true_eq_false,if_false,Op.intBits];rfl) (by simp only[aJ,aG])
  |xor=>show ek P w0 own0 hvs G S0 o a w st kn γ S (if k=k then _ else _);rw[if_pos rfl];exact done _ _ (by simp only[binOp,ne_eq,not_true_eq_false,if_false,Op.intBits];rfl) (by simp only[aJ,aG])
  |andNot=>show ek P w0 own0 hvs G S0 o a w st kn γ S (if k=k then _ else _);rw[if_pos rfl];exact done _ _ (by simp only[binOp,ne_eq,not_true_eq_false,if_false,Op.intBits];rfl) (by simp only[aJ,aG])
 ·cases op with
  |shl=>intro hn;exact done _ _ (by simp only[aG]at hn;simp only[binOp,Op.shift];rw[if_neg (by omega)];rfl) (by simp only[aJ,aG])
  |shr=>intro hn;exact done _ _ (by simp only[aG]at hn;simp only[binOp,Op.shift];rw[if_neg (by omega)];rfl) (by simp only[aJ,aG])
  |_=>show ek P w0 own0 hvs G S0 o a w st kn γ S (if k=k' then _ else _);rw[if_neg hk];trivial
theorem Eh {op:BinOp} {t ty:TypeId} {x y:Operand} {m n:List UInt8} (ho:o.op=.binOp op t x y ty) (hx:a.eval x=.string ⟨m.toArray⟩) (hy:a.eval y=.string ⟨n.toArray⟩):
  ek P w0 own0 hvs G S0 o a w st kn γ S (wA aG op m n):=by
 have hg:∀op,(eqGuard op t x y (.string ⟨m.toArray⟩) (.string ⟨n.toArray⟩)).run P w=.ok () w:=by intro op;simp only[eqGuard];cases op<;>rfl
 have done:∀v p,(binOp op t (.string ⟨m.toArray⟩) (.string ⟨n.toArray⟩)).run P w=.ok v w→aJ S w p v→pq P w0 own0 hvs G S0 o a w st (.pv p):=
  fun v p hv hr=>aK h bm bd (u:=v) (by simp only[execOp,ho,hx,hy,Sem.run_bind,hg,Result.andThen_ok,hv,Sem.run_pure]) (by simpa only[aq]using hr)
 have Ju:IntKind.i64.max=9223372036854775807:=by decide
 unfold wA;split
 ·intro hc;refine done (.string (⟨m.toArray⟩++⟨n.toArray⟩)) _ ?_ ?_
  ·simp only[aG]at hc;simp only[binOp,Op.stringOp];rw[if_neg (by rw[Ju];simp only[ByteArray.size,List.size_toArray];omega)];rfl
  ·simp only[aJ,aG]
   congr 1
 ·exact done (.bool (m==n)) _ (by simp only[binOp,Op.stringOp,lJ];rfl) (by simp only[aJ,aG,F7])
 ·exact done (.bool (!(m==n))) _ (by simp only[binOp,Op.stringOp,lJ];rfl) (by simp only[aJ,aG,F7])
 ·exact done (.bool (Op.bytesLess m n)) _ (by simp only[binOp,Op.stringOp,lJ];rfl) (by simp only[aJ,aG])
 ·trivial
theorem Co {op:BinOp} {t ty:TypeId} {x y:Operand} {m n:Bool} (ho:o.op=.binOp op t x y ty) (ht:P.underlying t=some .bool) (hx:a.eval x=.bool m) (hy:a.eval y=.bool n):
  ek P w0 own0 hvs G S0 o a w st kn γ S (vU op m n):=by
 have hg:∀op,(eqGuard op t x y (.bool m) (.bool n)).run P w=.ok () w:=by intro op;simp only[eqGuard];cases op<;>rfl
 have done:∀v p,(binOp op t (.bool m) (.bool n)).run P w=.ok v w→aJ S w p v→pq P w0 own0 hvs G S0 o a w st (.pv p):=
  fun v p hv hr=>aK h bm bd (u:=v) (by simp only[execOp,ho,hx,hy,Sem.run_bind,hg,Result.andThen_ok,hv,Sem.run_pure]) (by simpa only[aq]using hr)
 unfold vU;split
 ·exact done _ _ (run_eql_bool _ t m n ht) (by simp only[aJ];cases m<;>cases n<;>rfl)
 ·exact done _ _ (run_neq_bool _ t m n ht) (by simp only[aJ];cases m<;>cases n<;>rfl)
 ·trivial
theorem Ei {op:BinOp} {t ty:TypeId} {x y:Operand} {ms:Array (String×TypeId)} (ho:o.op=.binOp op t x y ty) (ht:P.underlying t=some (.interface ms)) (hc:(isConst x||isConst y)=true)
  (p q:PV) (hx:aJ S w p (a.eval x)) (hy:aJ S w q (a.eval y)):
  ek P w0 own0 hvs G S0 o a w st kn γ S (match(generalizing:=false) p,q with
   |.kT,.kT=>match(generalizing:=false) op with|.eql=>.val (.pv (.bool true))|.neq=>.val (.pv (.bool false))|_=>.bad
   |.kT,.iface ..=>match(generalizing:=false) op with|.eql=>.val (.pv (.bool false))|.neq=>.val (.pv (.bool true))|_=>.bad
   |.iface ..,.kT=>match(generalizing:=false) op with|.eql=>.val (.pv (.bool false))|.neq=>.val (.pv (.bool true))|_=>.bad
   |_,_=>.bad):=by
 have done:∀v p,((do eqGuard op t x y (a.eval x) (a.eval y);binOp op t (a.eval x) (a.eval y)):Sem Value).run P w=.ok v w→aJ S w p v→pq P w0 own0 hvs G S0 o a w st (.pv p):=
  fun v p hv hr=>aK h bm bd (u:=v) (by simp only[execOp,ho,Sem.run_bind,Sem.run_pure]at hv ⊢;rw[hv];rfl) (by simpa only[aq]using hr)
 have g0:∀op,(eqGuard op t x y .nilIface .nilIface).run P w=.ok () w:=fun op=>Cn op t x y hc
 cases p with
 |kT=>
  cases q with
  |kT=>
   simp only[aJ]at hx hy
   cases op<;>first|exact True.intro|skip
   ·exact done (.bool true) _ (by rw[hx,hy];simp only[Sem.run_bind,g0,Result.andThen_ok,binOp,nS (u:=0) (v:=undef) ht,nT ht,nU ht,Sem.run_pure]) (by simp only[aJ])
   ·exact done (.bool false) _ (by rw[hx,hy];simp only[Sem.run_bind,g0,Result.andThen_ok,binOp,nS (u:=0) (v:=undef) ht,nT ht,nU ht,Sem.run_pure];rfl) (by simp only[aJ])
  |iface tt pp=>
   simp only[aJ]at hx hy;obtain⟨v',hy,_⟩:=hy
   have g0:∀op,(eqGuard op t x y .nilIface (.iface tt v')).run P w=.ok () w:=by intro op;simp only[eqGuard];cases op<;>rfl
   cases op<;>first|exact True.intro|skip
   ·exact done (.bool false) _ (by rw[hx,hy];simp only[Sem.run_bind,g0,Result.andThen_ok,binOp,nS (u:=0) (v:=undef) ht,nT ht,nU ht,Sem.run_pure]) (by simp only[aJ])
   ·exact done (.bool true) _ (by rw[hx,hy];simp only[Sem.run_bind,g0,Result.andThen_ok,binOp,nS (u:=0) (v:=undef) ht,nT ht,nU ht,Sem.run_pure];rfl) (by simp only[aJ])
  |_=>exact True.intro
 |iface tt pp=>
  cases q with
  |kT=>
   simp only[aJ]at hx hy;obtain⟨v',hx,_⟩:=hx
   have g0:∀op,(eqGuard op t x y (.iface tt v') .nilIface).run P w=.ok () w:=by intro op;simp only[eqGuard];cases op<;>rfl
   cases op<;>first|exact True.intro|skip
   ·exact done (.bool false) _ (by rw[hx,hy];simp only[Sem.run_bind,g0,Result.andThen_ok,binOp,nS (u:=0) (v:=undef) ht,nT ht,nU ht,Sem.run_pure]) (by simp only[aJ])
   ·exact done (.bool true) _ (by rw[hx,hy];simp only[Sem.run_bind,g0,Result.andThen_ok,binOp,nS (u:=0) (v:=undef) ht,nT ht,nU ht,Sem.run_pure];rfl) (by simp only[aJ])
  |_=>exact True.intro
 |_=>cases q<;>exact True.intro
end
end Go.Am
end
section
namespace Go.Am
theorem cell_of {w:World} {b:Nat} {c:Array Value} (h:ag w b=some c) (i:Nat):w.cell? ⟨b,i,none⟩=c[i]?:=by
 unfold ag at h
 unfold World.cell?
 split at h
 ·rename_i c' e f hb;simp only[Option.some.injEq]at h;subst h;simp[hb]
 ·simp at h
section
variable {S:Nat→Prop} {w:World} {ρ:AV→Value→Prop}
theorem b7.get:∀{ps:List PV} {c:Array Value} {o j:Nat} {p:PV},b7 S w ps c o→ps[j]? =some p→∃v,c[o+j]? =some v∧aJ S w p v
 |[],_,_,_,_,_,h=>by simp at h
 |p::ps,c,o,0,q,hr,h=>by
  simp only[List.getElem?_cons_zero,Option.some.injEq]at h;subst h;simp only[b7]at hr;exact hr.1
 |p::ps,c,o,j+1,q,hr,h=>by
  simp only[b7]at hr;have:=b7.get (j:=j) hr.2 (by simpa using h)
  rwa [show o+(j+1)=o+1+j by omega]
theorem b7.drop:∀{ps:List PV} {c:Array Value} {o:Nat} (k:Nat),b7 S w ps c o→b7 S w (ps.drop k) c (o+k)
 |_,_,_,0,h=>by simpa using h
 |[],_,_,k+1,_=>by simp only[List.drop_nil,b7]
 |p::ps,c,o,k+1,h=>by
  simp only[b7]at h;have:=b7.drop k h.2;rw[show o+(k+1)=o+1+k by omega];simpa using this
theorem b7.take:∀{ps:List PV} {c:Array Value} {o:Nat} (k:Nat),b7 S w ps c o→b7 S w (ps.take k) c o
 |_,_,_,0,h=>by simp only[List.take_zero,b7]
 |[],_,_,k+1,_=>by simp only[List.take_nil,b7]
 |p::ps,c,o,k+1,h=>by
  simp only[b7]at h;simp only[List.take_succ_cons,b7];exact⟨h.1,b7.take k h.2⟩
theorem b7.list:∀{ps:List PV} {c:Array Value} {o:Nat},b7 S w ps c o→
  ∃vs:List Value,a7 S w ps vs∧vs.length=ps.length∧∀j v,vs[j]? =some v→c[o+j]? =some v
 |[],_,_,_=>⟨[],by simp only[a7],rfl,by simp⟩
 |p::ps,c,o,h=>by
  simp only[b7]at h;obtain⟨⟨v,hv,h1⟩,h2⟩:=h;obtain⟨vs,h3,h4,h5⟩:=b7.list h2;refine⟨v::vs,by simp only[a7];exact⟨v,vs,rfl,h1,h3⟩,by simp[h4],?_⟩;intro j u hj
  cases j with
  |zero=>simp only[List.getElem?_cons_zero,Option.some.injEq]at hj;subst hj;exact hv
  |succ j=>rw[show o+(j+1)=o+1+j by omega];exact h5 j u (by simpa using hj)
theorem bz.get:∀{ps:List AV} {c:Array Value} {o j:Nat} {p:AV},bz S w ρ ps c o→ps[j]? =some p→∃v,c[o+j]? =some v∧aq S w ρ p v
 |[],_,_,_,_,_,h=>by simp at h
 |p::ps,c,o,0,q,hr,h=>by
  simp only[List.getElem?_cons_zero,Option.some.injEq]at h;subst h;simp only[bz]at hr;exact hr.1
 |p::ps,c,o,j+1,q,hr,h=>by
  simp only[bz]at hr;have:=bz.get (j:=j) hr.2 (by simpa using h)
  rwa [show o+(j+1)=o+1+j by omega]
theorem bz.drop:∀{ps:List AV} {c:Array Value} {o:Nat} (k:Nat),bz S w ρ ps c o→bz S w ρ (ps.drop k) c (o+k)
 |_,_,_,0,h=>by simpa using h
 |[],_,_,k+1,_=>by simp only[List.drop_nil,bz]
 |p::ps,c,o,k+1,h=>by
  simp only[bz]at h;have:=bz.drop k h.2;rw[show o+(k+1)=o+1+k by omega];simpa using this
theorem bz.take:∀{ps:List AV} {c:Array Value} {o:Nat} (k:Nat),bz S w ρ ps c o→bz S w ρ (ps.take k) c o
 |_,_,_,0,h=>by simp only[List.take_zero,bz]
 |[],_,_,k+1,_=>by simp only[List.take_nil,bz]
 |p::ps,c,o,k+1,h=>by
  simp only[bz]at h;simp only[List.take_succ_cons,bz];exact⟨h.1,bz.take k h.2⟩
theorem bz.list:∀{ps:List AV} {c:Array Value} {o:Nat},bz S w ρ ps c o→
  ∃vs:List Value,aF S w ρ ps vs∧vs.length=ps.length∧∀j v,vs[j]? =some v→c[o+j]? =some v
 |[],_,_,_=>⟨[],by simp only[aF],rfl,by simp⟩
 |p::ps,c,o,h=>by
  simp only[bz]at h;obtain⟨⟨v,hv,h1⟩,h2⟩:=h;obtain⟨vs,h3,h4,h5⟩:=bz.list h2;refine⟨v::vs,by simp only[aF];exact⟨v,vs,rfl,h1,h3⟩,by simp[h4],?_⟩;intro j u hj
  cases j with
  |zero=>simp only[List.getElem?_cons_zero,Option.some.injEq]at hj;subst hj;exact hv
  |succ j=>rw[show o+(j+1)=o+1+j by omega];exact h5 j u (by simpa using hj)
theorem aF.length:∀{xs:List AV} {vs:List Value},aF S w ρ xs vs→vs.length=xs.length
 |[],vs,h=>by simp only[aF]at h;subst h;rfl
 |x::xs,vs,h=>by
  simp only[aF]at h;obtain⟨v,r,rfl,_,h2⟩:=h;simp[aF.length h2]
theorem a7.length:∀{xs:List PV} {vs:List Value},a7 S w xs vs→vs.length=xs.length
 |[],vs,h=>by simp only[a7]at h;subst h;rfl
 |x::xs,vs,h=>by
  simp only[a7]at h;obtain⟨v,r,rfl,_,h2⟩:=h;simp[a7.length h2]
theorem a7.av:∀{xs:List PV} {vs:List Value},a7 S w xs vs→aF S w ρ (xs.map .pv) vs
 |[],vs,h=>by simpa only[a7,List.map_nil,aF]using h
 |x::xs,vs,h=>by
  simp only[a7]at h;obtain⟨v,r,rfl,h1,h2⟩:=h;simp only[List.map_cons,aF,aq];exact⟨v,r,rfl,h1,a7.av h2⟩
def wK (ρ:AV→Value→Prop):Prop:=∀x v,(match x with|.dB ..|.ptr ..|.cW ..|.dt ..|.eR ..=>True|_=>False)→ρ x v→v.oneCell'=true
theorem aJ.one {p:PV} {v:Value} (h1:(AV.pv p).one=true) (h:aJ S w p v):v.oneCell'=true:=by
 cases p with
 |agg c=>simp[AV.one]at h1
 |ep c=>simp[AV.one]at h1
 |gZ f ps=>simp only[aJ]at h;obtain⟨vs,rfl,_⟩:=h;rfl
 |iface t p=>simp only[aJ]at h;obtain⟨vs,rfl,_⟩:=h;rfl
 |sl r s=>simp only[aJ]at h;obtain⟨a,c,rfl,_⟩:=h;rfl
 |ptr r=>simp only[aJ]at h;obtain⟨a,c,b,rfl,_⟩:=h;rfl
 |mp=>simp only[aJ]at h;obtain⟨a,c,b,rfl,_⟩:=h;rfl
 |_=>simp only[aJ]at h;subst h;rfl
theorem aq.one (hρ:wK ρ) {x:AV} {v:Value} (h1:x.one=true) (h:aq S w ρ x v):v.oneCell'=true:=by
 cases x with
 |pv p=>simp only[aq]at h;exact aJ.one h1 h
 |agg c=>simp[AV.one]at h1
 |ep c=>simp[AV.one]at h1
 |dead=>simp[AV.one]at h1
 |iJ t=>simp[AV.one]at h1
 |dB id ver=>simp only[aq]at h;exact hρ _ _ trivial h
 |ptr id ver=>simp only[aq]at h;exact hρ _ _ trivial h
 |cW id ver j o=>simp only[aq]at h;exact hρ _ _ trivial h
 |fX r o=>simp only[aq]at h;obtain⟨b,o',c,rfl,_⟩:=h;rfl
 |full r=>simp only[aq]at h;obtain⟨b,rfl,_⟩:=h;rfl
 |gZ f c=>simp only[aq]at h;obtain⟨b,rfl,_⟩:=h;rfl
 |B0 f c=>simp only[aq]at h;obtain⟨b,rfl,_⟩:=h;rfl
 |lF r=>simp only[aq]at h;obtain⟨b,rfl,_⟩:=h;rfl
 |dt id=>simp only[aq]at h;exact hρ _ _ trivial h
 |eR id i=>simp only[aq]at h;exact hρ _ _ trivial h
theorem qR {v:Value} (h:v.oneCell'=true):v.cells=#[v]:=by
 cases v<;>first|rfl|simp[Value.oneCell']at h
theorem aq.cells (hρ:wK ρ) {x:AV} {v:Value} (h1:fr x.cells=true) (h:aq S w ρ x v):aF S w ρ x.cells v.cells.toList:=by
 cases x with
 |agg cs=>simp only[aq]at h;obtain⟨vs,rfl,h⟩:=h;simpa only[AV.cells,Value.cells]using h
 |pv p=>
  cases p with
  |agg ps=>simp only[aq,aJ]at h;obtain⟨vs,rfl,h⟩:=h;simpa only[AV.cells,Value.cells]using a7.av h
  |ep ps=>simp[AV.cells,fr,AV.one]at h1
  |_=>
   rw[qR (aq.one hρ (by rfl) h)];simp only[AV.cells,aF];exact⟨v,[],rfl,h,rfl⟩
 |ep cs=>simp[AV.cells,fr,AV.one]at h1
 |dead=>simp[AV.cells,fr,AV.one]at h1
 |iJ t=>simp[AV.cells,fr,AV.one]at h1
 |_=>
  rw[qR (aq.one hρ (by rfl) h)];simp only[AV.cells,aF];exact⟨v,[],rfl,h,rfl⟩
theorem kN (γ:Nat→Option Nat) (mem:List (Option Obj)):wK (Ref γ S w mem):=by
 intro x v hx h
 cases x with
 |dB id ver=>simp only[Ref]at h;split at h<;>first|exact h.1.2|exact h.elim
 |ptr id ver=>simp only[Ref]at h;split at h<;>first|(obtain⟨b,_,rfl⟩:=h;rfl)|exact h.elim
 |cW id ver j o=>simp only[Ref]at h;split at h<;>first|exact h.1.2|exact h.elim
 |dt id=>simp only[Ref]at h;split at h<;>first|(obtain⟨b,_,rfl⟩:=h;rfl)|exact h.elim
 |eR id i=>simp only[Ref]at h;split at h<;>first|exact h.1|exact h.elim
 |_=>exact hx.elim
end
end Go.Am
end
section
namespace Go.Am
theorem aE {mem:List (Option Obj)} {d:Nat} {o:Obj} (hd:d≤mem.length) (i:Nat):
  aA (rY mem d o) i=if i=d then some o else aA mem i:=by
 unfold rY;split
 ·rename_i hb;have hd:d<mem.length:=Nat.le_of_ble_eq_true hb;unfold aA
  by_cases h:i=d
  ·subst h;simp[List.getD_eq_getElem?_getD,hd]
  ·simp[List.getD_eq_getElem?_getD,List.getElem?_set_ne (Ne.symm h),h]
 ·rename_i hb
  have I7:d=mem.length:=by
   have:¬d+1≤mem.length:=fun h=>by rw[Nat.ble_eq_true_of_le h]at hb;cases hb
   omega
  subst I7;unfold aA
  by_cases h:i=mem.length
  ·subst h;simp[List.getD_eq_getElem?_getD]
  ·rw[if_neg h]
   by_cases h2:i<mem.length
   ·simp[List.getD_eq_getElem?_getD,List.getElem?_append_left h2]
   ·have h3:mem.length<i:=by omega
    simp[List.getD_eq_getElem?_getD,List.getElem?_eq_none (Nat.le_of_not_lt h2),List.getElem?_append_right (Nat.le_of_lt h3),show i-mem.length≠0 by omega,List.getElem?_cons,List.getElem?_nil]
theorem zk {mem:List (Option Obj)} {i:Nat} {o:Obj} (h:aA mem i=some o):i<mem.length:=by
 unfold aA at h
 by_cases hl:i<mem.length
 ·exact hl
 ·simp[List.getD_eq_getElem?_getD,List.getElem?_eq_none (Nat.le_of_not_lt hl)]at h
theorem bQ {mem:List (Option Obj)} {i:Nat} {o:Obj} (h:aA mem i=some o):i≤mem.length:=Nat.le_of_lt (zk h)
theorem I8 {w w':World} {b:Nat} (h:w'.heap[b]? =w.heap[b]?):ag w' b=ag w b:=by
 unfold ag;rw[h]
theorem fK {w:World} {o:Go.Obj} {b:Nat} (h:b<w.heap.size):(w.alloc o).heap[b]? =w.heap[b]?:=RowKit.Below.heap_alloc w o b h
theorem heap_alloc_new {w:World} {o:Go.Obj}:(w.alloc o).heap[w.heap.size]? =some o:=by
 show(w.heap.push o)[w.heap.size]? =_;simp
section
variable {S S':Nat→Prop} {w w':World} {ρ ρ':AV→Value→Prop}
theorem bz.later (hl:cA S w S' w') (hρ:∀x v,ρ x v→ρ' x v) {xs:List AV} {c:Array Value} {o:Nat} (h:bz S w ρ xs c o):bz S' w' ρ' xs c o:=bz.sa hl hρ xs h
theorem bR.later (hl:cA S w S' w') (hρ:∀x v,ρ x v→ρ' x v) {xs:List (List AV)} {c:Array Value} {o:Nat} (h:bR S w ρ xs c o):bR S' w' ρ' xs c o:=bR.sa hl hρ xs h
theorem fU.later {γ γ':Nat→Option Nat} (hl:cA S w S' w') (hρ:∀x v,ρ x v→ρ' x v) {id:Nat} {ob:Obj} (hγ:γ' id=γ id)
  (hb:∀b,γ id=some b→w'.heap[b]? =w.heap[b]?) (h:fU γ S w ρ id ob):fU γ' S' w' ρ' id ob:=by
 cases ob with
 |cells cs=>
  obtain⟨b,c,e,h1,h2,h3,h4⟩:=h;exact⟨b,c,e,hγ.trans h1,(hb b h1).trans h2,h3,bz.later hl hρ h4.1,h4.2⟩
 |cH t rs ver=>
  rcases h with⟨h1,h2⟩|⟨b,c,h1,h2,h3,h4,h5⟩
  ·exact .inl ⟨hγ.trans h1,h2⟩
  ·exact .inr ⟨b,c,hγ.trans h1,(hb b h1).trans h2,h3,h4,bI.later hl rs h5⟩
 |rows sz rs ver=>
  rcases h with⟨h1,h2⟩|⟨b,c,e,h1,h2,h3,h4,h5⟩
  ·exact .inl ⟨hγ.trans h1,h2⟩
  ·exact .inr ⟨b,c,e,hγ.trans h1,(hb b h1).trans h2,h3,h4,bI.later hl rs h5⟩
 |cf sz rs ver=>
  rcases h with⟨h1,h2⟩|⟨b,c,e,h1,h2,h3,h4,h5⟩
  ·exact .inl ⟨hγ.trans h1,h2⟩
  ·exact .inr ⟨b,c,e,hγ.trans h1,(hb b h1).trans h2,h3,h4,bR.later hl hρ h5⟩
 |eL rs ver=>trivial
 |map kg vg kn rows=>
  obtain⟨b,es,ck,h1,h2,h3,h4⟩:=h;exact⟨b,es,ck,hγ.trans h1,(hb b h1).trans h2,h3,bU.later hl rows h4⟩
 |iK rows=>
  obtain⟨b,es,ck,h1,h2,h3,h4⟩:=h;exact⟨b,es,ck,hγ.trans h1,(hb b h1).trans h2,h3,fR.later hl hρ h4⟩
 |fz s pos=>
  obtain⟨b,h1,h2,h3⟩:=h;exact⟨b,hγ.trans h1,(hb b h1).trans h2,h3⟩
 |er src seen=>
  simp only[fU]at h ⊢;split at h
  ·obtain⟨b,h1,h2⟩:=h;exact⟨b,hγ.trans h1,(hb b h1).trans h2⟩
  ·obtain⟨b,mb,es,ck,sb,h1,h2,h3,h4,h5,h6,h7⟩:=h;exact⟨b,mb,es,ck,sb,hγ.trans h1,(hb b h1).trans h2,(hl mb h3).1,(hl mb h3).2.2.trans h4,h5,bU.later hl _ h6,h7⟩
  ·exact h
end
def bD:AV→Option Nat
 |.dB id _=>some id
 |.ptr id _=>some id
 |.cW id _ _ _=>some id
 |.dt id=>some id
 |.eR id _=>some id
 |_=>none
theorem Ref.um {γ γ':Nat→Option Nat} {S S':Nat→Prop} {w w':World} {mem mem':List (Option Obj)} (hl:cA S w S' w')
  (x:AV) (v:Value) (hm:∀id ob,bD x=some id→aA mem id=some ob→aA mem' id=some ob∧γ' id=γ id∧∀b,γ id=some b→ag w' b=ag w b∧fc w' b=fc w b)
  (h:Ref γ S w mem x v):Ref γ' S' w' mem' x v:=by
 cases x with
 |dB id ver=>
  simp only[Ref]at h ⊢
  cases hg:aA mem id with
  |none=>simp only[hg]at h
  |some ob=>
   obtain⟨h1,h2,h3⟩:=hm id ob rfl hg;simp only[hg]at h;simp only[h1]
   cases ob with
   |rows sz rs bo=>
    refine⟨h.1,fun e=>?_⟩;obtain⟨a,cap,hv,hc,h4⟩:=h.2 e;refine⟨a,cap,hv,hc,h4.imp (fun h=>h) ?_⟩;rintro⟨b,c,hb,ha,wL,hs⟩;exact⟨b,c,h2.trans hb,ha,(h3 b hb).1.trans wL,hs⟩
   |cf sz rs bo=>
    refine⟨h.1,fun e=>?_⟩;obtain⟨a,cap,hv,hc,h4⟩:=h.2 e;refine⟨a,cap,hv,hc,h4.imp (fun h=>h) ?_⟩;rintro⟨b,c,hb,ha,wL,hs⟩;exact⟨b,c,h2.trans hb,ha,(h3 b hb).1.trans wL,hs⟩
   |cH t rs bo=>
    refine⟨h.1,fun e=>?_⟩;obtain⟨a,cap,hv,hc,h4⟩:=h.2 e;refine⟨a,cap,hv,hc,h4.imp (fun h=>h) ?_⟩;rintro⟨b,c,hb,ha,wL,hs⟩;exact⟨b,c,h2.trans hb,ha,(h3 b hb).1.trans wL,hs⟩
   |eL rs bo=>exact⟨h.1,fun e=>aJ.later hl _ (h.2 e)⟩
   |_=>exact h
 |ptr id off=>
  simp only[Ref]at h ⊢
  cases hg:aA mem id with
  |none=>simp only[hg]at h
  |some ob=>
   obtain⟨h1,h2,h3⟩:=hm id ob rfl hg;simp only[hg]at h;simp only[h1]
   cases ob with
   |cells cs=>obtain⟨b,hb,hv⟩:=h;exact⟨b,h2.trans hb,hv⟩
   |fz=>obtain⟨b,hb,hv⟩:=h;exact⟨b,h2.trans hb,hv⟩
   |er=>obtain⟨b,hb,hv⟩:=h;exact⟨b,h2.trans hb,hv⟩
   |_=>exact h
 |cW id ver j off=>
  simp only[Ref]at h ⊢
  cases hg:aA mem id with
  |none=>simp only[hg]at h
  |some ob=>
   obtain⟨h1,h2,h3⟩:=hm id ob rfl hg;simp only[hg]at h;simp only[h1]
   cases ob with
   |rows sz rs bo=>
    refine⟨h.1,fun e=>?_⟩;obtain⟨b,hb,hv,hj⟩:=h.2 e;exact⟨b,h2.trans hb,hv,hj⟩
   |cf sz rs bo=>
    refine⟨h.1,fun e=>?_⟩;obtain⟨b,hb,hv,hj⟩:=h.2 e;exact⟨b,h2.trans hb,hv,hj⟩
   |cH t rs bo=>
    refine⟨h.1,fun e=>?_⟩;obtain⟨b,hb,hv,hj⟩:=h.2 e;exact⟨b,h2.trans hb,hv,hj⟩
   |eL rs bo=>
    refine⟨h.1,fun e=>?_⟩;obtain⟨b,o,c,hv,hs,hc,hr,hj⟩:=h.2 e;exact⟨b,o,c,hv,(hl b hs).1,(hl b hs).2.1.trans hc,b7.later hl _ hr,hj⟩
   |_=>exact h
 |dt id=>
  simp only[Ref]at h ⊢
  cases hg:aA mem id with
  |none=>simp only[hg]at h
  |some ob=>
   obtain⟨h1,h2,h3⟩:=hm id ob rfl hg;simp only[hg]at h;simp only[h1]
   cases ob with
   |map=>obtain⟨b,hb,hv⟩:=h;exact⟨b,h2.trans hb,hv⟩
   |iK=>obtain⟨b,hb,hv⟩:=h;exact⟨b,h2.trans hb,hv⟩
   |_=>exact h
 |eR id i=>
  simp only[Ref]at h ⊢
  cases hg:aA mem id with
  |none=>simp only[hg]at h
  |some ob=>
   obtain⟨h1,h2,h3⟩:=hm id ob rfl hg;simp only[hg]at h;simp only[h1]
   cases ob with
   |map=>obtain⟨h0,b,es,ck,e,hb,hm,h4⟩:=h;exact⟨h0,b,es,ck,e,h2.trans hb,(h3 b hb).2.trans hm,h4⟩
   |_=>exact h
 |_=>simp only[Ref]
theorem Ref.later {γ γ':Nat→Option Nat} {S S':Nat→Prop} {w w':World} {mem mem':List (Option Obj)} (hl:cA S w S' w')
  (hm:∀id ob,aA mem id=some ob→aA mem' id=some ob∧γ' id=γ id∧∀b,γ id=some b→ag w' b=ag w b∧fc w' b=fc w b):
  ∀x v,Ref γ S w mem x v→Ref γ' S' w' mem' x v:=fun x v h=>Ref.um hl x v (fun id ob _ hg=>hm id ob hg) h
section
variable {P:Program} {w0:World} {own0:Nat→Prop} {hvs:List Value} {G:Nat→Option (List PV)} {S0:Nat→Prop} {accs:List Nat}
 {γ:Nat→Option Nat} {S:Nat→Prop} {st:St} {a:Act} {w:World} {o:Oper} {kn:Nat}
 (h:dj w0 own0 hvs G γ S st a w) (bm:∀b,S0 b→S b) (bd:∀b,S b→S0 b∨w0.heap.size≤b∨own0 b)
def dw (γ:Nat→Option Nat) (d:Nat) (b:Option Nat):Nat→Option Nat:=fun i=>if i=d then b else γ i
include h
theorem u7 (ob:Go.Obj):cA S w S (w.alloc ob):=fun b hb=>⟨hb,eI (fK (h.bound b hb))⟩
theorem dj.grow {w':World} {S':Nat→Prop} (hk:∀b,b<w.heap.size→w'.heap[b]? =w.heap[b]?) (dZ:w.heap.size≤w'.heap.size) (Jv:w'.os=w.os) (Jw:w'.tape=w.tape) (jm:w'.output=w.output)
  (hS:∀b,S b→S' b) (pS:∀b,S' b→S b∨(w.heap.size≤b∧b<w'.heap.size)):
  dj w0 own0 hvs G γ S' st a w'∧cA S w S' w'∧(∀x v,Ref γ S w st.mem x v→Ref γ S' w' st.mem x v):=by
 have hl:cA S w S' w':=fun b hb=>⟨hS b hb,eI (hk b (h.bound b hb))⟩
 have hb:∀i b,γ i=some b→w'.heap[b]? =w.heap[b]?:=fun i b hb=>hk b (h.dx i b hb)
 have hρ:=Ref.later (γ:=γ) (γ':=γ) (mem:=st.mem) (mem':=st.mem) hl fun id ob' hm=>⟨hm,rfl,fun b h'=>eI (hb id b h')⟩
 refine⟨?_,hl,hρ⟩
 exact{
     size:=h.size,slot:=fun i=>aq.later hl hρ _ (h.slot i),held:=aF.later hl hρ _ h.held,defers:=h.defers
     mem:=fun id ob' hm=>fU.later hl hρ rfl (hb id) (h.mem id ob' hm)
     qQ:=h.qQ,inj:=h.inj
     own:=fun i b hg=>by
      refine⟨fun hs=>?_,(h.own i b hg).2⟩
      rcases pS b hs with h1|h1
      ·exact(h.own i b hg).1 h1
      ·have:=h.dx i b hg;omega
     bound:=fun b hb=>by
      rcases pS b hb with h1|h1
      ·have:=h.bound b h1;omega
      ·exact h1.2
     dx:=fun i b hb=>by have:=h.dx i b hb;omega
     nR:=fun g row hg=>by
      obtain⟨h1,c,h2,h3,h4⟩:=h.nR g row hg;exact⟨hS g h1,c,((hl g h1).2.1).trans h2,b7.later hl row h3,h4⟩
     kept:=fun b hb hn=>(hk b (by have:=h.eF;omega)).trans (h.kept b hb hn)
     os:=Jv.trans h.os,tape:=Jw.trans h.tape,output:=jm.trans h.output
     eF:=by have:=h.eF;omega}
theorem dj.HW {d:Nat} (hd:aA st.mem d=none) (bL:d≤st.mem.length) (ob:Obj) (go:Go.Obj)
  (ho:(∀x v,Ref γ S w st.mem x v→Ref (dw γ d (some w.heap.size)) S (w.alloc go) (st.aC d ob).mem x v)→cA S w S (w.alloc go)→
   fU (dw γ d (some w.heap.size)) S (w.alloc go) (Ref (dw γ d (some w.heap.size)) S (w.alloc go) (st.aC d ob).mem) d ob):
  dj w0 own0 hvs G (dw γ d (some w.heap.size)) S (st.aC d ob) a (w.alloc go)∧
   (∀x v,Ref γ S w st.mem x v→Ref (dw γ d (some w.heap.size)) S (w.alloc go) (st.aC d ob).mem x v)∧cA S w S (w.alloc go):=by
 have hl:=u7 h go
 have hγd:γ d=none:=by
  cases hg:γ d with
  |none=>rfl
  |some b=>exact absurd hd (h.qQ d b hg)
 have hb:∀i b,γ i=some b→(w.alloc go).heap[b]? =w.heap[b]?:=fun i b hb=>fK (h.dx i b hb)
 have hm:∀id ob',aA st.mem id=some ob'→aA (st.aC d ob).mem id=some ob'∧dw γ d (some w.heap.size) id=γ id:=by
  intro id ob' hm
  have dW:id≠d:=fun e=>by rw[e,hd]at hm;cases hm
  exact⟨by simp only[St.aC,aE bL,if_neg dW,hm],by simp only[dw,if_neg dW]⟩
 have hρ:=Ref.later (γ:=γ) (γ':=dw γ d (some w.heap.size)) (mem:=st.mem) (mem':=(st.aC d ob).mem) hl
  fun id ob' hg=>⟨(hm id ob' hg).1,(hm id ob' hg).2,fun b h'=>eI (hb id b h')⟩
 refine⟨?_,hρ,hl⟩
 exact{
     size:=h.size,slot:=fun i=>aq.later hl hρ _ (h.slot i),held:=aF.later hl hρ _ h.held,defers:=h.defers
     mem:=fun id ob' hg=>by
      by_cases hi:id=d
      ·subst hi;simp only[St.aC,aE bL,if_true,Option.some.injEq]at hg;subst hg;exact ho hρ hl
      ·simp only[St.aC,aE bL,if_neg hi]at hg;exact fU.later hl hρ (by simp only[dw,if_neg hi]) (hb id) (h.mem id ob' hg)
     qQ:=fun i b hg=>by
      simp only[St.aC,aE bL]
      by_cases hi:i=d
      ·simp[hi]
      ·simp only[dw,if_neg hi]at hg ⊢;exact h.qQ i b hg
     inj:=fun i j b hi hj=>by
      simp only[dw]at hi hj;split at hi<;>split at hj
      ·rename_i e1 e2;rw[e1,e2]
      ·simp only[Option.some.injEq]at hi;subst hi;have:=h.dx j _ hj;omega
      ·simp only[Option.some.injEq]at hj;subst hj;have:=h.dx i _ hi;omega
      ·exact h.inj i j b hi hj
     own:=fun i b hi=>by
      simp only[dw]at hi;split at hi
      ·simp only[Option.some.injEq]at hi;subst hi;exact⟨fun hS=>by have:=h.bound _ hS;omega,.inl h.eF⟩
      ·exact h.own i b hi
     bound:=fun b hb=>by simp;have:=h.bound b hb;omega
     dx:=fun i b hi=>by
      simp only[dw]at hi;simp only[World.size_alloc];split at hi
      ·simp only[Option.some.injEq]at hi;omega
      ·have:=h.dx i b hi;omega
     nR:=fun g row hg=>by
      obtain⟨h1,c,h2,h3,h4⟩:=h.nR g row hg;exact⟨h1,c,((hl g h1).2.1).trans h2,b7.later hl row h3,h4⟩
     kept:=fun b hb hn=>(fK (by have:=h.eF;omega)).trans (h.kept b hb hn)
     os:=h.os,tape:=h.tape,output:=h.output
     eF:=by simp;have:=h.eF;omega}
theorem dj.new {d:Nat} (hd:aA st.mem d=none) (bL:d≤st.mem.length) (ob:Obj) (c:Array Value) (e:TypeId)
  (ho:(∀x v,Ref γ S w st.mem x v→Ref (dw γ d (some w.heap.size)) S (w.alloc (.cells c e)) (st.aC d ob).mem x v)→cA S w S (w.alloc (.cells c e))→
   fU (dw γ d (some w.heap.size)) S (w.alloc (.cells c e)) (Ref (dw γ d (some w.heap.size)) S (w.alloc (.cells c e)) (st.aC d ob).mem) d ob):
  dj w0 own0 hvs G (dw γ d (some w.heap.size)) S (st.aC d ob) a (w.alloc (.cells c e))∧
   (∀x v,Ref γ S w st.mem x v→Ref (dw γ d (some w.heap.size)) S (w.alloc (.cells c e)) (st.aC d ob).mem x v)∧cA S w S (w.alloc (.cells c e)):=dj.HW h hd bL ob (.cells c e) ho
theorem dj.Ek {d:Nat} (hd:aA st.mem d=none) (bL:d≤st.mem.length) (sz ver:Nat):
  dj w0 own0 hvs G γ S (st.aC d (.rows sz [] ver)) a w:=by
 have hγd:γ d=none:=by
  cases hg:γ d with
  |none=>rfl
  |some b=>exact absurd hd (h.qQ d b hg)
 have hl:=cA.refl S w
 have hm:∀id ob',aA st.mem id=some ob'→aA (st.aC d (.rows sz [] ver)).mem id=some ob':=by
  intro id ob' hm
  have dW:id≠d:=fun e=>by rw[e,hd]at hm;cases hm
  simp only[St.aC,aE bL,if_neg dW,hm]
 have hρ:=Ref.later (γ:=γ) (γ':=γ) (mem:=st.mem) (mem':=(st.aC d (.rows sz [] ver)).mem) hl
  fun id ob' hg=>⟨hm id ob' hg,rfl,fun b _=>⟨rfl,rfl⟩⟩
 exact{h with
     slot:=fun i=>aq.later hl hρ _ (h.slot i),held:=aF.later hl hρ _ h.held
     mem:=fun id ob' hg=>by
      by_cases hi:id=d
      ·subst hi;simp only[St.aC,aE bL,if_true,Option.some.injEq]at hg;subst hg;exact .inl ⟨hγd,rfl⟩
      ·simp only[St.aC,aE bL,if_neg hi]at hg;exact fU.later hl hρ rfl (fun _ _=>rfl) (h.mem id ob' hg)
     qQ:=fun i b hg=>by
      simp only[St.aC,aE bL]
      by_cases hi:i=d
      ·simp[hi]
      ·simp only[if_neg hi];exact h.qQ i b hg}
theorem dj.l5 {id b:Nat} {ob ob':Obj} {w':World} (hid:aA st.mem id=some ob) (hb:γ id=some b)
  (hw:∀k,k≠b→w'.heap[k]? =w.heap[k]?) (dZ:w'.heap.size=w.heap.size) (Jv:w'.os=w.os) (Jw:w'.tape=w.tape) (jm:w'.output=w.output)
  (hR:∀x v,bD x=some id→Ref γ S w st.mem x v→Ref γ S w' (st.aC id ob').mem x v)
  (hO:(∀x v,Ref γ S w st.mem x v→Ref γ S w' (st.aC id ob').mem x v)→cA S w S w'→fU γ S w' (Ref γ S w' (st.aC id ob').mem) id ob'):
  dj w0 own0 hvs G γ S (st.aC id ob') a w'∧(∀x v,Ref γ S w st.mem x v→Ref γ S w' (st.aC id ob').mem x v)∧cA S w S w':=by
 have bL:=bQ hid;have El:=h.own id b hb
 have hl:cA S w S w':=fun k hk=>⟨hk,eI (hw k (fun e=>El.1 (e▸hk)))⟩
 have hρ:∀x v,Ref γ S w st.mem x v→Ref γ S w' (st.aC id ob').mem x v:=by
  intro x v hx
  by_cases hi:bD x=some id
  ·exact hR x v hi hx
  ·refine Ref.um hl x v (fun pH HX hr hg=>?_) hx
   have dW:pH≠id:=fun e=>hi (e▸hr)
   refine⟨by simp only[St.aC,aE bL,if_neg dW,hg],rfl,fun b' gV=>eI (hw b' (fun e=>dW (h.inj pH id b' gV (e▸hb))))⟩
 refine⟨?_,hρ,hl⟩
 exact{
     size:=h.size,slot:=fun i=>aq.later hl hρ _ (h.slot i),held:=aF.later hl hρ _ h.held,defers:=h.defers
     mem:=fun pH HX hg=>by
      by_cases hi:pH=id
      ·subst hi;simp only[St.aC,aE bL,if_true,Option.some.injEq]at hg;subst hg;exact hO hρ hl
      ·simp only[St.aC,aE bL,if_neg hi]at hg;exact fU.later hl hρ rfl (fun b' gV=>hw b' (fun e=>hi (h.inj pH id b' gV (e▸hb)))) (h.mem pH HX hg)
     qQ:=fun i b' hg=>by
      simp only[St.aC,aE bL]
      by_cases hi:i=id
      ·simp[hi]
      ·simp only[if_neg hi];exact h.qQ i b' hg
     inj:=h.inj,own:=h.own
     bound:=fun k hk=>by rw[dZ];exact h.bound k hk
     dx:=fun i k hk=>by rw[dZ];exact h.dx i k hk
     nR:=fun g row hg=>by
      obtain⟨h1,c,h2,h3,h4⟩:=h.nR g row hg;exact⟨h1,c,((hl g h1).2.1).trans h2,b7.later hl row h3,h4⟩
     kept:=fun k hk hn=>by
      rw[hw k (fun e=>?_)];exact h.kept k hk hn;subst e
      rcases El.2 with h1|h1
      ·omega
      ·exact hn h1
     os:=Jv.trans h.os,tape:=Jw.trans h.tape,output:=jm.trans h.output
     eF:=by rw[dZ];exact h.eF}
end
end Go.Am
end
section
namespace Go.Am
theorem ig (b off n:Nat):(Addr.mk b off none).add n=⟨b,off+n,none⟩:=by
 unfold Addr.add;split
 ·rename_i h;subst h;rfl
 ·rfl
section
variable {P:Program} {w:World}
theorem jE {t:TypeId} {g:Bool} (h:eu P t=some g):(isAgg t).run P w=.ok g w:=by
 unfold eu at h;simp only[isAgg,Sem.run_bind];split at h
 ·rename_i d hd;simp only[Option.some.injEq]at h;subst h;rw[run_underlying hd];rfl
 ·rename_i d hd;simp only[Option.some.injEq]at h;subst h;rw[run_underlying hd];rfl
 ·rename_i d h1 h2 hd;simp only[Option.some.injEq]at h;subst h;rw[run_underlying hd]
  cases d<;>first|rfl|exact absurd rfl (h1 _)|exact absurd rfl (h2 _ _)
 ·cases h
theorem run_sizeOf {t:TypeId} {n:Nat} (h:bZ P t=some n):(sizeOf t).run P w=.ok n w:=by
 unfold bZ at h
 cases hi:P.info? t with
 |none=>simp[hi]at h
 |some i=>
  simp only[hi,Option.map_some,Option.some.injEq]at h;subst h;simp only[sizeOf,typeInfo,Sem.run_bind,run_program,Result.andThen_ok,hi,Sem.run_pure]
theorem yJ {b i:Nat} {c:Array Value} {v:Value} (hc:ag w b=some c) (hv:c[i]? =some v):(load ⟨b,i,none⟩).run P w=.ok v w:=by
 simp only[load,Sem.run,cell_of hc,hv]
theorem lA {t:TypeId} {b i:Nat} {c:Array Value} {v:Value} (ht:eu P t=some false) (hc:ag w b=some c) (hv:c[i]? =some v):
  (loadVar t ⟨b,i,none⟩).run P w=.ok v w:=by
 simp only[loadVar,Sem.run_bind,jE ht,Result.andThen_ok,Bool.false_eq_true,if_false,yJ hc hv]
theorem lB {t:TypeId} {b i n:Nat} {c:Array Value} {vs:List Value} (ht:eu P t=some true) (hn:bZ P t=some n) (hc:ag w b=some c)
  (hl:vs.length=n) (hv:∀j v,vs[j]? =some v→c[i+j]? =some v):
  (loadVar t ⟨b,i,none⟩).run P w=.ok (.agg vs.toArray) w:=by
 have:=run_loadCells_list (P:=P) w ⟨b,i,none⟩ vs (fun j v hj=>by rw[ig,cell_of hc];exact hv j v hj);rw[hl]at this;simp only[loadVar,Sem.run_bind,jE ht,Result.andThen_ok,if_true,run_sizeOf hn,this,Sem.run_pure]
theorem pU {b:Nat} {e:TypeId}:∀(vs:List Value) (i off:Nat) (c:Array Value) (w:World),w.heap[b]? =some (.cells c e (0,0))→off+i+vs.length≤c.size→
  (∀v∈vs,v.oneCell'=true)→
  ∃(w':World) (c':Array Value),(storeCells ⟨b,off,none⟩ vs i).run P w=.ok () w'∧w'.heap[b]? =some (.cells c' e (0,0))∧c'.size=c.size∧
   (∀j,c'[j]? =if off+i≤j∧j<off+i+vs.length then vs[j-(off+i)]? else c[j]?)∧
   (∀k,k≠b→w'.heap[k]? =w.heap[k]?)∧w'.heap.size=w.heap.size∧w'.os=w.os∧w'.tape=w.tape∧w'.output=w.output:=by
 intro vs
 induction vs with
 |nil=>
  intro i off c w hb _ _;refine⟨w,c,rfl,hb,rfl,fun j=>?_,fun _ _=>rfl,rfl,rfl,rfl,rfl⟩;rw[if_neg (by simp)]
 |cons v vs ih=>
  intro i off c w hb hlen pw;simp only[List.length_cons]at hlen
  have o9:w.cell? ⟨b,off+i,none⟩=some c[off+i]:=by
   have hc:ag w b=some c:=by simp[ag,hb]
   rw[cell_of hc,Array.getElem?_eq_getElem (by omega)]
  have hfz:w.frozen? ⟨b,off+i,none⟩=false:=by simp[World.frozen?,hb]
  have hb1:(w.setCell ⟨b,off+i,none⟩ v).heap[b]? =some (.cells (c.setIfInBounds (off+i) v) e (0,0)):=by
   simp[World.setCell,Array.getElem?_modify,hb]
  obtain⟨w',c',h1,h2,h3,h4,h5,h6,h7,h8,h9⟩:=ih (i+1) off (c.setIfInBounds (off+i) v) (w.setCell ⟨b,off+i,none⟩ v) hb1 (by simp;omega) (fun u hu=>pw u (List.mem_cons_of_mem _ hu));refine⟨w',c',?_,h2,by simpa using h3,fun j=>?_,fun k hk=>?_,by simpa using h6,h7,h8,h9⟩
  ·simp only[storeCells,Sem.run_bind,ig,run_store P w _ v _ (pw v (List.mem_cons_self)),o9,hfz,Bool.false_eq_true,if_false,Result.andThen_ok];exact h1
  ·rw[h4 j]
   by_cases hj:j=off+i
   ·subst hj;rw[if_neg (by omega),if_pos (by simp)];simp[show off+i<c.size by omega]
   ·by_cases hj2:off+(i+1)≤j∧j<off+(i+1)+vs.length
    ·rw[if_pos hj2,if_pos (by simp;omega),show j-(off+i)=(j-(off+(i+1)))+1 by omega];simp
    ·rw[if_neg hj2,if_neg (by simp;omega),Array.getElem?_setIfInBounds_ne (by omega)]
  ·rw[h5 k hk];exact RowKit.Below.heap_setCell w _ v k hk
end
section
variable {P:Program} {w0:World} {own0:Nat→Prop} {hvs:List Value} {G:Nat→Option (List PV)} {S0:Nat→Prop} {accs:List Nat}
 {γ:Nat→Option Nat} {S:Nat→Prop} {st:St} {a:Act} {w:World} {o:Oper} {kn:Nat}
 (h:dj w0 own0 hvs G γ S st a w) (bm:∀b,S0 b→S b) (bd:∀b,S b→S0 b∨w0.heap.size≤b∨own0 b)
include h bm bd
theorem sV {t:TypeId} {x:Operand} {g:Bool} {n:Option Nat} (ho:o.op=.load t x) (hg:eu P t=some g) (hn:match g with|true=>∃m,bZ P t=some m∧n=some m|false=>n=none)
  {b off:Nat} {c:Array Value} {row:List PV} {k:Nat} (he:a.eval x=.pointer (some ⟨b,off+k,none⟩)) (hc:ag w b=some c) (hr:b7 S w row c off):
  ek P w0 own0 hvs G S0 o a w st kn γ S (iB row k n):=by
 have bJ:∀v,(loadVar t ⟨b,off+k,none⟩).run P w=.ok v w→(execOp a.eval o).run P w=.ok (.value v) w:=by
  intro v hv;simp only[execOp,ho,he,Instr.loadAt,Instr.sureAddr,Sem.run_bind,Sem.run_pure,Result.andThen_ok,hv]
 cases g with
 |false=>
  simp only at hn;subst hn;simp only[iB];split
  ·rename_i p hp;obtain⟨v,hv,L9⟩:=b7.get hr hp;exact aK h bm bd (bJ v (lA hg hc hv)) (by simp only[aq];exact L9)
  ·trivial
 |true=>
  simp only at hn;obtain⟨m,hm,rfl⟩:=hn;simp only[iB];split
  ·rename_i hle;obtain⟨vs,h1,h2,h3⟩:=b7.list ((hr.drop k).take m)
   have hlen:vs.length=m:=by rw[h2];simp;omega
   exact aK h bm bd (bJ _ (lB hg hm hc hlen h3)) (by simp only[aq,aJ];exact⟨vs,rfl,h1⟩)
  ·trivial
theorem Cp {t:TypeId} {x:Operand} {g:Bool} {n:Option Nat} (ho:o.op=.load t x) (hg:eu P t=some g) (hn:match g with|true=>∃m,bZ P t=some m∧n=some m|false=>n=none)
  {b k o0:Nat} {c:Array Value} {row:List AV} (he:a.eval x=.pointer (some ⟨b,o0+k,none⟩)) (hc:ag w b=some c) (hr:bz S w (Ref γ S w st.mem) row c o0):
  ek P w0 own0 hvs G S0 o a w st kn γ S (jP row k n):=by
 have bJ:∀v,(loadVar t ⟨b,o0+k,none⟩).run P w=.ok v w→(execOp a.eval o).run P w=.ok (.value v) w:=by
  intro v hv;simp only[execOp,ho,he,Instr.loadAt,Instr.sureAddr,Sem.run_bind,Sem.run_pure,Result.andThen_ok,hv]
 cases g with
 |false=>
  simp only at hn;subst hn;simp only[jP];split
  ·rename_i p hp;obtain⟨v,hv,L9⟩:=bz.get hr hp;exact aK h bm bd (bJ v (lA hg hc hv)) L9
  ·trivial
 |true=>
  simp only at hn;obtain⟨m,hm,rfl⟩:=hn;simp only[jP];split
  ·rename_i hle;obtain⟨vs,h1,h2,h3⟩:=bz.list ((hr.drop k).take m)
   have hlen:vs.length=m:=by rw[h2];simp;omega
   exact aK h bm bd (bJ _ (lB hg hm hc hlen h3)) (by simp only[aq];exact⟨vs,rfl,h1⟩)
  ·trivial
theorem bI.row {S:Nat→Prop} {w:World}:∀{rs:List (List PV)} {c:Array Value} {o sz j:Nat},aS sz rs→bI S w rs c o→j<rs.length→b7 S w (rs.getD j []) c (o+j*sz)
 |[],_,_,_,_,_,_,hj=>by simp at hj
 |r::rs,c,o,sz,0,_,hr,_=>by simp only[bI]at hr;simpa using hr.1
 |r::rs,c,o,sz,j+1,hl,hr,hj=>by
  simp only[bI]at hr;have:=bI.row (j:=j) (fun x hx=>hl x (List.mem_cons_of_mem _ hx)) hr.2 (by simpa using hj);have hs:r.length=sz:=hl r List.mem_cons_self;rw[hs]at this;rw[show o+(j+1)*sz=o+sz+j*sz by rw[Nat.add_mul,Nat.one_mul];omega];simpa using this
omit h bm bd in
theorem rows_block {id sz:Nat} {rs:List (List PV)} {ver:Nat} {b:Nat} (hb:γ id=some b) (ho:fU γ S w (Ref γ S w st.mem) id (.rows sz rs ver)):
  ∃c e,w.heap[b]? =some (.cells c e (0,0))∧rs.length*sz≤c.size∧aS sz rs∧bI S w rs c 0:=by
 rcases ho with⟨h1,_⟩|⟨b',c,e,h1,h2,h3,h4,h5⟩
 ·rw[hb]at h1;cases h1
 ·rw[hb]at h1;cases h1;exact⟨c,e,h2,h3,h4,h5⟩
omit h bm bd in
theorem bR.row {S:Nat→Prop} {w:World} {ρ:AV→Value→Prop}:∀{rs:List (List AV)} {c:Array Value} {o sz j:Nat},(∀r∈rs,r.length=sz)→bR S w ρ rs c o→j<rs.length→bz S w ρ (rs.getD j []) c (o+j*sz)
 |[],_,_,_,_,_,_,hj=>by simp at hj
 |r::rs,c,o,sz,0,_,hr,_=>by simp only[bR]at hr;simpa using hr.1
 |r::rs,c,o,sz,j+1,hl,hr,hj=>by
  simp only[bR]at hr;have:=bR.row (j:=j) (fun x hx=>hl x (List.mem_cons_of_mem _ hx)) hr.2 (by simpa using hj);have hs:r.length=sz:=hl r List.mem_cons_self;rw[hs]at this;rw[show o+(j+1)*sz=o+sz+j*sz by rw[Nat.add_mul,Nat.one_mul];omega];simpa using this
omit h bm bd in
theorem kY {id sz:Nat} {rs:List (List AV)} {ver:Nat} {b:Nat} (hb:γ id=some b) (ho:fU γ S w (Ref γ S w st.mem) id (.cf sz rs ver)):
  ∃c e,w.heap[b]? =some (.cells c e (0,0))∧rs.length*sz≤c.size∧(∀r∈rs,r.length=sz)∧bR S w (Ref γ S w st.mem) rs c 0:=by
 rcases ho with⟨h1,_⟩|⟨b',c,e,h1,h2,h3,h4,h5⟩
 ·rw[hb]at h1;cases h1
 ·rw[hb]at h1;cases h1;exact⟨c,e,h2,h3,h4,h5⟩
theorem Rq {t:TypeId} {x:Operand} {x':bN} {g:Bool} {n:Option Nat} (ho:o.op=.load t x) (hg:eu P t=some g) (hn:match g with|true=>∃m,bZ P t=some m∧n=some m|false=>n=none) (hx:a8 G x=some x'):
  cg P w0 own0 hvs G S0 o a w st kn γ S (b6 aG kn (.ld x' n) st.ev):=by
 simp only[b6,vT];have h1:=h.aj hx;split
 ·rename_i id off b4;rw[b4]at h1;simp only[aq,Ref]at h1;intro ob bH;simp only[bH]at h1
  cases ob with
  |cells cs=>
   obtain⟨b,hb,he⟩:=h1;obtain⟨b',c,e,gV,hc,dZ,hr,_⟩:=h.mem id _ bH;rw[hb]at gV;cases gV;exact Cp h bm bd (o0:=0) ho hg hn (by rw[Nat.zero_add];exact he) (by simp[ag,hc]) hr
  |_=>trivial
 ·rename_i id ver j off b4;rw[b4]at h1;simp only[aq,Ref]at h1;intro ob bH;simp only[bH]at h1
  cases ob with
  |cells cs=>trivial
  |map=>trivial
  |iK=>trivial
  |fz=>trivial
  |cH=>trivial
  |er=>trivial
  |cf sz rs bo=>
   by_cases hv:ver=bo
   ·subst hv;simp only[beq_self_eq_true];obtain⟨b,hb,he,zj,hj⟩:=h1.2 rfl;obtain⟨c,e,hc,dZ,bP,hr⟩:=kY hb (h.mem id _ bH);have bM:=bR.row (j:=j.toNat) bP hr (by omega);rw[Nat.zero_add]at bM;exact Cp h bm bd ho hg hn he (by simp[ag,hc]) bM
   ·simp only[beq_eq_false_iff_ne.2 hv];trivial
  |rows sz rs bo=>
   by_cases hv:ver=bo
   ·subst hv;simp only[beq_self_eq_true];obtain⟨b,hb,he,zj,hj⟩:=h1.2 rfl;obtain⟨c,e,hc,dZ,bP,hr⟩:=rows_block hb (h.mem id _ bH);have bM:=bI.row h bm bd (j:=j.toNat) bP hr (by omega);rw[Nat.zero_add]at bM;exact sV h bm bd ho hg hn he (by simp[ag,hc]) bM
   ·simp only[beq_eq_false_iff_ne.2 hv];trivial
  |eL rs bo=>
   by_cases hv:ver=bo
   ·subst hv;simp only[beq_self_eq_true];obtain⟨b,o',c,he,hb,hc,hr,hj⟩:=h1.2 rfl;exact sV h bm bd ho hg hn he hc hr
   ·simp only[beq_eq_false_iff_ne.2 hv];trivial
 ·rename_i row off b4;rw[b4]at h1;simp only[aq]at h1;obtain⟨b,o',c,he,hb,hc,hr⟩:=h1;exact sV h bm bd ho hg hn he hc hr
 ·rename_i row b4;rw[b4]at h1;simp only[aq,aJ]at h1;obtain⟨b,o',c,hb,hr⟩:=h1;exact sV h bm bd (off:=o') (k:=0) ho hg hn (by rw[Nat.add_zero];exact hb) hr.2.1 hr.2.2
 ·trivial
end
end Go.Am
end
