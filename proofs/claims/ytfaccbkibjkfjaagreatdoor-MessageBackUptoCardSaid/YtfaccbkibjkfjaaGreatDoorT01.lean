import Derived.Below
import Derived.Laws.StructEq
import Derived.Laws.Slices
import Derived.Laws.Cells
import Derived.Laws.World
import Derived.Test.YtfaccbkibjkfjaaGreatDoorT00
set_option linter.all false
set_option maxRecDepth 100000
set_option maxHeartbeats 1000000
namespace Go.Am
variable {S':Nat->Prop} {w':World} {ρ':AV->Value->Prop} {γ:Nat->Option Nat} {st:St} {a:Array (String×TypeId)} {b:Nat} {c:Array Value} {d:Nat} {e:TypeId} {f:Nat} {g:Bool} {i k:Nat} {mem:List (Option Obj)} {n:Option Nat} {o:Obj} {p:PV} {s t:TypeId} {v:Value} {x:Operand}
def At(w:World)(b:Nat):Option (Array Value):=
 match w.heap[b]? with
 |some (.cells c _ _)=>some c
 |_=>none
def YB(w:World)(b:Nat):Option (Array MapEntry×Nat):=
 match w.heap[b]? with
 |some (.map es a)=>some (es,a)
 |_=>none
def gm(c:List MapEntry)(d:Nat):Prop:=(∀e∈c,e.born<d)/\c.Pairwise (fun a b=>a.born<b.born)
def valOf(g:Bool)(a:List Value):Value:=
 match g with
 |true=>.agg a.toArray
 |false=>a.headD (.agg #[])
def shapeOf(g:Bool)(n:Nat):Prop:=match g with|true=>True|false=>n=1
def aK(a:Nat)(rows:R_):Prop:=∀r∈rows,r.length=a
mutual
def aD(S:Nat->Prop)(w:World):PV->Value->Prop
 |.bool b,v=>v=.bool b
 |.int k n,v=>v=.int k n
 |.str s,v=>v=.string ⟨s.toArray⟩
 |.mh,v=>v=.pointer none
 |.yS,v=>v=.nilFunc
 |.j8,v=>v=.nilIface
 |.oh,v=>v=.map none
 |.gM f ps,v=>∃vs:List Value,v=.func (.func f) #[] vs.toArray/\aM S w ps vs
 |.iface t p,v=>∃v',v=.iface t v'/\aD S w p v'
 |.agg ps,v=>∃vs:List Value,v=.agg vs.toArray/\aM S w ps vs
 |.eN ps,v=>∃vs:List Value,v=.tuple vs.toArray/\aM S w ps vs
 |.sl rows spare,v=>∃a cap,v=.slice a rows.length cap/\rows.length+spare.length<=cap/\
   ((rows=[]/\spare=[])\/∃b off c sz,a=some ⟨b,off,none⟩/\S b/\At w b=some c/\aK sz rows/\aK sz spare/\
    bM S w rows c off/\bM S w spare c (off+rows.length*sz))
 |.ptr ps,v=>∃b off c,v=.pointer (some ⟨b,off,none⟩)/\S b/\At w b=some c/\dm S w ps c off
 |.mp kg vg kn rows,v=>∃b es ck,v=.map (some b)/\S b/\YB w b=some (es,ck)/\gm es.toList ck/\bV S w kg vg kn rows es.toList
def aM(S:Nat->Prop)(w:World):List PV->List Value->Prop
 |[],vs=>vs=[]
 |p::ps,vs=>∃v r,vs=v::r/\aD S w p v/\aM S w ps r
def dm(S:Nat->Prop)(w:World):List PV->Array Value->Nat->Prop
 |[],_,_=>True
 |p::ps,c,off=>(∃v,c[off]? =some v/\aD S w p v)/\dm S w ps c (off+1)
def bM(S:Nat->Prop)(w:World):R_->Array Value->Nat->Prop
 |[],_,_=>True
 |r::rs,c,off=>dm S w r c off/\bM S w rs c (off+r.length)
def bV(S:Nat->Prop)(w:World)(kg vg:Bool)(kn:Nat):R_->List MapEntry->Prop
 |[],es=>es=[]
 |r::rs,es=>∃e t kv vv,es=e::t/\aM S w r (kv++vv)/\kv.length=kn/\shapeOf kg kn/\shapeOf vg vv.length/\e.key=valOf kg kv/\e.val=valOf vg vv/\bV S w kg vg kn rs t
end
def bf(S:Nat->Prop)(w:World)(S':Nat->Prop)(w':World):Prop:=∀b,S b->S' b/\At w' b=At w b/\YB w' b=YB w b
theorem dC{w:World}(h:w'.heap[b]? =w.heap[b]?):At w' b=At w b/\YB w' b=YB w b:=by unfold At YB;rw[h];exact⟨rfl,rfl⟩
theorem bf.refl(S:Nat->Prop)(w:World):bf S w S w:=fun _ h=>⟨h,rfl,rfl⟩
section
variable {S:Nat->Prop} {w:World} (hl:bf S w S' w')
include hl
mutual
theorem aD.later:∀(p:PV) {v:Value},aD S w p v->aD S' w' p v
 |.bool _,_,h=>by simpa only[aD]using h
 |.int _ _,_,h=>by simpa only[aD]using h
 |.str _,_,h=>by simpa only[aD]using h
 |.mh,_,h=>by simpa only[aD]using h
 |.yS,_,h=>by simpa only[aD]using h
 |.j8,_,h=>by simpa only[aD]using h
 |.oh,_,h=>by simpa only[aD]using h
 |.gM f ps,_,h=>by
  simp only[aD]at h ⊢;obtain⟨vs,rfl,h⟩:=h;exact⟨vs,rfl,aM.later ps h⟩
 |.iface t p,_,h=>by
  simp only[aD]at h ⊢;obtain⟨v',rfl,h⟩:=h;exact⟨v',rfl,aD.later p h⟩
 |.agg ps,_,h=>by
  simp only[aD]at h ⊢;obtain⟨vs,rfl,h⟩:=h;exact⟨vs,rfl,aM.later ps h⟩
 |.eN ps,_,h=>by
  simp only[aD]at h ⊢;obtain⟨vs,rfl,h⟩:=h;exact⟨vs,rfl,aM.later ps h⟩
 |.sl rows spare,_,h=>by
  simp only[aD]at h ⊢;obtain⟨a,cap,rfl,hc,h⟩:=h;refine⟨a,cap,rfl,hc,?_⟩
  rcases h with h|⟨b,off,c,sz,ha,hs,hcell,h1,h2,h3,h4⟩
  ·exact .inl h
  ·exact .inr ⟨b,off,c,sz,ha,(hl b hs).1,(hl b hs).2.1.trans hcell,h1,h2,bM.later rows h3,bM.later spare h4⟩
 |.ptr ps,_,h=>by
  simp only[aD]at h ⊢;obtain⟨b,off,c,rfl,hs,hcell,h⟩:=h;exact⟨b,off,c,rfl,(hl b hs).1,(hl b hs).2.1.trans hcell,dm.later ps h⟩
 |.mp kg vg kn rows,_,h=>by
  simp only[aD]at h ⊢;obtain⟨b,es,ck,rfl,hs,hm,hb,h⟩:=h;exact⟨b,es,ck,rfl,(hl b hs).1,(hl b hs).2.2.trans hm,hb,bV.later rows h⟩
theorem aM.later:∀(ps:List PV) {vs:List Value},aM S w ps vs->aM S' w' ps vs
 |[],_,h=>by simpa only[aM]using h
 |p::ps,_,h=>by
  simp only[aM]at h ⊢;obtain⟨v,r,rfl,h1,h2⟩:=h;exact⟨v,r,rfl,aD.later p h1,aM.later ps h2⟩
theorem dm.later:∀(ps:List PV) {c:Array Value} {off:Nat},dm S w ps c off->dm S' w' ps c off
 |[],_,_,h=>by simp only[dm]
 |p::ps,_,_,h=>by
  simp only[dm]at h ⊢;obtain⟨⟨v,hv,h1⟩,h2⟩:=h;exact⟨⟨v,hv,aD.later p h1⟩,dm.later ps h2⟩
theorem bM.later:∀(rs:R_) {c:Array Value} {off:Nat},bM S w rs c off->bM S' w' rs c off
 |[],_,_,h=>by simp only[bM]
 |r::rs,_,_,h=>by
  simp only[bM]at h ⊢;exact⟨dm.later r h.1,bM.later rs h.2⟩
theorem bV.later{kg vg:Bool}{kn:Nat}:∀(rs:R_) {es:List MapEntry},bV S w kg vg kn rs es->bV S' w' kg vg kn rs es
 |[],_,h=>by simpa only[bV]using h
 |r::rs,_,h=>by
  simp only[bV]at h ⊢;obtain⟨e,t,kv,vv,rfl,h1,h2,h3,h4,h5,h6,h7⟩:=h;exact⟨e,t,kv,vv,rfl,aM.later r h1,h2,h3,h4,h5,h6,bV.later rs h7⟩
end
end
section
variable (S:Nat->Prop) (w:World) (ρ:AV->Value->Prop)
mutual
def lF:AV->Value->Prop
 |.pv p,v=>aD S w p v
 |.agg cs,v=>∃vs:List Value,v=.agg vs.toArray/\au cs vs
 |.eN cs,v=>∃vs:List Value,v=.tuple vs.toArray/\au cs vs
 |.gM f cs,v=>∃vs:List Value,v=.func (.func f) #[] vs.toArray/\au cs vs
 |.c8 id ver,v=>ρ (.c8 id ver) v
 |.ptr id off,v=>ρ (.ptr id off) v
 |.cR id ver j off,v=>ρ (.cR id ver j off) v
 |.fQ row off,v=>∃b o c,v=.pointer (some ⟨b,o+off,none⟩)/\S b/\At w b=some c/\dm S w row c o
 |.full rows,v=>∃a,v=.slice a rows.length rows.length/\
   (rows=[]\/∃b off c sz,a=some ⟨b,off,none⟩/\S b/\At w b=some c/\aK sz rows/\bM S w rows c off)
 |.Ay f cs,v=>∃vs:List Value,v=.func (.func f) vs.toArray #[]/\au cs vs
 |.fr id,v=>ρ (.fr id) v
 |.eT id i,v=>ρ (.eT id i) v
 |.kM rows,v=>∃a,v=.slice a rows.length rows.length/\
   (rows=[]\/∃b off c sz,a=some ⟨b,off,none⟩/\S b/\At w b=some c/\(∀r∈rows,r.length=sz)/\bU rows c off)
 |.iU _,v=>v=.pointer none
 |.dead,_=>True
def au:List AV->List Value->Prop
 |[],vs=>vs=[]
 |x::xs,vs=>∃v r,vs=v::r/\lF x v/\au xs r
def bB:List AV->Array Value->Nat->Prop
 |[],_,_=>True
 |x::xs,c,off=>(∃v,c[off]? =some v/\lF x v)/\bB xs c (off+1)
def bU:List (List AV)->Array Value->Nat->Prop
 |[],_,_=>True
 |r::rs,c,off=>bB r c off/\bU rs c (off+r.length)
end
end
section
variable {S:Nat->Prop} {w:World} {ρ:AV->Value->Prop} (hl:bf S w S' w') (hρ:∀x v,ρ x v->ρ' x v)
include hl hρ
mutual
theorem lF.later:∀(x:AV) {v:Value},lF S w ρ x v->lF S' w' ρ' x v
 |.pv p,_,h=>by simp only[lF]at h ⊢;exact aD.later hl p h
 |.agg cs,_,h=>by simp only[lF]at h ⊢;obtain⟨vs,rfl,h⟩:=h;exact⟨vs,rfl,au.later cs h⟩
 |.eN cs,_,h=>by simp only[lF]at h ⊢;obtain⟨vs,rfl,h⟩:=h;exact⟨vs,rfl,au.later cs h⟩
 |.gM f cs,_,h=>by simp only[lF]at h ⊢;obtain⟨vs,rfl,h⟩:=h;exact⟨vs,rfl,au.later cs h⟩
 |.c8 id ver,_,h=>by simp only[lF]at h ⊢;exact hρ _ _ h
 |.ptr id off,_,h=>by simp only[lF]at h ⊢;exact hρ _ _ h
 |.cR id ver j off,_,h=>by simp only[lF]at h ⊢;exact hρ _ _ h
 |.fQ row off,_,h=>by
  simp only[lF]at h ⊢;obtain⟨b,o,c,rfl,hs,hc,h⟩:=h;exact⟨b,o,c,rfl,(hl b hs).1,(hl b hs).2.1.trans hc,dm.later hl row h⟩
 |.full rows,_,h=>by
  simp only[lF]at h ⊢;obtain⟨a,rfl,h⟩:=h;refine⟨a,rfl,h.imp id ?_⟩;rintro⟨b,off,c,sz,ha,hs,hc,h1,h2⟩;exact⟨b,off,c,sz,ha,(hl b hs).1,(hl b hs).2.1.trans hc,h1,bM.later hl rows h2⟩
 |.Ay f cs,_,h=>by simp only[lF]at h ⊢;obtain⟨vs,rfl,h⟩:=h;exact⟨vs,rfl,au.later cs h⟩
 |.fr id,_,h=>by simp only[lF]at h ⊢;exact hρ _ _ h
 |.eT id i,_,h=>by simp only[lF]at h ⊢;exact hρ _ _ h
 |.kM rows,_,h=>by
  simp only[lF]at h ⊢;obtain⟨a,rfl,h⟩:=h;refine⟨a,rfl,h.imp id ?_⟩;rintro⟨b,off,c,sz,ha,hs,hc,h1,h2⟩;exact⟨b,off,c,sz,ha,(hl b hs).1,(hl b hs).2.1.trans hc,h1,bU.qN rows h2⟩
 |.iU _,_,h=>by simpa only[lF]using h
 |.dead,_,_=>by simp only[lF]
theorem au.later:∀(xs:List AV) {vs:List Value},au S w ρ xs vs->au S' w' ρ' xs vs
 |[],_,h=>by simpa only[au]using h
 |x::xs,_,h=>by
  simp only[au]at h ⊢;obtain⟨v,r,rfl,h1,h2⟩:=h;exact⟨v,r,rfl,lF.later x h1,au.later xs h2⟩
theorem bB.qN:∀(xs:List AV) {c:Array Value} {o:Nat},bB S w ρ xs c o->bB S' w' ρ' xs c o
 |[],_,_,h=>by simp only[bB]
 |x::xs,_,_,h=>by
  simp only[bB]at h ⊢;obtain⟨⟨v,hv,h1⟩,h2⟩:=h;exact⟨⟨v,hv,lF.later x h1⟩,bB.qN xs h2⟩
theorem bU.qN:∀(rs:List (List AV)) {c:Array Value} {o:Nat},bU S w ρ rs c o->bU S' w' ρ' rs c o
 |[],_,_,h=>by simp only[bU]
 |r::rs,_,_,h=>by
  simp only[bU]at h ⊢;exact⟨bB.qN r h.1,bU.qN rs h.2⟩
end
end
def Ref(γ:Nat->Option Nat)(S:Nat->Prop)(w:World)(h:List (Option Obj)):AV->Value->Prop
 |.c8 id d,v=>match aj h id with
  |some (.rows k rs g)=>(d<=g/\v.oneCell'=true)/\(d=g->∃a f,v=.slice a rs.length f/\rs.length<=f/\
    (f=0\/∃b c,γ id=some b/\a=some ⟨b,0,none⟩/\At w b=some c/\c.size=f*k))
  |some (.cg k rs g)=>(d<=g/\v.oneCell'=true)/\(d=g->∃a f,v=.slice a rs.length f/\rs.length<=f/\
    (f=0\/∃b c,γ id=some b/\a=some ⟨b,0,none⟩/\At w b=some c/\c.size=f*k))
  |some (.cL _ rs g)=>(d<=g/\v.oneCell'=true)/\(d=g->∃a f,v=.slice a rs.length f/\rs.length<=f/\
    (f=0\/∃b c,γ id=some b/\a=some ⟨b,0,none⟩/\At w b=some c/\c.size=f*1))
  |some (.eO rs g)=>(d<=g/\v.oneCell'=true)/\(d=g->aD S w (.sl rs []) v)
  |_=>False
 |.ptr id off,v=>match aj h id with
  |some (.cells _)=>∃b,γ id=some b/\v=.pointer (some ⟨b,off,none⟩)
  |some (.ry _ _)=>∃b,γ id=some b/\v=.pointer (some ⟨b,off,none⟩)
  |some (.eu _ _)=>∃b,γ id=some b/\v=.pointer (some ⟨b,off,none⟩)
  |_=>False
 |.cR id d j off,v=>match aj h id with
  |some (.rows k rs g)=>(d<=g/\v.oneCell'=true)/\(d=g->∃b,γ id=some b/\v=.pointer (some ⟨b,j.toNat*k+off,none⟩)/\0<=j/\j<rs.length)
  |some (.cg k rs g)=>(d<=g/\v.oneCell'=true)/\(d=g->∃b,γ id=some b/\v=.pointer (some ⟨b,j.toNat*k+off,none⟩)/\0<=j/\j<rs.length)
  |some (.cL _ rs g)=>(d<=g/\v.oneCell'=true)/\(d=g->∃b,γ id=some b/\v=.pointer (some ⟨b,j.toNat*1+off,none⟩)/\0<=j/\j<rs.length)
  |some (.eO rs g)=>(d<=g/\v.oneCell'=true)/\(d=g->∃b o c,v=.pointer (some ⟨b,o+off,none⟩)/\S b/\At w b=some c/\dm S w (rs.getD j.toNat []) c o/\0<=j/\j<rs.length)
  |_=>False
 |.fr id,v=>match aj h id with
  |some (.map ..)=>∃b,γ id=some b/\v=.map (some b)
  |some (.iw _)=>∃b,γ id=some b/\v=.map (some b)
  |_=>False
 |.eT id i,v=>match aj h id with
  |some (.map ..)=>v.oneCell'=true/\∃b l m e,γ id=some b/\YB w b=some (l,m)/\0<=i/\l[i.toNat]? =some e/\v=goInt e.born
  |_=>False
 |_,_=>True
def fM(S:Nat->Prop)(w:World)(ρ:AV->Value->Prop):List (B_×AV)->List MapEntry->Prop
 |[],es=>es=[]
 |(s,x)::r,es=>∃e t,es=e::t/\e.key=.string ⟨s.toArray⟩/\lF S w ρ x e.val/\fM S w ρ r t
theorem fM.later{S S':Nat->Prop}{w w':World}{ρ ρ':AV->Value->Prop}(hl:bf S w S' w')(hρ:∀x v,ρ x v->ρ' x v):∀{a:List (B_×AV)} {b:List MapEntry},fM S w ρ a b->fM S' w' ρ' a b
|[],_,h=>by simpa only[fM]using h
|(s,x)::r,_,h=>by simp only[fM]at h ⊢;obtain⟨e,t,rfl,h1,h2,c⟩:=h;exact⟨e,t,rfl,h1,lF.later hl hρ x h2,fM.later hl hρ c⟩
def akt(n:Nat)(a:Nat×Nat):Prop:=a=(0,0)\/n<=a.1
def DJ(w:World)(b:Nat)(c:Array Value)(e:TypeId):Prop:=∃a,akt c.size a/\w.heap[b]? =some (.cells c e a)
theorem DJ.of{w:World}(h:w.heap[b]? =some (.cells c e (0,0))):DJ w b c e:=⟨_,.inl rfl,h⟩
theorem DJ.trans{w w':World}{b:Nat}{c:Array Value}{e:TypeId}(h:DJ w b c e)(a:w'.heap[b]? =w.heap[b]?):DJ w' b c e:=by obtain⟨d,f,g⟩:=h;exact⟨d,f,a.trans g⟩
def eK(γ:Nat->Option Nat)(S:Nat->Prop)(w:World)(ρ:AV->Value->Prop)(id:Nat):Obj->Prop
 |.cells cs=>∃b c e,γ id=some b/\w.heap[b]? =some (.cells c e (0,0))/\c.size=cs.length/\bB S w ρ cs c 0/\∀t r,cs=.iU t::r->e=t
 |.cL t rs _=>(γ id=none/\rs=[])\/∃b c,γ id=some b/\w.heap[b]? =some (.cells c t (0,0))/\rs.length*1<=c.size/\aK 1 rs/\bM S w rs c 0
 |.rows f rs _=>(γ id=none/\rs=[])\/∃b c e,γ id=some b/\DJ w b c e/\rs.length*f<=c.size/\aK f rs/\bM S w rs c 0
 |.cg f rs _=>(γ id=none/\rs=[])\/∃b c e,γ id=some b/\DJ w b c e/\rs.length*f<=c.size/\(∀r∈rs,r.length=f)/\bU S w ρ rs c 0
 |.eO _ _=>True
 |.map g h kn rows=>∃b a d,γ id=some b/\w.heap[b]? =some (.map a d)/\gm a.toList d/\bV S w g h kn rows a.toList
 |.iw rows=>∃b a d,γ id=some b/\w.heap[b]? =some (.map a d)/\gm a.toList d/\fM S w ρ rows a.toList
 |.ry s pos=>∃b,γ id=some b/\w.heap[b]? =some (.stringIter ⟨s.toArray⟩ pos.toNat)/\0<=pos
 |.eu src seen=>match src with
  |.oh=>∃b,γ id=some b/\w.heap[b]? =some (.mapIter none 0 #[] 0)
  |.mp g h kn rows=>∃b j a d k,γ id=some b/\w.heap[b]? =some (.mapIter (some j) d k d)/\S j/\YB w j=some (a,d)/\gm a.toList d/\bV S w g h kn rows a.toList/\
    (∀i e,a[i]? =some e->k.contains e.born=seen.contains i)/\∀i r,seen=i::r->∃e,a[i]? =some e/\k.back? =some e.born
  |_=>False
structure dW(w0:World)(own0:Nat->Prop)(hvs:List Value×List Deferred)(G:Nat->Option (List PV))(γ:Nat->Option Nat)(S:Nat->Prop)(st:St)(a:Act)(w:World):Prop where
 size:st.slots.length=a.tmps.size
 slot:∀i,lF S w (Ref γ S w st.mem) (st.slot i) (a.tmps.getD i undef)
 held:au S w (Ref γ S w st.mem) st.held hvs.1
 defers:a.defers=hvs.2
 mem:∀id ob,aj st.mem id=some ob->eK γ S w (Ref γ S w st.mem) id ob
 lU:∀i b,γ i=some b->aj st.mem i≠none
 inj:∀i j b,γ i=some b->γ j=some b->i=j
 own:∀i b,γ i=some b->¬S b/\(w0.heap.size<=b\/own0 b)
 bound:∀b,S b->b<w.heap.size
 eJ:∀i b,γ i=some b->b<w.heap.size
 jn:∀g row,G g=some row->S g/\∃c,At w g=some c/\dm S w row c 0/\c.size=row.length
 kept:∀b,b<w0.heap.size->¬own0 b->w.heap[b]? =w0.heap[b]?
 os:w.os=w0.os
 tape:w.tape=w0.tape
 output:w.output=w0.output
 eY:w0.heap.size<=w.heap.size
def ft(w0:World)(own0:Nat->Prop)(hvs:List Value×List Deferred)(G:Nat->Option (List PV))(S0:Nat->Prop)(st:St)(a:Act)(w:World):Prop:=
 ∃γ S,(∀b,S0 b->S b)/\(∀b,S b->S0 b\/w0.heap.size<=b\/own0 b)/\dW w0 own0 hvs G γ S st a w
theorem qO{S:Nat->Prop}{w:World}(h:k9 v=some p):aD S w p v:=by unfold k9 at h;split at h;{cases h;simp only[aD]};{cases h;simp only[aD]};{rename_i a;cases h;cases a;simp[aD]};{cases h;simp only[aD]};{cases h;simp only[aD]};{cases h;simp only[aD]};{cases h;simp only[aD]};{cases h;simp only[aD];exact⟨none,0,rfl,s_,.inl ⟨trivial,trivial⟩⟩};{(rename_i f first b);split at h;{rename_i c d;cases h;simp only[aD,aM];refine⟨[],?_,rfl⟩;(have e:first=#[]:=by simpa using c);have g:b=#[]:=by{simpa using d};grind};grind};grind
theorem H0(h:uh v=some (.sl [] [])):v=.slice none 0 0:=by unfold uh at h;split at h;{split at h<;>simp at h};unfold k9 at h;(split at h<;>try(simp at h;done));{rfl};split at h<;>simp at h
theorem tB{S:Nat->Prop}{w:World}:∀{a:List Value} {ps:List PV},jx a=some ps->aM S w ps a
|[],ps,h=>by simp only[jx,qaa]at h;subst h;simp only[aM]
|v::r,ps,h=>by simp only[jx]at h;cases h1:k9 v with|none=>simp[h1]at h|some p=>cases h2:jx r with|none=>simp[h1,h2]at h|some q=>simp only[h1,h2,qaa]at h;subst h;simp only[aM];exact⟨v,r,rfl,qO h1,tB h2⟩
theorem u9{S:Nat->Prop}{w:World}(h:uh v=some p):aD S w p v:=by unfold uh at h;split at h;{rename_i b;cases a:jx b.toList with|none=>simp[a]at h|some q=>simp only[a,qaa]at h;subst h;simp only[aD];exact⟨b.toList,s_,tB a⟩};exact qO h
section
variable {w0:World} {own0:Nat->Prop} {hvs:List Value×List Deferred} {G:Nat->Option (List PV)} {S:Nat->Prop} {a:Act} {w:World}
theorem dW.fR(h:dW w0 own0 hvs G γ S st a w){o:Operand}{x:bR}(b:aZ G o=some x): lF S w (Ref γ S w st.mem) (st.ev x) (a.eval o):=by cases o with|tmp t=>simp only[aZ,qaa]at b;subst b;exact h.slot t|const v=>{simp only[aZ]at b;cases d:uh v with|none=>simp[d]at b|some p=>simp only[d,qaM,qaa]at b;subst b;have j:aD S w p v:=u9 d;show lF S w (Ref γ S w st.mem) (st.ev (.k p)) v;by_cases l:p=.sl [] [];{subst l;have m:=H0 d;subst m;simp only[St.ev,lF];grind};have e:st.ev (.k p)=.pv p:=by{unfold St.ev;grind};rw[e];simp only[lF];exact j}|global g=>{simp only[aZ]at b;cases i:G g with|none=>simp[i]at b|some row=>simp only[i,qaM,qaa]at b;subst b;obtain⟨hs,c,n,j,_⟩:=h.jn g row i;simp only[St.ev,lF,Act.eval];grind}|func f=>simp only[aZ,qaa]at b;subst b;simp only[St.ev,lF,aD,aM,Act.eval];grind
theorem dW.put(h:dW w0 own0 hvs G γ S st a w)(d:Option Nat){v:AV}{u:Value}(j:lF S w (Ref γ S w st.mem) v u): dW w0 own0 hvs G γ S (st.put d v) (a.put d u) w:=by cases d with|none=>exact h|some d=>refine{h with size:=?_,slot:=?_,held:=h.held,defers:=h.defers};{simp[St.put,Act.put,h.size]};intro i;have k:=h.slot i;simp only[St.put,Act.put,St.slot]at*;by_cases b:i=d;{subst b;by_cases c:i<st.slots.length;{have g:i<a.tmps.size:=h.size▸c;have e:(st.slots.set i v).getD i .dead=v:=by{simp[List.getD_eq_getElem?_getD,c]};have f:(a.tmps.setIfInBounds i u).getD i undef=u:=by{simp[qaJ,g]};grind};have e:st.slots.set i v=st.slots:=List.set_eq_of_length_le o_;have f:a.tmps.setIfInBounds i u=a.tmps:=Array.setIfInBounds_eq_of_size_le (by rw[<-h.size];omega);grind};have e:(st.slots.set d v).getD i .dead=st.slots.getD i .dead:=by{grind};have f:(a.tmps.setIfInBounds d u).getD i undef=a.tmps.getD i undef:=by{simp only[qaJ,qbe (qbN b)]};grind
end
def JK:List PV->List PV->Bool
 |[],[]=>true
 |.bool a::r,.bool b::s=>(a==b)&&JK r s
 |.int _ a::r,.int _ b::s=>(a==b)&&JK r s
 |.str a::r,.str b::s=>(a==b)&&JK r s
 |_,_=>false
def aR:List Nat->List PV->List PV->Prop
 |[],[],[]=>True
 |0::sh,.bool _::r,.bool _::s=>aR sh r s
 |1::sh,.int k _::r,.int a _::s=>k=a/\aR sh r s
 |2::sh,.str _::r,.str _::s=>aR sh r s
 |_,_,_=>False
def fS(a:Nat)(rows:R_):Prop:=∀r∈rows,r.length=a/\∀p∈r,(AV.pv p).one=true
def dQ(kn:Nat)(rows:R_)(k:List PV):Bool:=rows.any fun r=>JK k (r.take kn)
def fb(kn:Nat)(rows:R_)(k:List PV):Nat:=rows.findIdx fun r=>JK k (r.take kn)
def jy(kn:Nat)(rows:R_)(k z:List PV):List PV:=
 match rows.find? fun r=>JK k (r.take kn)with
 |some r=>r.drop kn
 |none=>z
def jz(g:Bool)(ps:List PV):PV:=match g with|true=>.agg ps|false=>ps.headD .mh
def aF:Ar:={
 wrap:=IntKind.wrap
 add:=(·+·)
 sub:=(·-·)
 mul:=(·*·)
 quo:=Int.tdiv
 rem:=Int.tmod
 bits op k x y:=
  let a:=BitVec.ofInt k.bits x
  let b:=BitVec.ofInt k.bits y
  k.wrap ((match op with|.and=>(a&&&b)|.or=>(a|||b)|.xor=>(a^^^b)|_=>(a&&&~~~b)).toNat:Nat)
 shl k x y:=k.wrap (x*2^(min y.toNat k.bits))
 shr k x y:=x.fdiv (2^(min y.toNat k.bits))
 lt a b:=decide (a<b)
 le a b:=decide (a<=b)
 eq a b:=decide (a=b)
 not b:= !b
 min a b:=if b<a then b else a
 max a b:=if b>a then b else a
 nz n:=n≠0
 CY n:=0<=n
 ofNat n:=n
 wY s:=s.length
 sat s j:=((s.getD j.toNat 0).toNat:Nat)
 sin j s:=0<=j/\j<s.length
 Lm a b:=a++b
 Ln a b:=a.length+b.length<=9223372036854775807
 Lp s l h:=(s.drop l.toNat).take (h.toNat-l.toNat)
 sbd l h s:=0<=l/\l<=h/\h<=s.length
 seq a b:=decide (a=b)
 slt a b:=Op.bytesLess a b
 mi rows:=rows.length
 rat rows j:=rows.getD j.toNat []
 tu j rows d:=0<=j/\j<rows.length/\(rows.getD j.toNat []).length=d
 oi a b:=a++b
 oj xs ys bytes d:=(xs.length+ys.length+256)*bytes<=2^46/\xs.length+ys.length<=2^46/\fS d ys/\aK d xs
 Qn xs ys:=xs=[]\/ys≠[]
 Xf:=JK
 HP:=aR
 bytes s:=s.map fun b=>[.u (b.toNat:Nat)]
 gN rows:=rows.map fun r=>match r with|[.int _ n]=>UInt8.ofNat n.toNat|_=>0
 qE rows:=∀r∈rows,∃n,r=[.u n]
 uS rows l h:=(rows.drop l.toNat).take (h.toNat-l.toNat)
 Xg l h rows spare d:=0<=l/\l<=h/\h<=rows.length+spare.length/\(l=0\/aK d (rows++spare))
 wZ l h rows d:=0<=l/\l<=h/\h<=rows.length/\(l=0\/aK d rows)
 Gt rows j off ys:=rows.set j.toNat (jL off ys (rows.getD j.toNat []))
 AK n z:=List.replicate n.toNat z
 WD l c bytes:=0<=l/\l<=c/\c*bytes<=2^47/\c<=2^47
 aat rs j:=rs.getD j.toNat []
 ain j rs d:=0<=j/\j<rs.length/\(rs.getD j.toNat []).length=d
 Lq rs j off ys:=rs.set j.toNat (place off ys (rs.getD j.toNat []))
 yT a b:=a++b
 AL xs ys bytes d:=(xs.length+ys.length+256)*bytes<=2^46/\xs.length+ys.length<=2^46/\(∀r∈ys,r.length=d/\kE r=true)/\(∀r∈xs,r.length=d)
 Lr rs:=rs.length
 off j d:=j.toNat*d
 PS j n:=0<=j/\j<n
 CZ sh kn rows k:=k.length=kn/\aR sh k k/\∀r∈rows,aR sh k (r.take kn)
 yU:=dQ
 HR:=jy
 xJ kn rows k z:=(jy kn rows k z).headD .mh
 mix kn rows k:=(fb kn rows k:Nat)
 HS kn rows k v:=match dQ kn rows k with|true=>rows.modify (fb kn rows k) (fun _=>k++v)|false=>rows++[k++v]
 sK kn rows k z:=match dQ kn rows k with|true=>rows|false=>rows++[k++z]
 PT kn rows i v:=rows.modify i.toNat (fun r=>r.take kn++v)
 min1 i rows:=0<=i/\i<rows.length
 mleft seen rows i:=i<rows.length/\seen.contains i=false
 AM seen rows:=(List.range rows.length).all fun i=>seen.contains i
 Ls e kn rows i:=jz e ((rows.getD i []).take kn)
 Lt f kn rows i:=jz f ((rows.getD i []).drop kn)
 rune s pos:=(Utf8.decode ⟨s.toArray⟩ pos.toNat).1
 C0 s pos:=((Utf8.decode ⟨s.toArray⟩ pos.toNat).2:Nat)
 Lu a b:=a+b
 }
section
variable (P:Program) (w0:World) (own0:Nat->Prop) (hvs:List Value×List Deferred) (G:Nat->Option (List PV)) (S0:Nat->Prop)
def oo(o:Oper)(a:Act)(w:World)(c:St)(v:AV):Prop:=
 ∃u w' γ' S',((execOp a.eval o).run P w=.ok (.value u) w'\/((execOp a.eval o).run P w=.ok .skip w'/\u=undef))/\
  (∀b,S0 b->S' b)/\(∀b,S' b->S0 b\/w0.heap.size<=b\/own0 b)/\dW w0 own0 hvs G γ' S' c a w'/\lF S' w' (Ref γ' S' w' c.mem) v u
def ep(o:Oper)(a:Act)(w:World)(st:St)(kn:Nat)(γ:Nat->Option Nat)(S:Nat->Prop):Out->Prop
 |.bad=>True
 |.val v=>oo P w0 own0 hvs G S0 o a w st v
 |.dG p v=>p->oo P w0 own0 hvs G S0 o a w st v
 |.dp id b v=>oo P w0 own0 hvs G S0 o a w (st.aq id b) v
 |.ix p id b v=>p->oo P w0 own0 hvs G S0 o a w (st.aq id b) v
 |.new b v=>aj st.mem kn=none->kn<=st.mem.length->oo P w0 own0 hvs G S0 o a w (st.aq kn b) v
 |.jK p b v=>aj st.mem kn=none->kn<=st.mem.length->p->oo P w0 own0 hvs G S0 o a w (st.aq kn b) v
 |.call f args=>∃c:List Value,(execOp a.eval o).run P w=(callFunc f c.toArray).run P w/\au S w (Ref γ S w st.mem) args c
 |.all p id b v=>∃i,p i/\oo P w0 own0 hvs G S0 o a w (st.aq id (b i)) (v i)
def cj(o:Oper)(a:Act)(w:World)(st:St)(kn:Nat)(γ:Nat->Option Nat)(S:Nat->Prop):sE->Prop
 |.pure out=>ep P w0 own0 hvs G S0 o a w st kn γ S out
 |.rd id k=>∀b,aj st.mem id=some b->ep P w0 own0 hvs G S0 o a w st kn γ S (k b)
end
section
variable {P:Program} {w0:World} {own0:Nat->Prop} {hvs:List Value×List Deferred} {G:Nat->Option (List PV)} {S0:Nat->Prop} {accs:List Nat} {S:Nat->Prop} {a:Act} {w:World} {o:Oper} {kn:Nat} (h:dW w0 own0 hvs G γ S st a w) (bg:∀b,S0 b->S b) (Cy:∀b,S b->S0 b\/w0.heap.size<=b\/own0 b)
section
include h bg Cy
theorem aG{u:Value}{v:AV}(b:(execOp a.eval o).run P w=.ok (.value u) w)(c:lF S w (Ref γ S w st.mem) v u):oo P w0 own0 hvs G S0 o a w st v:=⟨u,w,γ,S,.inl b,bg,Cy,h,c⟩
theorem Qs{c:bR}(b:o.op=.move x\/o.op=.assign x)(d:aZ G x=some c): cj P w0 own0 hvs G S0 o a w st kn γ S (KA aF kn (.mv c) st.ev):=by refine aG h bg Cy (u:=a.eval x) ?_ (h.fR d);rcases b with b|b<;>simp[execOp,b]
theorem Lz{c y:Operand}{e f g:bR}(i:o.op=.pick c x y)(j:aZ G c=some e)(k:aZ G x=some f)(l:aZ G y=some g): cj P w0 own0 hvs G S0 o a w st kn γ S (KA aF kn (.pick e f g) st.ev):=by simp only[KA];have b:=h.fR j;split;{rename_i d;rw[d]at b;simp only[lF,aD]at b;exact aG h bg Cy (u:=a.eval x) (by simp[execOp,i,b,asBool]) (h.fR k)};{rename_i d;rw[d]at b;simp only[lF,aD]at b;exact aG h bg Cy (u:=a.eval y) (by simp[execOp,i,b,asBool]) (h.fR l)};trivial
theorem S5{d:TypeId}{c:bR}{k e:IntKind}(f:o.op=.convert s d x)(hs:P.underlying s=some (.int e))(g:P.underlying d=some (.int k))(i:aZ G x=some c): cj P w0 own0 hvs G S0 o a w st kn γ S (KA aF kn (.Wt k c) st.ev):=by simp only[KA];have b:=h.fR i;split;{rename_i n j;rw[j]at b;simp only[lF,aD]at b;exact aG h bg Cy (u:=.int k (k.wrap n)) (by simp[execOp,f,convert,run_underlying,hs,g,b,Conv.intToInt]) (by simp only[lF,aD,aF])};trivial
theorem Xk{e:UnOp}{f:bR}(d:o.op=.unOp e t x)(g:aZ G x=some f): cj P w0 own0 hvs G S0 o a w st kn γ S (KA aF kn (.un e f) st.ev):=by simp only[KA,Lv];have b:=h.fR g;split;{rename_i c;rw[c]at b;simp only[lF,aD]at b;exact aG h bg Cy (u:=.bool false) (by simp[execOp,d,b,Op.unary]) (by simp only[lF,aD])};{rename_i c;rw[c]at b;simp only[lF,aD]at b;exact aG h bg Cy (u:=.bool true) (by simp[execOp,d,b,Op.unary]) (by simp only[lF,aD])};{rename_i k n c;rw[c]at b;simp only[lF,aD]at b;exact aG h bg Cy (u:=.int k (k.wrap (0-n))) (by simp[execOp,d,b,Op.unary,Op.intArith]) (by simp only[lF,aD,aF])};trivial
theorem S6{n:bR}(q:o.op=.extract x i)(s:aZ G x=some n): cj P w0 own0 hvs G S0 o a w st kn γ S (KA aF kn (.ext n i) st.ev):=by simp only[KA];have d:=h.fR s;split;{rename_i e f;rw[f]at d;simp only[lF,aD]at d;obtain⟨c,g,hl⟩:=d;split;{rename_i v b;have key:∀(ps:List PV) (c:List Value) (i:Nat) (v:PV),aM S w ps c->ps[i]? =some v->∃u,c[i]? =some u/\aD S w v u:=by{intro ps;induction ps with|nil=>intro c i v _ b;simp at b|cons p ps j=>intro c i v hl b;simp only[aM]at hl;obtain⟨u,r,rfl,d,k⟩:=hl;cases i with|zero=>simp only[qay,qaa]at b;subst b;exact⟨u,rfl,d⟩|succ i=>simpa using j r i v k (by simpa using b)};obtain⟨u,l,m⟩:=key e c i v hl b;exact aG h bg Cy (u:=u) (by simp[execOp,q,g,Instr.extract,l]) (by simp only[lF];exact m)};trivial};{rename_i e f;rw[f]at d;simp only[lF]at d;obtain⟨c,g,hl⟩:=d;split;{rename_i v b;have key:∀(ps:List AV) (c:List Value) (i:Nat) (v:AV),au S w (Ref γ S w st.mem) ps c->ps[i]? =some v->∃u,c[i]? =some u/\lF S w (Ref γ S w st.mem) v u:=by{intro ps;induction ps with|nil=>intro c i v _ b;simp at b|cons p ps j=>intro c i v hl b;simp only[au]at hl;obtain⟨u,r,rfl,d,k⟩:=hl;cases i with|zero=>simp only[qay,qaa]at b;subst b;exact⟨u,rfl,d⟩|succ i=>simpa using j r i v k (by simpa using b)};obtain⟨u,l,m⟩:=key e c i v hl b;exact aG h bg Cy (u:=u) (by simp[execOp,q,g,Instr.extract,l]) m};trivial};trivial
theorem S7{i:Operand}{d e:bR}(g:o.op=.index t x i)(l:P.underlying t=some .string)(m:aZ G x=some d)(n:aZ G i=some e): cj P w0 own0 hvs G S0 o a w st kn γ S (KA aF kn (.SL d e) st.ev):=by simp only[KA];have b:=h.fR m;have c:=h.fR n;split;{rename_i s k j p q;rw[p]at b;rw[q]at c;simp only[lF,aD]at b c;rintro⟨r,z⟩;have f:j.toNat<s.length:=o_;refine aG h bg Cy (u:=.u (s.getD j.toNat 0).toNat) ?_ (by simp only[lF,aD,aF]);have v:(ByteArray.mk s.toArray)[j.toNat]? =some s[j.toNat]:=by{rw[getElem?_pos _ _ (by simpa[ByteArray.size]using f)];rfl};have y:s.getD j.toNat 0=s[j.toNat]:=by{rw[List.getD_eq_getElem?_getD,qag f];rfl};simp only[execOp,g,b,c,Instr.index,asIntOf,Sem.run_bind,Sem.run_pure,Result.andThen_ok,run_underlying l,qao r,v,y]};trivial
theorem S8{b:bR}(c:o.op=.makeInterface t x)(e:∃d,P.underlying t=some d/\∀f,d≠.interface f)(g:aZ G x=some b)(i:∀y p v,AV.flat y=some p->lF S w (Ref γ S w st.mem) y v->aD S w p v): cj P w0 own0 hvs G S0 o a w st kn γ S (KA aF kn (.Wv t b) st.ev):=by simp only[KA];have j:=h.fR g;split;{rename_i p k;obtain⟨d,l,m⟩:=e;refine aG h bg Cy (u:=.iface t (a.eval x)) ?_ (by simp only[lF,aD];exact⟨_,rfl,i _ _ _ k j⟩);simp only[execOp,c,Instr.makeInterface,Sem.run_bind,run_underlying l,Result.andThen_ok];cases d<;>first|rfl|exact absurd rfl (m _)};trivial
theorem S9{B:bR}{C:Array Field}{p:Field}{D:TypeInfo}(E:o.op=.fieldAddr s x f)(hs:P.underlying s=some (.struct C))(F:C[f]? =some p)(H:P.info? p.type=some D)(I:D.size≠0)(J:aZ G x=some B): cj P w0 own0 hvs G S0 o a w st kn γ S (KA aF kn (.pad B p.offset) st.ev):=by have k:∀b d,a.eval x=.pointer (some ⟨b,d,none⟩)->(execOp a.eval o).run P w=.ok (.value (.pointer (some ⟨b,d+p.offset,none⟩))) w:=by{intro b d g;simp only[execOp,E,g,Instr.fieldAt,Sem.run_bind,run_underlying hs,Result.andThen_ok,F,Instr.sureAddr,Sem.run_pure,fieldPlace,sizeOf,typeInfo,run_program,H,I,qaW,Addr.add];by_cases K:p.offset=0<;>simp[K]};simp only[KA];have e:=h.fR J;split;{rename_i id d m;rw[m]at e;simp only[lF,Ref]at e;split at e;{rename_i y q;obtain⟨b,i,g⟩:=e;refine aG h bg Cy (k b d g) ?_;simp only[lF,Ref,q];exact⟨b,i,rfl⟩};{rename_i y q;obtain⟨b,i,g⟩:=e;refine aG h bg Cy (k b d g) ?_;simp only[lF,Ref,q];exact⟨b,i,rfl⟩};{rename_i y q;obtain⟨b,i,g⟩:=e;refine aG h bg Cy (k b d g) ?_;simp only[lF,Ref,q];exact⟨b,i,rfl⟩};exact e.elim};{rename_i row d m;rw[m]at e;simp only[lF]at e;obtain⟨b,z,c,g,i,r,t⟩:=e;refine aG h bg Cy (k b _ g) ?_;simp only[lF];exact⟨b,z,c,by rw[qcg],i,r,t⟩};{rename_i id n j d m;rw[m]at e;simp only[lF,Ref]at e;intro L v;simp only[v]at e;cases L with|cells y=>trivial|map=>trivial|iw=>trivial|ry=>trivial|cL=>trivial|eu=>trivial|rows M rs u=>by_cases l:n=u;{subst l;simp only[qau];obtain⟨b,i,g,A⟩:=e.2 rfl;refine aG h bg Cy (k b _ g) ?_;simp only[lF,Ref,v];exact⟨⟨qak _,rfl⟩,fun _=>⟨b,i,by rw[qcg],A⟩⟩};simp only[qar.2 l];trivial|cg M rs u=>by_cases l:n=u;{subst l;simp only[qau];obtain⟨b,i,g,A⟩:=e.2 rfl;refine aG h bg Cy (k b _ g) ?_;simp only[lF,Ref,v];exact⟨⟨qak _,rfl⟩,fun _=>⟨b,i,by rw[qcg],A⟩⟩};simp only[qar.2 l];trivial|eO rs u=>by_cases l:n=u;{subst l;simp only[qau];obtain⟨b,z,c,g,i,r,t⟩:=e.2 rfl;refine aG h bg Cy (k b _ g) ?_;simp only[lF,Ref,v];exact⟨⟨qak _,rfl⟩,fun _=>⟨b,z,c,by rw[qcg],i,r,t⟩⟩};simp only[qar.2 l];trivial};{rename_i row m;rw[m]at e;simp only[lF,aD]at e;obtain⟨b,d,c,g,i,r,t⟩:=e;refine aG h bg Cy (k b _ g) ?_;simp only[lF];exact⟨b,d,c,rfl,i,r,t⟩};trivial
end
theorem kP(s:B_):(ByteArray.mk s.toArray).toList=s:=by rw[ByteArray.toList_eq]
theorem AY(a:BinOp)(t:TypeId)(x y:Operand)(b:(isConst x||isConst y)=true):(eqGuard a t x y .nilIface .nilIface).run P w=.ok () w:=by simp only[eqGuard];cases a<;>first|rfl|(cases x<;>cases y<;>first|rfl|exact Bool.noConfusion b)
theorem C3{u:TypeId}{v:Value}{a:Array (String×TypeId)}(d:Nat)(b:P.underlying t=some (.interface a)):(Op.equalIn (d+1) t .nilIface .nilIface).run P w=.ok true w:=by simp only[Op.equalIn,Sem.run_bind,run_underlying b,Result.andThen_ok,Sem.run_pure]
theorem mP{u:TypeId}{v:Value}{a:Array (String×TypeId)}(b:P.underlying t=some (.interface a)):(Op.equal t .nilIface .nilIface).run P w=.ok true w:=C3 (u:=u) (v:=v) 9999 b
theorem C4{u:TypeId}{a:Array (String×TypeId)}(d:Nat)(b:P.underlying t=some (.interface a)):(Op.equalIn (d+1) t .nilIface (.iface u v)).run P w=.ok false w:=by simp only[Op.equalIn,Sem.run_bind,run_underlying b,Result.andThen_ok,Sem.run_pure]
theorem mQ{u:TypeId}{a:Array (String×TypeId)}(b:P.underlying t=some (.interface a)):(Op.equal t .nilIface (.iface u v)).run P w=.ok false w:=C4 (u:=u) (v:=v) 9999 b
theorem C5{u:TypeId}{a:Array (String×TypeId)}(d:Nat)(b:P.underlying t=some (.interface a)):(Op.equalIn (d+1) t (.iface u v) .nilIface).run P w=.ok false w:=by simp only[Op.equalIn,Sem.run_bind,run_underlying b,Result.andThen_ok,Sem.run_pure]
theorem mR{u:TypeId}{a:Array (String×TypeId)}(b:P.underlying t=some (.interface a)):(Op.equal t (.iface u v) .nilIface).run P w=.ok false w:=C5 (u:=u) (v:=v) 9999 b
theorem EN(m n:B_):(m==n)=decide (m=n):=by rw[qbX];simp
theorem fE:∀(x:AV) {p:PV} {v:Value},AV.flat x=some p->lF S w (Ref γ S w st.mem) x v->aD S w p v:=by have u:∀(h:List AV) {ps:List PV} {i:List Value},AV.lQ h=some ps->au S w (Ref γ S w st.mem) h i->aM S w ps i:=by{intro h;induction h with|nil=>intro ps i e a;simp only[AV.lQ,qaa]at e;subst e;simpa only[au,aM]using a|cons c h y=>intro ps i e a;simp only[au]at a;obtain⟨v,r,rfl,g,z⟩:=a;cases c with|pv p=>simp only[AV.lQ]at e;split at e;{rename_i q j;simp only[qaa]at e;subst e;simp only[lF]at g;simp only[aM];exact⟨v,r,rfl,g,y j z⟩};simp at e|full rows=>{simp only[AV.lQ]at e;split at e;{rename_i q j;simp only[qaa]at e;subst e;simp only[lF]at g;simp only[aM];refine⟨v,r,rfl,?_,y j z⟩;simp only[aD];obtain⟨l,rfl,g⟩:=g;refine⟨l,_,rfl,s_,?_⟩;rcases g with g|⟨b,k,c,m,n,hs,o,s,t⟩;{exact .inl ⟨g,trivial⟩};exact .inr ⟨b,k,c,m,n,hs,o,s,by simp[aK],t,by simp only[bM]⟩};simp at e}|_=>simp[AV.lQ]at e};intro x p v d a;cases x with|pv q=>simp only[AV.flat,qaa]at d;subst d;simpa only[lF]using a|full rows=>{simp only[AV.flat,qaa]at d;subst d;simp only[lF]at a;simp only[aD];obtain⟨l,rfl,g⟩:=a;refine⟨l,_,rfl,s_,?_⟩;rcases g with g|⟨b,k,c,m,n,hs,o,s,t⟩;{exact .inl ⟨g,trivial⟩};exact .inr ⟨b,k,c,m,n,hs,o,s,by simp[aK],t,by simp only[bM]⟩}|agg h=>simp only[AV.flat]at d;split at d;{rename_i q j;simp only[qaa]at d;subst d;simp only[lF]at a;obtain⟨i,rfl,a⟩:=a;simp only[aD];exact⟨i,rfl,u h j a⟩};simp at d|gM f h=>simp only[AV.flat]at d;split at d;{rename_i q j;simp only[qaa]at d;subst d;simp only[lF]at a;obtain⟨i,rfl,a⟩:=a;simp only[aD];exact⟨i,rfl,u h j a⟩};simp at d|_=>simp[AV.flat]at d
section
include h bg Cy
theorem C6{c:BinOp}{g:TypeId}{y:Operand}{k d:IntKind}{m n:Int}(i:o.op=.binOp c t x y g)(j:a.eval x=.int k m)(l:a.eval y=.int d n):
  ep P w0 own0 hvs G S0 o a w st kn γ S (match(generalizing:=false) c with
   |.shl=>.dG (aF.CY n) (.pv (.int k (aF.shl k m n)))
   |.shr=>.dG (aF.CY n) (.pv (.int k (aF.shr k m n)))
   |c=>if k=d then uT aF c k m n else .bad):=by
 have q:∀c,(eqGuard c t x y (.int k m) (.int d n)).run P w=.ok () w:=by intro c;simp only[eqGuard];cases c<;>rfl
 have r:∀v,(binOp c t (.int k m) (.int d n)).run P w=.ok v w->(execOp a.eval o).run P w=.ok (.value v) w:=by
  intro v e;simp only[execOp,i,j,l,Sem.run_bind,q,Result.andThen_ok,e,Sem.run_pure]
 have done:∀v p,(binOp c t (.int k m) (.int d n)).run P w=.ok v w->aD S w p v->oo P w0 own0 hvs G S0 o a w st (.pv p):=
  fun v p e s=>aG h bg Cy (r v e) (by simpa only[lF]using s)
 by_cases f:k=d
 ·subst f
  cases c with
  |shl=>intro b;exact done _ _ (by simp only[aF]at b;simp only[binOp,Op.shift];rw[qai o_];rfl) (by simp only[aD,aF])
  |shr=>intro b;exact done _ _ (by simp only[aF]at b;simp only[binOp,Op.shift];rw[qai o_];rfl) (by simp only[aD,aF])
  |add=>show ep P w0 own0 hvs G S0 o a w st kn γ S (if k=k then _ else _);rw[qao rfl];exact done _ _ (by simp only[binOp,ne_eq,qa5,qaW,Op.intArith];rfl) (by simp only[aD,aF])
  |sub=>show ep P w0 own0 hvs G S0 o a w st kn γ S (if k=k then _ else _);rw[qao rfl];exact done _ _ (by simp only[binOp,ne_eq,qa5,qaW,Op.intArith];rfl) (by simp only[aD,aF])
  |mul=>show ep P w0 own0 hvs G S0 o a w st kn γ S (if k=k then _ else _);rw[qao rfl];exact done _ _ (by simp only[binOp,ne_eq,qa5,qaW,Op.intArith];rfl) (by simp only[aD,aF])
  |quo=>show ep P w0 own0 hvs G S0 o a w st kn γ S (if k=k then _ else _);rw[qao rfl];intro b;exact done _ _ (by simp only[aF]at b;simp only[binOp,ne_eq,qa5,qaW,Op.intDiv,b];rfl) (by simp only[aD,aF])
  |rem=>show ep P w0 own0 hvs G S0 o a w st kn γ S (if k=k then _ else _);rw[qao rfl];intro b;exact done _ _ (by simp only[aF]at b;simp only[binOp,ne_eq,qa5,qaW,Op.intDiv,b];rfl) (by simp only[aD,aF])
  |lss=>show ep P w0 own0 hvs G S0 o a w st kn γ S (if k=k then _ else _);rw[qao rfl];exact done _ _ (by simp only[binOp,ne_eq,qa5,qaW,Op.intCmp];rfl) (by simp only[aD,aF])
  |leq=>show ep P w0 own0 hvs G S0 o a w st kn γ S (if k=k then _ else _);rw[qao rfl];exact done _ _ (by simp only[binOp,ne_eq,qa5,qaW,Op.intCmp];rfl) (by simp only[aD,aF])
  |gtr=>show ep P w0 own0 hvs G S0 o a w st kn γ S (if k=k then _ else _);rw[qao rfl];exact done _ _ (by simp only[binOp,ne_eq,qa5,qaW,Op.intCmp];rfl) (by simp only[aD,aF,gt_iff_lt])
  |geq=>show ep P w0 own0 hvs G S0 o a w st kn γ S (if k=k then _ else _);rw[qao rfl];exact done _ _ (by simp only[binOp,ne_eq,qa5,qaW,Op.intCmp];rfl) (by simp only[aD,aF,ge_iff_le])
  |eql=>show ep P w0 own0 hvs G S0 o a w st kn γ S (if k=k then _ else _);rw[qao rfl];exact done (.bool (m==n)) _ (by simp only[binOp,ne_eq,qa5,qaW,Op.intCmp];rfl) (by simp only[aD,aF];rfl)
  |neq=>show ep P w0 own0 hvs G S0 o a w st kn γ S (if k=k then _ else _);rw[qao rfl];exact done (.bool (m !=n)) _ (by simp only[binOp,ne_eq,qa5,qaW,Op.intCmp];rfl) (by simp only[aD,aF];rfl)
  |and=>show ep P w0 own0 hvs G S0 o a w st kn γ S (if k=k then _ else _);rw[qao rfl];exact done _ _ (by simp only[binOp,ne_eq,qa5,qaW,Op.intBits];rfl) (by simp only[aD,aF])
  |or=>show ep P w0 own0 hvs G S0 o a w st kn γ S (if k=k then _ else _);rw[qao rfl];exact done _ _ (by simp only[binOp,ne_eq,qa5,qaW,Op.intBits];rfl) (by simp only[aD,aF])
  |xor=>show ep P w0 own0 hvs G S0 o a w st kn γ S (if k=k then _ else _);rw[qao rfl];exact done _ _ (by simp only[binOp,ne_eq,qa5,qaW,Op.intBits];rfl) (by simp only[aD,aF])
  |andNot=>show ep P w0 own0 hvs G S0 o a w st kn γ S (if k=k then _ else _);rw[qao rfl];exact done _ _ (by simp only[binOp,ne_eq,qa5,qaW,Op.intBits];rfl) (by simp only[aD,aF])
 ·cases c with
  |shl=>intro b;exact done _ _ (by simp only[aF]at b;simp only[binOp,Op.shift];rw[qai o_];rfl) (by simp only[aD,aF])
  |shr=>intro b;exact done _ _ (by simp only[aF]at b;simp only[binOp,Op.shift];rw[qai o_];rfl) (by simp only[aD,aF])
  |_=>show ep P w0 own0 hvs G S0 o a w st kn γ S (if k=d then _ else _);rw[qai f];trivial
theorem C7{b:BinOp}{c:TypeId}{y:Operand}{m n:B_}(d:o.op=.binOp b t x y c)(e:a.eval x=.string ⟨m.toArray⟩)(f:a.eval y=.string ⟨n.toArray⟩): ep P w0 own0 hvs G S0 o a w st kn γ S (uU aF b m n):=by have g:∀b,(eqGuard b t x y (.string ⟨m.toArray⟩) (.string ⟨n.toArray⟩)).run P w=.ok () w:=by{intro b;simp only[eqGuard];cases b<;>rfl};have done:∀v p,(binOp b t (.string ⟨m.toArray⟩) (.string ⟨n.toArray⟩)).run P w=.ok v w->aD S w p v->oo P w0 own0 hvs G S0 o a w st (.pv p):=fun v p i j=>aG h bg Cy (u:=v) (by simp only[execOp,d,e,f,Sem.run_bind,g,Result.andThen_ok,i,Sem.run_pure]) (by simpa only[lF]using j);have k:IntKind.i64.max=9223372036854775807:=d_;unfold uU;split;{intro l;refine done (.string (⟨m.toArray⟩++⟨n.toArray⟩)) _ ?_ ?_;{simp only[aF]at l;simp only[binOp,Op.stringOp];rw[qai (by rw[k];simp only[ByteArray.size,qb9];omega)];rfl};simp only[aD,aF];congr 1};{exact done (.bool (m==n)) _ (by simp only[binOp,Op.stringOp,kP];rfl) (by simp only[aD,aF,EN])};{exact done (.bool (!(m==n))) _ (by simp only[binOp,Op.stringOp,kP];rfl) (by simp only[aD,aF,EN])};{exact done (.bool (Op.bytesLess m n)) _ (by simp only[binOp,Op.stringOp,kP];rfl) (by simp only[aD,aF])};trivial
theorem aaE{b:BinOp}{d:TypeId}{y:Operand}{m n:Bool}(e:o.op=.binOp b t x y d)(c:P.underlying t=some .bool)(f:a.eval x=.bool m)(g:a.eval y=.bool n): ep P w0 own0 hvs G S0 o a w st kn γ S (uu b m n):=by have i:∀b,(eqGuard b t x y (.bool m) (.bool n)).run P w=.ok () w:=by{intro b;simp only[eqGuard];cases b<;>rfl};have done:∀v p,(binOp b t (.bool m) (.bool n)).run P w=.ok v w->aD S w p v->oo P w0 own0 hvs G S0 o a w st (.pv p):=fun v p j k=>aG h bg Cy (u:=v) (by simp only[execOp,e,f,g,Sem.run_bind,i,Result.andThen_ok,j,Sem.run_pure]) (by simpa only[lF]using k);unfold uu;split;{exact done _ _ (run_eql_bool _ t m n c) (by simp only[aD];cases m<;>cases n<;>rfl)};{exact done _ _ (run_neq_bool _ t m n c) (by simp only[aD];cases m<;>cases n<;>rfl)};trivial
theorem C8{b:BinOp}{j:TypeId}{y:Operand}{k:Array (String×TypeId)}(l:o.op=.binOp b t x y j)(c:P.underlying t=some (.interface k))(m:(isConst x||isConst y)=true)(p q:PV)(d:aD S w p (a.eval x))(e:aD S w q (a.eval y)):
  ep P w0 own0 hvs G S0 o a w st kn γ S (match(generalizing:=false) p,q with
   |.j8,.j8=>match(generalizing:=false) b with|.eql=>.val (.pv (.bool true))|.neq=>.val (.pv (.bool false))|_=>.bad
   |.j8,.iface ..=>match(generalizing:=false) b with|.eql=>.val (.pv (.bool false))|.neq=>.val (.pv (.bool true))|_=>.bad
   |.iface ..,.j8=>match(generalizing:=false) b with|.eql=>.val (.pv (.bool false))|.neq=>.val (.pv (.bool true))|_=>.bad
   |_,_=>.bad):=by
 have done:∀v p,((do eqGuard b t x y (a.eval x) (a.eval y);binOp b t (a.eval x) (a.eval y)):Sem Value).run P w=.ok v w->aD S w p v->oo P w0 own0 hvs G S0 o a w st (.pv p):=
  fun v p i n=>aG h bg Cy (u:=v) (by simp only[execOp,l,Sem.run_bind,Sem.run_pure]at i ⊢;rw[i];rfl) (by simpa only[lF]using n)
 have g0:∀b,(eqGuard b t x y .nilIface .nilIface).run P w=.ok () w:=fun b=>AY b t x y m
 cases p with
 |j8=>
  cases q with
  |j8=>
   simp only[aD]at d e
   cases b<;>first|exact True.intro|skip
   ·exact done (.bool true) _ (by rw[d,e];simp only[Sem.run_bind,g0,Result.andThen_ok,binOp,mP (u:=0) (v:=undef) c,mQ c,mR c,Sem.run_pure]) (by simp only[aD])
   ·exact done (.bool false) _ (by rw[d,e];simp only[Sem.run_bind,g0,Result.andThen_ok,binOp,mP (u:=0) (v:=undef) c,mQ c,mR c,Sem.run_pure];rfl) (by simp only[aD])
  |iface f pp=>
   simp only[aD]at d e;obtain⟨g,e,_⟩:=e
   have g0:∀b,(eqGuard b t x y .nilIface (.iface f g)).run P w=.ok () w:=by intro b;simp only[eqGuard];cases b<;>rfl
   cases b<;>first|exact True.intro|skip
   ·exact done (.bool false) _ (by rw[d,e];simp only[Sem.run_bind,g0,Result.andThen_ok,binOp,mP (u:=0) (v:=undef) c,mQ c,mR c,Sem.run_pure]) (by simp only[aD])
   ·exact done (.bool true) _ (by rw[d,e];simp only[Sem.run_bind,g0,Result.andThen_ok,binOp,mP (u:=0) (v:=undef) c,mQ c,mR c,Sem.run_pure];rfl) (by simp only[aD])
  |_=>exact True.intro
 |iface f pp=>
  cases q with
  |j8=>
   simp only[aD]at d e;obtain⟨g,d,_⟩:=d
   have g0:∀b,(eqGuard b t x y (.iface f g) .nilIface).run P w=.ok () w:=by intro b;simp only[eqGuard];cases b<;>rfl
   cases b<;>first|exact True.intro|skip
   ·exact done (.bool false) _ (by rw[d,e];simp only[Sem.run_bind,g0,Result.andThen_ok,binOp,mP (u:=0) (v:=undef) c,mQ c,mR c,Sem.run_pure]) (by simp only[aD])
   ·exact done (.bool true) _ (by rw[d,e];simp only[Sem.run_bind,g0,Result.andThen_ok,binOp,mP (u:=0) (v:=undef) c,mQ c,mR c,Sem.run_pure];rfl) (by simp only[aD])
  |_=>exact True.intro
 |_=>cases q<;>exact True.intro
end
end
theorem cell_of{w:World}(h:At w b=some c)(i:Nat):w.cell? ⟨b,i,none⟩=c[i]?:=by unfold At at h;unfold World.cell?;split at h;{rename_i d e f a;simp only[qaa]at h;subst h;simp[a]};simp at h
section
variable {S:Nat->Prop} {w:World} {ρ:AV->Value->Prop}
theorem dm.get:∀{ps:List PV} {c:Array Value} {o j:Nat} {p:PV},dm S w ps c o->ps[j]? =some p->∃v,c[o+j]? =some v/\aD S w p v
|[],_,_,_,_,_,h=>by simp at h
|p::ps,c,o,0,q,a,h=>by simp only[qay,qaa]at h;subst h;simp only[dm]at a;exact a.1
|p::ps,c,o,j+1,q,a,h=>by simp only[dm]at a;have:=dm.get (j:=j) a.2 (by simpa using h);rwa [show o+(j+1)=o+1+j by omega]
theorem dm.drop:∀{ps:List PV} {c:Array Value} {o:Nat} (k:Nat),dm S w ps c o->dm S w (ps.drop k) c (o+k)
|_,_,_,0,h=>by simpa using h
|[],_,_,k+1,_=>by simp only[qdk,dm]
|p::ps,c,o,k+1,h=>by simp only[dm]at h;have:=dm.drop k h.2;rw[show o+(k+1)=o+1+k by omega];simpa using this
theorem dm.take:∀{ps:List PV} {c:Array Value} {o:Nat} (k:Nat),dm S w ps c o->dm S w (ps.take k) c o
|_,_,_,0,h=>by simp only[qbo,dm]
|[],_,_,k+1,_=>by simp only[qdi,dm]
|p::ps,c,o,k+1,h=>by simp only[dm]at h;simp only[qbl,dm];exact⟨h.1,dm.take k h.2⟩
theorem dm.list:∀{ps:List PV} {c:Array Value} {o:Nat},dm S w ps c o->∃a:List Value,aM S w ps a/\a.length=ps.length/\∀j v,a[j]? =some v->c[o+j]? =some v
|[],_,_,_=>⟨[],by simp only[aM],rfl,s_⟩
|p::ps,c,o,h=>by simp only[dm]at h;obtain⟨⟨v,d,h1⟩,h2⟩:=h;obtain⟨a,e,f,g⟩:=dm.list h2;refine⟨v::a,by simp only[aM];exact⟨v,a,rfl,h1,e⟩,by simp[f],?_⟩;intro j u b;cases j with|zero=>simp only[qay,qaa]at b;subst b;exact d|succ j=>rw[show o+(j+1)=o+1+j by omega];exact g j u (by simpa using b)
theorem bB.get:∀{ps:List AV} {c:Array Value} {o j:Nat} {p:AV},bB S w ρ ps c o->ps[j]? =some p->∃v,c[o+j]? =some v/\lF S w ρ p v
|[],_,_,_,_,_,h=>by simp at h
|p::ps,c,o,0,q,a,h=>by simp only[qay,qaa]at h;subst h;simp only[bB]at a;exact a.1
|p::ps,c,o,j+1,q,a,h=>by simp only[bB]at a;have:=bB.get (j:=j) a.2 (by simpa using h);rwa [show o+(j+1)=o+1+j by omega]
theorem bB.drop:∀{ps:List AV} {c:Array Value} {o:Nat} (k:Nat),bB S w ρ ps c o->bB S w ρ (ps.drop k) c (o+k)
|_,_,_,0,h=>by simpa using h
|[],_,_,k+1,_=>by simp only[qdk,bB]
|p::ps,c,o,k+1,h=>by simp only[bB]at h;have:=bB.drop k h.2;rw[show o+(k+1)=o+1+k by omega];simpa using this
theorem bB.take:∀{ps:List AV} {c:Array Value} {o:Nat} (k:Nat),bB S w ρ ps c o->bB S w ρ (ps.take k) c o
|_,_,_,0,h=>by simp only[qbo,bB]
|[],_,_,k+1,_=>by simp only[qdi,bB]
|p::ps,c,o,k+1,h=>by simp only[bB]at h;simp only[qbl,bB];exact⟨h.1,bB.take k h.2⟩
theorem bB.list:∀{ps:List AV} {c:Array Value} {o:Nat},bB S w ρ ps c o->∃a:List Value,au S w ρ ps a/\a.length=ps.length/\∀j v,a[j]? =some v->c[o+j]? =some v
|[],_,_,_=>⟨[],by simp only[au],rfl,s_⟩
|p::ps,c,o,h=>by simp only[bB]at h;obtain⟨⟨v,d,h1⟩,h2⟩:=h;obtain⟨a,e,f,g⟩:=bB.list h2;refine⟨v::a,by simp only[au];exact⟨v,a,rfl,h1,e⟩,by simp[f],?_⟩;intro j u b;cases j with|zero=>simp only[qay,qaa]at b;subst b;exact d|succ j=>rw[show o+(j+1)=o+1+j by omega];exact g j u (by simpa using b)
theorem au.length:∀{b:List AV} {a:List Value},au S w ρ b a->a.length=b.length
|[],a,h=>by simp only[au]at h;subst h;rfl
|x::b,a,h=>by simp only[au]at h;obtain⟨v,r,rfl,_,h2⟩:=h;simp[au.length h2]
theorem aM.length:∀{b:List PV} {a:List Value},aM S w b a->a.length=b.length
|[],a,h=>by simp only[aM]at h;subst h;rfl
|x::b,a,h=>by simp only[aM]at h;obtain⟨v,r,rfl,_,h2⟩:=h;simp[aM.length h2]
theorem aM.av:∀{b:List PV} {a:List Value},aM S w b a->au S w ρ (b.map .pv) a
|[],a,h=>by simpa only[aM,qaF,au]using h
|x::b,a,h=>by simp only[aM]at h;obtain⟨v,r,rfl,h1,h2⟩:=h;simp only[qaj,au,lF];exact⟨v,r,rfl,h1,aM.av h2⟩
def va(ρ:AV->Value->Prop):Prop:=∀x v,(match x with|.c8 ..|.ptr ..|.cR ..|.fr ..|.eT ..=>True|_=>False)->ρ x v->v.oneCell'=true
theorem aD.one{p:PV}{v:Value}(h1:(AV.pv p).one=true)(h:aD S w p v):v.oneCell'=true:=by cases p with|agg c=>simp[AV.one]at h1|eN c=>simp[AV.one]at h1|gM f ps=>simp only[aD]at h;obtain⟨d,rfl,_⟩:=h;rfl|iface t p=>simp only[aD]at h;obtain⟨d,rfl,_⟩:=h;rfl|sl r s=>simp only[aD]at h;obtain⟨a,c,rfl,_⟩:=h;rfl|ptr r=>simp only[aD]at h;obtain⟨a,c,b,rfl,_⟩:=h;rfl|mp=>simp only[aD]at h;obtain⟨a,c,b,rfl,_⟩:=h;rfl|_=>simp only[aD]at h;subst h;rfl
theorem lF.one(hρ:va ρ){x:AV}{v:Value}(h1:x.one=true)(h:lF S w ρ x v):v.oneCell'=true:=by cases x with|pv p=>simp only[lF]at h;exact aD.one h1 h|agg c=>simp[AV.one]at h1|eN c=>simp[AV.one]at h1|dead=>simp[AV.one]at h1|iU t=>simp[AV.one]at h1|c8 id a=>simp only[lF]at h;exact hρ _ _ trivial h|ptr id a=>simp only[lF]at h;exact hρ _ _ trivial h|cR id a j o=>simp only[lF]at h;exact hρ _ _ trivial h|fQ r o=>simp only[lF]at h;obtain⟨b,d,c,rfl,_⟩:=h;rfl|full r=>simp only[lF]at h;obtain⟨b,rfl,_⟩:=h;rfl|gM f c=>simp only[lF]at h;obtain⟨b,rfl,_⟩:=h;rfl|Ay f c=>simp only[lF]at h;obtain⟨b,rfl,_⟩:=h;rfl|kM r=>simp only[lF]at h;obtain⟨b,rfl,_⟩:=h;rfl|fr id=>simp only[lF]at h;exact hρ _ _ trivial h|eT id i=>simp only[lF]at h;exact hρ _ _ trivial h
theorem pG(h:v.oneCell'=true):v.cells=#[v]:=by cases v<;>first|rfl|simp[Value.oneCell']at h
theorem lF.cells(hρ:va ρ){x:AV}{v:Value}(h1:kE x.cells=true)(h:lF S w ρ x v):au S w ρ x.cells v.cells.toList:=by cases x with|agg cs=>simp only[lF]at h;obtain⟨a,rfl,h⟩:=h;simpa only[AV.cells,Value.cells]using h|pv p=>{cases p with|agg ps=>simp only[lF,aD]at h;obtain⟨a,rfl,h⟩:=h;simpa only[AV.cells,Value.cells]using aM.av h|eN ps=>simp[AV.cells,kE,AV.one]at h1|_=>rw[pG (lF.one hρ r_ h)];simp only[AV.cells,au];exact⟨v,[],rfl,h,rfl⟩}|eN cs=>simp[AV.cells,kE,AV.one]at h1|dead=>simp[AV.cells,kE,AV.one]at h1|iU t=>simp[AV.cells,kE,AV.one]at h1|_=>rw[pG (lF.one hρ r_ h)];simp only[AV.cells,au];exact⟨v,[],rfl,h,rfl⟩
theorem jX(γ:Nat->Option Nat)(c:List (Option Obj)):va (Ref γ S w c):=by intro x v d h;cases x with|c8 id a=>{simp only[Ref]at h;split at h<;>first|exact h.1.2|exact h.elim}|ptr id a=>{simp only[Ref]at h;split at h<;>first|(obtain⟨b,_,rfl⟩:=h;rfl)|exact h.elim}|cR id a j o=>{simp only[Ref]at h;split at h<;>first|exact h.1.2|exact h.elim}|fr id=>{simp only[Ref]at h;split at h<;>first|(obtain⟨b,_,rfl⟩:=h;rfl)|exact h.elim}|eT id i=>{simp only[Ref]at h;split at h<;>first|exact h.1|exact h.elim}|_=>exact d.elim
end
theorem uQ(b:d<=mem.length)(i:Nat): aj (qG mem d o) i=if i=d then some o else aj mem i:=by unfold qG;split;{rename_i a;have b:d<mem.length:=qaH a;unfold aj;grind};rename_i a;have c:d=mem.length:=by{have:¬d+1<=mem.length:=fun h=>by{rw[qcQ h]at a;cases a};grind};subst c;unfold aj;grind
theorem mS{a:List (Option Obj)}(h:aj a i=some o):i<a.length:=by unfold aj at h;grind
theorem bT{a:List (Option Obj)}(h:aj a i=some o):i<=a.length:=qcl (mS h)
theorem iD{w:World}{o:Go.Obj}(h:b<w.heap.size):(w.alloc o).heap[b]? =w.heap[b]?:=RowKit.Below.heap_alloc w o b h
theorem heap_alloc_new{w:World}{o:Go.Obj}:(w.alloc o).heap[w.heap.size]? =some o:=by show(w.heap.push o)[w.heap.size]? =_;simp
section
variable {S:Nat->Prop} {w:World} {ρ:AV->Value->Prop}
theorem bB.later(hl:bf S w S' w')(hρ:∀x v,ρ x v->ρ' x v){a:List AV}{o:Nat}(h:bB S w ρ a c o):bB S' w' ρ' a c o:=bB.qN hl hρ a h
theorem bU.later(hl:bf S w S' w')(hρ:∀x v,ρ x v->ρ' x v){a:List (List AV)}{o:Nat}(h:bU S w ρ a c o):bU S' w' ρ' a c o:=bU.qN hl hρ a h
theorem eK.later{γ γ':Nat->Option Nat}(hl:bf S w S' w')(hρ:∀x v,ρ x v->ρ' x v){id:Nat}{ob:Obj}(hγ:γ' id=γ id)(i:∀b,γ id=some b->w'.heap[b]? =w.heap[b]?)(h:eK γ S w ρ id ob):eK γ' S' w' ρ' id ob:=by cases ob with|cells cs=>obtain⟨b,c,e,a,d,f,g⟩:=h;exact⟨b,c,e,hγ.trans a,(i b a).trans d,f,bB.later hl hρ g.1,g.2⟩|cL t rs j=>{rcases h with⟨a,d⟩|⟨b,c,a,d,f,g,k⟩;{exact .inl ⟨hγ.trans a,d⟩};exact .inr ⟨b,c,hγ.trans a,(i b a).trans d,f,g,bM.later hl rs k⟩}|rows o rs j=>{rcases h with⟨a,d⟩|⟨b,c,e,a,d,f,g,k⟩;{exact .inl ⟨hγ.trans a,d⟩};exact .inr ⟨b,c,e,hγ.trans a,d.trans (i b a),f,g,bM.later hl rs k⟩}|cg o rs j=>{rcases h with⟨a,d⟩|⟨b,c,e,a,d,f,g,k⟩;{exact .inl ⟨hγ.trans a,d⟩};exact .inr ⟨b,c,e,hγ.trans a,d.trans (i b a),f,g,bU.later hl hρ k⟩}|eO rs j=>trivial|map u y kn rows=>obtain⟨b,l,m,a,d,f,g⟩:=h;exact⟨b,l,m,hγ.trans a,(i b a).trans d,f,bV.later hl rows g⟩|iw rows=>obtain⟨b,l,m,a,d,f,g⟩:=h;exact⟨b,l,m,hγ.trans a,(i b a).trans d,f,fM.later hl hρ g⟩|ry s pos=>obtain⟨b,a,d,f⟩:=h;exact⟨b,hγ.trans a,(i b a).trans d,f⟩|eu src seen=>simp only[eK]at h ⊢;split at h;{obtain⟨b,a,d⟩:=h;exact⟨b,hγ.trans a,(i b a).trans d⟩};{obtain⟨b,n,l,m,p,a,d,f,g,k,q,r⟩:=h;exact⟨b,n,l,m,p,hγ.trans a,(i b a).trans d,(hl n f).1,(hl n f).2.2.trans g,k,bV.later hl _ q,r⟩};exact h
end
def bI:AV->Option Nat
 |.c8 id _=>some id
 |.ptr id _=>some id
 |.cR id _ _ _=>some id
 |.fr id=>some id
 |.eT id _=>some id
 |_=>none
theorem Ref.sO{γ':Nat->Option Nat}{S:Nat->Prop}{w:World}{d g:List (Option Obj)}(hl:bf S w S' w')(x:AV)(v:Value)(m:∀id f,bI x=some id->aj d id=some f->aj g id=some f/\γ' id=γ id/\∀b,γ id=some b->At w' b=At w b/\YB w' b=YB w b)(h:Ref γ S w d x v):Ref γ' S' w' g x v:=by cases x with|c8 id q=>{simp only[Ref]at h ⊢;cases a:aj d id with|none=>simp only[a]at h|some f=>obtain⟨l,n,p⟩:=m id f rfl a;simp only[a]at h;simp only[l];cases f with|rows r rs k=>grind|cg r rs k=>grind|cL t rs k=>grind|eO rs k=>exact⟨h.1,fun e=>aD.later hl _ (h.2 e)⟩|_=>exact h}|ptr id off=>{simp only[Ref]at h ⊢;cases a:aj d id with|none=>simp only[a]at h|some f=>obtain⟨l,n,p⟩:=m id f rfl a;grind}|cR id q j off=>{simp only[Ref]at h ⊢;cases a:aj d id with|none=>simp only[a]at h|some f=>obtain⟨l,n,p⟩:=m id f rfl a;simp only[a]at h;simp only[l];cases f with|rows r rs k=>grind|cg r rs k=>grind|cL t rs k=>grind|eO rs k=>refine⟨h.1,fun e=>?_⟩;obtain⟨b,o,c,s,hs,u,y,z⟩:=h.2 e;exact⟨b,o,c,s,(hl b hs).1,(hl b hs).2.1.trans u,dm.later hl _ y,z⟩|_=>exact h}|fr id=>{simp only[Ref]at h ⊢;cases a:aj d id with|none=>simp only[a]at h|some f=>obtain⟨l,n,p⟩:=m id f rfl a;grind}|eT id i=>{simp only[Ref]at h ⊢;cases a:aj d id with|none=>simp only[a]at h|some f=>obtain⟨l,n,p⟩:=m id f rfl a;grind}|_=>simp only[Ref]
theorem Ref.later{γ':Nat->Option Nat}{S:Nat->Prop}{w:World}{mem':List (Option Obj)}(hl:bf S w S' w')(a:∀id ob,aj mem id=some ob->aj mem' id=some ob/\γ' id=γ id/\∀b,γ id=some b->At w' b=At w b/\YB w' b=YB w b): ∀x v,Ref γ S w mem x v->Ref γ' S' w' mem' x v:=fun x v h=>Ref.sO hl x v (fun id ob _ c=>a id ob c) h
section
variable {P:Program} {w0:World} {own0:Nat->Prop} {hvs:List Value×List Deferred} {G:Nat->Option (List PV)} {S0:Nat->Prop} {accs:List Nat} {S:Nat->Prop} {a:Act} {w:World} {o:Oper} {kn:Nat} (h:dW w0 own0 hvs G γ S st a w) (bg:∀b,S0 b->S b) (Cy:∀b,S b->S0 b\/w0.heap.size<=b\/own0 b)
def dp(γ:Nat->Option Nat)(d:Nat)(b:Option Nat):Nat->Option Nat:=fun i=>if i=d then b else γ i
section
include h
theorem tD(c:Go.Obj):bf S w S (w.alloc c):=fun b a=>⟨a,dC (iD (h.bound b a))⟩
theorem dW.grow(k:∀b,b<w.heap.size->w'.heap[b]? =w.heap[b]?)(y:w.heap.size<=w'.heap.size)(p:w'.os=w.os)(q:w'.tape=w.tape)(r:w'.output=w.output)(m:∀b,S b->S' b)(n:∀b,S' b->S b\/(w.heap.size<=b/\b<w'.heap.size)): dW w0 own0 hvs G γ S' st a w'/\bf S w S' w'/\(∀x v,Ref γ S w st.mem x v->Ref γ S' w' st.mem x v):=by have hl:bf S w S' w':=fun b d=>⟨m b d,dC (k b (h.bound b d))⟩;have d:∀i b,γ i=some b->w'.heap[b]? =w.heap[b]?:=fun i b d=>k b (h.eJ i b d);have hρ:=Ref.later (γ:=γ) (γ':=γ) (mem:=st.mem) (mem':=st.mem) hl fun id f l=>⟨l,rfl,fun b s=>dC (d id b s)⟩;refine⟨?_,hl,hρ⟩;exact{size:=h.size,slot:=fun i=>lF.later hl hρ _ (h.slot i),held:=au.later hl hρ _ h.held,defers:=h.defers,mem:=fun id f l=>eK.later hl hρ rfl (d id) (h.mem id f l),lU:=h.lU,inj:=h.inj,own:=fun i b j=>by refine⟨fun hs=>?_,(h.own i b j).2⟩;rcases n b hs with e|e;{exact(h.own i b j).1 e};grind,bound:=fun b d=>by rcases n b d with e|e;{have:=h.bound b e;omega};grind,eJ:=fun i b d=>by have:=h.eJ i b d;omega,jn:=fun g row j=>by obtain⟨e,c,h2,h3,t⟩:=h.jn g row j;exact⟨m g e,c,((hl g e).2.1).trans h2,dm.later hl row h3,t⟩,kept:=fun b d u=>(k b (by have:=h.eY;omega)).trans (h.kept b d u),os:=p.trans h.os,tape:=q.trans h.tape,output:=r.trans h.output,eY:=by have:=h.eY;omega}
theorem dW.Gz(r:aj st.mem d=none)(q:d<=st.mem.length)(n:Obj)(go:Go.Obj)(y:(∀x v,Ref γ S w st.mem x v->Ref (dp γ d (some w.heap.size)) S (w.alloc go) (st.aq d n).mem x v)->bf S w S (w.alloc go)->eK (dp γ d (some w.heap.size)) S (w.alloc go) (Ref (dp γ d (some w.heap.size)) S (w.alloc go) (st.aq d n).mem) d n): dW w0 own0 hvs G (dp γ d (some w.heap.size)) S (st.aq d n) a (w.alloc go)/\ (∀x v,Ref γ S w st.mem x v->Ref (dp γ d (some w.heap.size)) S (w.alloc go) (st.aq d n).mem x v)/\bf S w S (w.alloc go):=by have hl:=tD h go;have hγd:γ d=none:=by{cases l:γ d with|none=>rfl|some b=>exact absurd r (h.lU d b l)};have m:∀i b,γ i=some b->(w.alloc go).heap[b]? =w.heap[b]?:=fun i b m=>iD (h.eJ i b m);have o:∀id k,aj st.mem id=some k->aj (st.aq d n).mem id=some k/\dp γ d (some w.heap.size) id=γ id:=by{intro id k o;have s:id≠d:=fun e=>by{rw[e,r]at o;cases o};exact⟨by simp only[St.aq,uQ q,qai s,o],by simp only[dp,qai s]⟩};have hρ:=Ref.later (γ:=γ) (γ':=dp γ d (some w.heap.size)) (mem:=st.mem) (mem':=(st.aq d n).mem) hl fun id k l=>⟨(o id k l).1,(o id k l).2,fun b z=>dC (m id b z)⟩;refine⟨?_,hρ,hl⟩;exact{size:=h.size,slot:=fun i=>lF.later hl hρ _ (h.slot i),held:=au.later hl hρ _ h.held,defers:=h.defers,mem:=fun id k l=>by by_cases f:id=d;{subst f;simp only[St.aq,uQ q,qax,qaa]at l;subst l;exact y hρ hl};simp only[St.aq,uQ q,qai f]at l;exact eK.later hl hρ (by simp only[dp,qai f]) (m id) (h.mem id k l),lU:=fun i b l=>by simp only[St.aq,uQ q];by_cases f:i=d;{simp[f]};simp only[dp,qai f]at l ⊢;exact h.lU i b l,inj:=fun i j b f p=>by simp only[dp]at f p;split at f<;>split at p;{rename_i A B;rw[A,B]};{simp only[qaa]at f;subst f;have:=h.eJ j _ p;omega};{simp only[qaa]at p;subst p;have:=h.eJ i _ f;omega};exact h.inj i j b f p,own:=fun i b f=>by simp only[dp]at f;split at f;{simp only[qaa]at f;subst f;exact⟨fun C=>by have:=h.bound _ C;omega,.inl h.eY⟩};exact h.own i b f,bound:=fun b m=>by simp;have:=h.bound b m;omega,eJ:=fun i b f=>by simp only[dp]at f;simp only[World.size_alloc];split at f;{simp only[qaa]at f;omega};have:=h.eJ i b f;omega,jn:=fun g row l=>by obtain⟨u,c,h2,h3,D⟩:=h.jn g row l;exact⟨u,c,((hl g u).2.1).trans h2,dm.later hl row h3,D⟩,kept:=fun b m E=>(iD (by have:=h.eY;omega)).trans (h.kept b m E),os:=h.os,tape:=h.tape,output:=h.output,eY:=by simp;have:=h.eY;omega}
theorem dW.new(f:aj st.mem d=none)(g:d<=st.mem.length)(b:Obj)(c:Array Value)(e:TypeId)(i:(∀x v,Ref γ S w st.mem x v->Ref (dp γ d (some w.heap.size)) S (w.alloc (.cells c e)) (st.aq d b).mem x v)->bf S w S (w.alloc (.cells c e))->eK (dp γ d (some w.heap.size)) S (w.alloc (.cells c e)) (Ref (dp γ d (some w.heap.size)) S (w.alloc (.cells c e)) (st.aq d b).mem) d b): dW w0 own0 hvs G (dp γ d (some w.heap.size)) S (st.aq d b) a (w.alloc (.cells c e))/\ (∀x v,Ref γ S w st.mem x v->Ref (dp γ d (some w.heap.size)) S (w.alloc (.cells c e)) (st.aq d b).mem x v)/\bf S w S (w.alloc (.cells c e)):=dW.Gz h f g b (.cells c e) i
theorem dW.C9(n:aj st.mem d=none)(l:d<=st.mem.length)(m g:Nat): dW w0 own0 hvs G γ S (st.aq d (.rows m [] g)) a w:=by
 have hγd:γ d=none:=by{cases f:γ d with|none=>rfl|some b=>exact absurd n (h.lU d b f)};have hl:=bf.refl S w;have j:∀id c,aj st.mem id=some c->aj (st.aq d (.rows m [] g)).mem id=some c:=by{intro id c j;have p:id≠d:=fun e=>by{rw[e,n]at j;cases j};simp only[St.aq,uQ l,qai p,j]};have hρ:=Ref.later (γ:=γ) (γ':=γ) (mem:=st.mem) (mem':=(st.aq d (.rows m [] g)).mem) hl fun id c f=>⟨j id c f,rfl,fun b _=>⟨rfl,rfl⟩⟩
 exact{h with
     slot:=fun i=>lF.later hl hρ _ (h.slot i),held:=au.later hl hρ _ h.held
     mem:=fun id c f=>by
      by_cases k:id=d
      ·subst k;simp only[St.aq,uQ l,qax,qaa]at f;subst f;exact .inl ⟨hγd,rfl⟩
      ·simp only[St.aq,uQ l,qai k]at f;exact eK.later hl hρ rfl (fun _ _=>rfl) (h.mem id c f)
     lU:=fun i b f=>by
      simp only[St.aq,uQ l]
      by_cases k:i=d
      ·simp[k]
      ·simp only[qai k];exact h.lU i b f}
theorem dW.lg{id:Nat}{B ob':Obj}(hid:aj st.mem id=some B)(q:γ id=some b)(o:∀k,k≠b->w'.heap[k]? =w.heap[k]?)(r:w'.heap.size=w.heap.size)(C:w'.os=w.os)(D:w'.tape=w.tape)(E:w'.output=w.output)(F:∀x v,bI x=some id->Ref γ S w st.mem x v->Ref γ S w' (st.aq id ob').mem x v)(H:(∀x v,Ref γ S w st.mem x v->Ref γ S w' (st.aq id ob').mem x v)->bf S w S w'->eK γ S w' (Ref γ S w' (st.aq id ob').mem) id ob'): dW w0 own0 hvs G γ S (st.aq id ob') a w'/\(∀x v,Ref γ S w st.mem x v->Ref γ S w' (st.aq id ob').mem x v)/\bf S w S w':=by have p:=bT hid;have t:=h.own id b q;have hl:bf S w S w':=fun k j=>⟨j,dC (o k (fun e=>t.1 (e▸j)))⟩;have hρ:∀x v,Ref γ S w st.mem x v->Ref γ S w' (st.aq id ob').mem x v:=by{intro x v u;by_cases f:bI x=some id;{exact F x v f u};refine Ref.sO hl x v (fun m y I d=>?_) u;have z:m≠id:=fun e=>f (e▸I);refine⟨by simp only[St.aq,uQ p,qai z,d],rfl,fun l s=>dC (o l (fun e=>z (h.inj m id l s (e▸q))))⟩};refine⟨?_,hρ,hl⟩;exact{size:=h.size,slot:=fun i=>lF.later hl hρ _ (h.slot i),held:=au.later hl hρ _ h.held,defers:=h.defers,mem:=fun m y d=>by by_cases f:m=id;{subst f;simp only[St.aq,uQ p,qax,qaa]at d;subst d;exact H hρ hl};simp only[St.aq,uQ p,qai f]at d;exact eK.later hl hρ rfl (fun l s=>o l (fun e=>f (h.inj m id l s (e▸q)))) (h.mem m y d),lU:=fun i l d=>by simp only[St.aq,uQ p];by_cases f:i=id;{simp[f]};simp only[qai f];exact h.lU i l d,inj:=h.inj,own:=h.own,bound:=fun k j=>by rw[r];exact h.bound k j,eJ:=fun i k j=>by rw[r];exact h.eJ i k j,jn:=fun g row d=>by obtain⟨n,c,h2,h3,J⟩:=h.jn g row d;exact⟨n,c,((hl g n).2.1).trans h2,dm.later hl row h3,J⟩,kept:=fun k j A=>by rw[o k (fun e=>?_)];exact h.kept k j A;subst e;rcases t.2 with n|n;{omega};exact A n,os:=C.trans h.os,tape:=D.trans h.tape,output:=E.trans h.output,eY:=by rw[r];exact h.eY}
end
end
theorem gU(b a n:Nat):(Addr.mk b a none).add n=⟨b,a+n,none⟩:=by unfold Addr.add;split;{rename_i h;subst h;rfl};rfl
variable {P:Program}
section
variable {w:World}
theorem ji(h:ey P t=some g):(isAgg t).run P w=.ok g w:=by unfold ey at h;simp only[isAgg,Sem.run_bind];split at h;{rename_i d a;simp only[qaa]at h;subst h;rw[run_underlying a];rfl};{rename_i d a;simp only[qaa]at h;subst h;rw[run_underlying a];rfl};{rename_i d b c a;simp only[qaa]at h;subst h;rw[run_underlying a];cases d<;>first|rfl|exact absurd rfl (b _)|exact absurd rfl (c _ _)};grind
theorem run_sizeOf{n:Nat}(h:dK P t=some n):(sizeOf t).run P w=.ok n w:=by unfold dK at h;cases a:P.info? t with|none=>simp[a]at h|some i=>simp only[a,qaM,qaa]at h;subst h;simp only[sizeOf,typeInfo,Sem.run_bind,run_program,Result.andThen_ok,a,Sem.run_pure]
theorem aeO(a:At w b=some c)(d:c[i]? =some v):(load ⟨b,i,none⟩).run P w=.ok v w:=by simp only[load,Sem.run,cell_of a,d]
theorem kH(a:ey P t=some false)(d:At w b=some c)(e:c[i]? =some v): (loadVar t ⟨b,i,none⟩).run P w=.ok v w:=by simp only[loadVar,Sem.run_bind,ji a,Result.andThen_ok,qaP,qaW,aeO d e]
theorem kI{n:Nat}{a:List Value}(d:ey P t=some true)(e:dK P t=some n)(f:At w b=some c)(hl:a.length=n)(g:∀j v,a[j]? =some v->c[i+j]? =some v): (loadVar t ⟨b,i,none⟩).run P w=.ok (.agg a.toArray) w:=by have:=run_loadCells_list (P:=P) w ⟨b,i,none⟩ a (fun j v h=>by rw[gU,cell_of f];exact g j v h);rw[hl]at this;simp only[loadVar,Sem.run_bind,ji d,Result.andThen_ok,qax,run_sizeOf e,this,Sem.run_pure]
theorem oK{m:Nat×Nat}:∀(d:List Value) (i a:Nat) (c:Array Value) (w:World),akt c.size m->w.heap[b]? =some (.cells c e m)->a+i+d.length<=c.size->(∀v∈d,v.oneCell'=true)->∃(w':World) (h:Array Value),(storeCells ⟨b,a,none⟩ d i).run P w=.ok () w'/\w'.heap[b]? =some (.cells h e m)/\h.size=c.size/\ (∀j,h[j]? =if a+i<=j/\j<a+i+d.length then d[j-(a+i)]? else c[j]?)/\ (∀k,k≠b->w'.heap[k]? =w.heap[k]?)/\w'.heap.size=w.heap.size/\w'.os=w.os/\w'.tape=w.tape/\w'.output=w.output:=by intro d;induction d with|nil=>intro i a c w _ g _ _;refine⟨w,c,rfl,g,rfl,fun j=>?_,fun _ _=>rfl,rfl,rfl,rfl,rfl⟩;all_goals grind|cons v d r=>intro i a c w n g l p;simp only[qaq]at l;have f:w.cell? ⟨b,a+i,none⟩=some c[a+i]:=by{have s:At w b=some c:=by{simp[At,g]};rw[cell_of s,qbd o_]};have o:w.frozen? ⟨b,a+i,none⟩=false:=by{rcases n with rfl|n;{simp[World.frozen?,g]};simp[World.frozen?,g];omega};have t:(w.setCell ⟨b,a+i,none⟩ v).heap[b]? =some (.cells (c.setIfInBounds (a+i) v) e m):=by{simp[World.setCell,qbk,g]};obtain⟨w',h,G,x,y,z,A,B,C,D,E⟩:=r (i+1) a (c.setIfInBounds (a+i) v) (w.setCell ⟨b,a+i,none⟩ v) (by simpa using n) t w_ (fun u F=>p u (qaE _ F));refine⟨w',h,?_,x,by simpa using y,fun j=>?_,fun k q=>?_,by simpa using B,C,D,E⟩;{simp only[storeCells,Sem.run_bind,gU,run_store P w _ v _ (p v (qaz)),f,o,qaP,qaW,Result.andThen_ok];all_goals grind};{rw[z j];by_cases H:j=a+i;all_goals grind};rw[A k q];exact RowKit.Below.heap_setCell w _ v k q
end
variable {w0:World} {own0:Nat->Prop} {hvs:List Value×List Deferred} {G:Nat->Option (List PV)} {S0:Nat->Prop} {accs:List Nat} {S:Nat->Prop} {a:Act} {w:World} {o:Oper} {kn:Nat} (h:dW w0 own0 hvs G γ S st a w) (bg:∀b,S0 b->S b) (Cy:∀b,S b->S0 b\/w0.heap.size<=b\/own0 b)
include h bg Cy
theorem rA(s:o.op=.load t x)(i:ey P t=some g)(e:match g with|true=>∃m,dK P t=some m/\n=some m|false=>n=none){off:Nat}{row:List PV}(u:a.eval x=.pointer (some ⟨b,off+k,none⟩))(j:At w b=some c)(l:dm S w row c off): ep P w0 own0 hvs G S0 o a w st kn γ S (il row k n):=by have q:∀v,(loadVar t ⟨b,off+k,none⟩).run P w=.ok v w->(execOp a.eval o).run P w=.ok (.value v) w:=by{intro v f;simp only[execOp,s,u,Instr.loadAt,Instr.sureAddr,Sem.run_bind,Sem.run_pure,Result.andThen_ok,f]};cases g with|false=>simp only at e;subst e;simp only[il];split;{rename_i p y;obtain⟨v,f,z⟩:=dm.get l y;exact aG h bg Cy (q v (kH i j f)) (by simp only[lF];exact z)};trivial|true=>simp only at e;obtain⟨m,A,rfl⟩:=e;simp only[il];split;{rename_i B;obtain⟨r,C,D,E⟩:=dm.list ((l.drop k).take m);have d:r.length=m:=by{rw[D];simp;omega};exact aG h bg Cy (q _ (kI i A j d E)) (by simp only[lF,aD];exact⟨r,rfl,C⟩)};trivial
theorem A1(s:o.op=.load t x)(i:ey P t=some g)(e:match g with|true=>∃m,dK P t=some m/\n=some m|false=>n=none){o0:Nat}{row:List AV}(u:a.eval x=.pointer (some ⟨b,o0+k,none⟩))(j:At w b=some c)(l:bB S w (Ref γ S w st.mem) row c o0): ep P w0 own0 hvs G S0 o a w st kn γ S (js row k n):=by have q:∀v,(loadVar t ⟨b,o0+k,none⟩).run P w=.ok v w->(execOp a.eval o).run P w=.ok (.value v) w:=by{intro v f;simp only[execOp,s,u,Instr.loadAt,Instr.sureAddr,Sem.run_bind,Sem.run_pure,Result.andThen_ok,f]};cases g with|false=>simp only at e;subst e;simp only[js];split;{rename_i p y;obtain⟨v,f,z⟩:=bB.get l y;exact aG h bg Cy (q v (kH i j f)) z};trivial|true=>simp only at e;obtain⟨m,A,rfl⟩:=e;simp only[js];split;{rename_i B;obtain⟨r,C,D,E⟩:=bB.list ((l.drop k).take m);have d:r.length=m:=by{rw[D];simp;omega};exact aG h bg Cy (q _ (kI i A j d E)) (by simp only[lF];exact⟨r,rfl,C⟩)};trivial
theorem bM.row{S:Nat->Prop}{w:World}:∀{b:R_} {c:Array Value} {o a j:Nat},aK a b->bM S w b c o->j<b.length->dm S w (b.getD j []) c (o+j*a)
|[],_,_,_,_,_,_,e=>by simp at e
|r::b,c,o,a,0,_,d,_=>by simp only[bM]at d;simpa using d.1
|r::b,c,o,a,j+1,hl,d,e=>by simp only[bM]at d;have:=bM.row (j:=j) (fun x f=>hl x (qaE _ f)) d.2 (by simpa using e);have hs:r.length=a:=hl r qaz;rw[hs]at this;rw[show o+(j+1)*a=o+a+j*a by rw[qaS,qbt];omega];simpa using this
omit h bg Cy in
theorem rows_block{id:Nat}{d:R_}{g:Nat}(i:γ id=some b)(j:eK γ S w (Ref γ S w st.mem) id (.rows f d g)): ∃c e,DJ w b c e/\d.length*f<=c.size/\aK f d/\bM S w d c 0:=by rcases j with⟨a,_⟩|⟨o,c,e,a,k,l,m,n⟩;{rw[i]at a;cases a};rw[i]at a;cases a;exact⟨c,e,k,l,m,n⟩
omit h bg Cy in
theorem bU.row{S:Nat->Prop}{w:World}{ρ:AV->Value->Prop}:∀{b:List (List AV)} {c:Array Value} {o a j:Nat},(∀r∈b,r.length=a)->bU S w ρ b c o->j<b.length->bB S w ρ (b.getD j []) c (o+j*a)
|[],_,_,_,_,_,_,e=>by simp at e
|r::b,c,o,a,0,_,d,_=>by simp only[bU]at d;simpa using d.1
|r::b,c,o,a,j+1,hl,d,e=>by simp only[bU]at d;have:=bU.row (j:=j) (fun x f=>hl x (qaE _ f)) d.2 (by simpa using e);have hs:r.length=a:=hl r qaz;rw[hs]at this;rw[show o+(j+1)*a=o+a+j*a by rw[qaS,qbt];omega];simpa using this
omit h bg Cy in
theorem kf{id:Nat}{d:List (List AV)}{g:Nat}(i:γ id=some b)(j:eK γ S w (Ref γ S w st.mem) id (.cg f d g)): ∃c e,DJ w b c e/\d.length*f<=c.size/\(∀r∈d,r.length=f)/\bU S w (Ref γ S w st.mem) d c 0:=by rcases j with⟨a,_⟩|⟨o,c,e,a,k,l,m,n⟩;{rw[i]at a;cases a};rw[i]at a;cases a;exact⟨c,e,k,l,m,n⟩
theorem Qt{H:bR}(v:o.op=.load t x)(y:ey P t=some g)(z:match g with|true=>∃m,dK P t=some m/\n=some m|false=>n=none)(L:aZ G x=some H): cj P w0 own0 hvs G S0 o a w st kn γ S (KA aF kn (.ld H n) st.ev):=by simp only[KA,ur];have d:=h.fR L;split;{rename_i id r s;rw[s]at d;simp only[lF,Ref]at d;intro D A;simp only[A]at d;cases D with|cells cs=>obtain⟨b,i,l⟩:=d;obtain⟨R,c,e,I,p,J,f,_⟩:=h.mem id _ A;rw[i]at I;cases I;exact A1 h bg Cy (o0:=0) v y z (by rw[qaA];exact l) (by simp[At,p]) f|_=>trivial};{rename_i id u j r s;rw[s]at d;simp only[lF,Ref]at d;intro D A;simp only[A]at d;cases D with|cells cs=>trivial|map=>trivial|iw=>trivial|ry=>trivial|cL=>trivial|eu=>trivial|cg M rs B=>by_cases q:u=B;{subst q;simp only[qau];obtain⟨b,i,l,N,K⟩:=d.2 rfl;obtain⟨c,e,⟨O,Q,p⟩,J,E,f⟩:=kf i (h.mem id _ A);have C:=bU.row (j:=j.toNat) E f o_;rw[qaA]at C;exact A1 h bg Cy v y z l (by simp[At,p]) C};simp only[qar.2 q];trivial|rows M rs B=>by_cases q:u=B;{subst q;simp only[qau];obtain⟨b,i,l,N,K⟩:=d.2 rfl;obtain⟨c,e,⟨O,Q,p⟩,J,E,f⟩:=rows_block i (h.mem id _ A);have C:=bM.row h bg Cy (j:=j.toNat) E f o_;rw[qaA]at C;exact rA h bg Cy v y z l (by simp[At,p]) C};simp only[qar.2 q];trivial|eO rs B=>by_cases q:u=B;{subst q;simp only[qau];obtain⟨b,F,c,l,i,p,f,K⟩:=d.2 rfl;exact rA h bg Cy v y z l p f};simp only[qar.2 q];trivial};{rename_i row r s;rw[s]at d;simp only[lF]at d;obtain⟨b,F,c,l,i,p,f⟩:=d;exact rA h bg Cy v y z l p f};{rename_i row s;rw[s]at d;simp only[lF,aD]at d;obtain⟨b,F,c,i,f⟩:=d;exact rA h bg Cy (off:=F) (k:=0) v y z (by rw[qcz];exact i) f.2.1 f.2.2};trivial
end Go.Am
