import Derived.Below
import Derived.Laws.StructEq
import Derived.Laws.Slices
import Derived.Laws.Cells
import Derived.Laws.World
import Derived.Test.YtjclmfaodngbfaaGreatDoorT00
set_option linter.all false
set_option maxRecDepth 100000
set_option maxHeartbeats 1000000
namespace Go.Am
variable {S':Nat->Prop} {w':World} {ρ':AV->Value->Prop} {γ:Nat->Option Nat} {st:St} {a:Array (String×TypeId)} {b:Nat} {c:Array Value} {d:Nat} {e:TypeId} {f:Nat} {g:Bool} {i k:Nat} {n:Option Nat} {o:Obj} {p:PV} {s t:TypeId} {v:Value} {x:Operand}
def ai(w:World)(b:Nat):Option (Array Value):=
 match w.heap[b]? with
 |some (.cells c _ _)=>some c
 |_=>none
def YB(w:World)(b:Nat):Option (Array MapEntry×Nat):=
 match w.heap[b]? with
 |some (.map es a)=>some (es,a)
 |_=>none
def gm(c:List MapEntry)(d:Nat):Prop:=(∀e∈c,e.born<d)/\c.Pairwise (fun a b=>a.born<b.born)
def valOf(g:Bool)(a:List Value):Value:=
 match g with
 |true=>.agg a.toArray
 |false=>a.headD (.agg #[])
def shapeOf(g:Bool)(n:Nat):Prop:=match g with|true=>True|false=>n=1
def aK(a:Nat)(rows:List (List PV)):Prop:=∀r∈rows,r.length=a
mutual
def aD(S:Nat->Prop)(w:World):PV->Value->Prop
 |.bool b,v=>v=.bool b
 |.int k n,v=>v=.int k n
 |.str s,v=>v=.string ⟨s.toArray⟩
 |.mh,v=>v=.pointer none
 |.yS,v=>v=.nilFunc
 |.j8,v=>v=.nilIface
 |.oh,v=>v=.map none
 |.gM f ps,v=>∃vs:List Value,v=.func (.func f) #[] vs.toArray/\aM S w ps vs
 |.iface t p,v=>∃v',v=.iface t v'/\aD S w p v'
 |.agg ps,v=>∃vs:List Value,v=.agg vs.toArray/\aM S w ps vs
 |.eN ps,v=>∃vs:List Value,v=.tuple vs.toArray/\aM S w ps vs
 |.sl rows spare,v=>∃a cap,v=.slice a rows.length cap/\rows.length+spare.length<=cap/\
   ((rows=[]/\spare=[])\/∃b off c sz,a=some ⟨b,off,none⟩/\S b/\ai w b=some c/\aK sz rows/\aK sz spare/\
    bM S w rows c off/\bM S w spare c (off+rows.length*sz))
 |.ptr ps,v=>∃b off c,v=.pointer (some ⟨b,off,none⟩)/\S b/\ai w b=some c/\dm S w ps c off
 |.mp kg vg kn rows,v=>∃b es ck,v=.map (some b)/\S b/\YB w b=some (es,ck)/\gm es.toList ck/\bV S w kg vg kn rows es.toList
def aM(S:Nat->Prop)(w:World):List PV->List Value->Prop
 |[],vs=>vs=[]
 |p::ps,vs=>∃v r,vs=v::r/\aD S w p v/\aM S w ps r
def dm(S:Nat->Prop)(w:World):List PV->Array Value->Nat->Prop
 |[],_,_=>True
 |p::ps,c,off=>(∃v,c[off]? =some v/\aD S w p v)/\dm S w ps c (off+1)
def bM(S:Nat->Prop)(w:World):List (List PV)->Array Value->Nat->Prop
 |[],_,_=>True
 |r::rs,c,off=>dm S w r c off/\bM S w rs c (off+r.length)
def bV(S:Nat->Prop)(w:World)(kg vg:Bool)(kn:Nat):List (List PV)->List MapEntry->Prop
 |[],es=>es=[]
 |r::rs,es=>∃e t kv vv,es=e::t/\aM S w r (kv++vv)/\kv.length=kn/\shapeOf kg kn/\shapeOf vg vv.length/\e.key=valOf kg kv/\e.val=valOf vg vv/\bV S w kg vg kn rs t
end
def bf(S:Nat->Prop)(w:World)(S':Nat->Prop)(w':World):Prop:=∀b,S b->S' b/\ai w' b=ai w b/\YB w' b=YB w b
theorem dC{w:World}(h:w'.heap[b]? =w.heap[b]?):ai w' b=ai w b/\YB w' b=YB w b:=by grind[ai,YB]
theorem bf.refl(S:Nat->Prop)(w:World):bf S w S w:=fun _ h=>⟨h,rfl,rfl⟩
theorem bf.trans{S S' a:Nat->Prop}{w w' e:World}(h:bf S w S' w')(d:bf S' w' a e):bf S w a e:=fun b c=>⟨(d b (h b c).1).1,((d b (h b c).1).2.1).trans (h b c).2.1,((d b (h b c).1).2.2).trans (h b c).2.2⟩
section
variable {S:Nat->Prop} {w:World} (hl:bf S w S' w')
include hl
mutual
theorem aD.later:∀(p:PV) {v:Value},aD S w p v->aD S' w' p v
 |.bool _,_,h=>by grind[aD]
 |.int _ _,_,h=>by grind[aD]
 |.str _,_,h=>by grind[aD]
 |.mh,_,h=>by grind[aD]
 |.yS,_,h=>by grind[aD]
 |.j8,_,h=>by grind[aD]
 |.oh,_,h=>by grind[aD]
 |.gM f ps,_,h=>by
  obtain⟨vs,rfl,h⟩:=h;exact⟨vs,rfl,aM.later ps h⟩
 |.iface t p,_,h=>by
  obtain⟨v',rfl,h⟩:=h;exact⟨v',rfl,aD.later p h⟩
 |.agg ps,_,h=>by
  obtain⟨vs,rfl,h⟩:=h;exact⟨vs,rfl,aM.later ps h⟩
 |.eN ps,_,h=>by
  obtain⟨vs,rfl,h⟩:=h;exact⟨vs,rfl,aM.later ps h⟩
 |.sl rows spare,_,h=>by
  obtain⟨a,cap,rfl,hc,h⟩:=h;refine⟨a,cap,rfl,hc,?_⟩
  rcases h with h|⟨b,off,c,sz,ha,hs,hcell,h1,h2,h3,h4⟩
  ·simp_all
  ·exact .inr ⟨b,off,c,sz,ha,(hl b hs).1,(hl b hs).2.1.trans hcell,h1,h2,bM.later rows h3,bM.later spare h4⟩
 |.ptr ps,_,h=>by
  obtain⟨b,off,c,rfl,hs,hcell,h⟩:=h;exact⟨b,off,c,rfl,(hl b hs).1,(hl b hs).2.1.trans hcell,dm.later ps h⟩
 |.mp kg vg kn rows,_,h=>by
  obtain⟨b,es,ck,rfl,hs,hm,hb,h⟩:=h;exact⟨b,es,ck,rfl,(hl b hs).1,(hl b hs).2.2.trans hm,hb,bV.later rows h⟩
theorem aM.later:∀(ps:List PV) {vs:List Value},aM S w ps vs->aM S' w' ps vs
 |[],_,h=>by grind[aM]
 |p::ps,_,h=>by
  obtain⟨v,r,rfl,h1,h2⟩:=h;exact⟨v,r,rfl,aD.later p h1,aM.later ps h2⟩
theorem dm.later:∀(ps:List PV) {c:Array Value} {off:Nat},dm S w ps c off->dm S' w' ps c off
 |[],_,_,h=>by grind[dm]
 |p::ps,_,_,h=>by
  obtain⟨⟨v,hv,h1⟩,h2⟩:=h;exact⟨⟨v,hv,aD.later p h1⟩,dm.later ps h2⟩
theorem bM.later:∀(rs:List (List PV)) {c:Array Value} {off:Nat},bM S w rs c off->bM S' w' rs c off
 |[],_,_,h=>by grind[bM]
 |r::rs,_,_,h=>by
  exact⟨dm.later r h.1,bM.later rs h.2⟩
theorem bV.later{kg vg:Bool}{kn:Nat}:∀(rs:List (List PV)) {es:List MapEntry},bV S w kg vg kn rs es->bV S' w' kg vg kn rs es
 |[],_,h=>by grind[bV]
 |r::rs,_,h=>by
  obtain⟨e,t,kv,vv,rfl,h1,h2,h3,h4,h5,h6,h7⟩:=h;exact⟨e,t,kv,vv,rfl,aM.later r h1,h2,h3,h4,h5,h6,bV.later rs h7⟩
end
end
section
variable (S:Nat->Prop) (w:World) (ρ:AV->Value->Prop)
mutual
def lF:AV->Value->Prop
 |.pv p,v=>aD S w p v
 |.agg cs,v=>∃vs:List Value,v=.agg vs.toArray/\au cs vs
 |.eN cs,v=>∃vs:List Value,v=.tuple vs.toArray/\au cs vs
 |.gM f cs,v=>∃vs:List Value,v=.func (.func f) #[] vs.toArray/\au cs vs
 |.c8 id ver,v=>ρ (.c8 id ver) v
 |.ptr id off,v=>ρ (.ptr id off) v
 |.cR id ver j off,v=>ρ (.cR id ver j off) v
 |.fQ row off,v=>∃b o c,v=.pointer (some ⟨b,o+off,none⟩)/\S b/\ai w b=some c/\dm S w row c o
 |.full rows,v=>∃a,v=.slice a rows.length rows.length/\
   (rows=[]\/∃b off c sz,a=some ⟨b,off,none⟩/\S b/\ai w b=some c/\aK sz rows/\bM S w rows c off)
 |.Ay f cs,v=>∃vs:List Value,v=.func (.func f) vs.toArray #[]/\au cs vs
 |.fr id,v=>ρ (.fr id) v
 |.eT id i,v=>ρ (.eT id i) v
 |.kM rows,v=>∃a,v=.slice a rows.length rows.length/\
   (rows=[]\/∃b off c sz,a=some ⟨b,off,none⟩/\S b/\ai w b=some c/\(∀r∈rows,r.length=sz)/\bU rows c off)
 |.iU _,v=>v=.pointer none
 |.dead,_=>True
def au:List AV->List Value->Prop
 |[],vs=>vs=[]
 |x::xs,vs=>∃v r,vs=v::r/\lF x v/\au xs r
def bB:List AV->Array Value->Nat->Prop
 |[],_,_=>True
 |x::xs,c,off=>(∃v,c[off]? =some v/\lF x v)/\bB xs c (off+1)
def bU:List (List AV)->Array Value->Nat->Prop
 |[],_,_=>True
 |r::rs,c,off=>bB r c off/\bU rs c (off+r.length)
end
end
section
variable {S:Nat->Prop} {w:World} {ρ:AV->Value->Prop} (hl:bf S w S' w') (hρ:∀x v,ρ x v->ρ' x v)
include hl hρ
mutual
theorem lF.later:∀(x:AV) {v:Value},lF S w ρ x v->lF S' w' ρ' x v
 |.pv p,_,h=>by grind[lF,aD.later]
 |.agg cs,_,h=>by obtain⟨vs,rfl,h⟩:=h;exact⟨vs,rfl,au.later cs h⟩
 |.eN cs,_,h=>by obtain⟨vs,rfl,h⟩:=h;exact⟨vs,rfl,au.later cs h⟩
 |.gM f cs,_,h=>by obtain⟨vs,rfl,h⟩:=h;exact⟨vs,rfl,au.later cs h⟩
 |.c8 id ver,_,h=>by grind[lF]
 |.ptr id off,_,h=>by grind[lF]
 |.cR id ver j off,_,h=>by grind[lF]
 |.fQ row off,_,h=>by
  obtain⟨b,o,c,rfl,hs,hc,h⟩:=h;exact⟨b,o,c,rfl,(hl b hs).1,(hl b hs).2.1.trans hc,dm.later hl row h⟩
 |.full rows,_,h=>by
  obtain⟨a,rfl,h⟩:=h;refine⟨a,rfl,h.imp id ?_⟩;rintro⟨b,off,c,sz,ha,hs,hc,h1,h2⟩;exact⟨b,off,c,sz,ha,(hl b hs).1,(hl b hs).2.1.trans hc,h1,bM.later hl rows h2⟩
 |.Ay f cs,_,h=>by obtain⟨vs,rfl,h⟩:=h;exact⟨vs,rfl,au.later cs h⟩
 |.fr id,_,h=>by grind[lF]
 |.eT id i,_,h=>by grind[lF]
 |.kM rows,_,h=>by
  obtain⟨a,rfl,h⟩:=h;refine⟨a,rfl,h.imp id ?_⟩;rintro⟨b,off,c,sz,ha,hs,hc,h1,h2⟩;exact⟨b,off,c,sz,ha,(hl b hs).1,(hl b hs).2.1.trans hc,h1,bU.qN rows h2⟩
 |.iU _,_,h=>by grind[lF]
 |.dead,_,_=>by grind[lF]
theorem au.later:∀(xs:List AV) {vs:List Value},au S w ρ xs vs->au S' w' ρ' xs vs
 |[],_,h=>by grind[au]
 |x::xs,_,h=>by
  obtain⟨v,r,rfl,h1,h2⟩:=h;exact⟨v,r,rfl,lF.later x h1,au.later xs h2⟩
theorem bB.qN:∀(xs:List AV) {c:Array Value} {o:Nat},bB S w ρ xs c o->bB S' w' ρ' xs c o
 |[],_,_,h=>by grind[bB]
 |x::xs,_,_,h=>by
  obtain⟨⟨v,hv,h1⟩,h2⟩:=h;exact⟨⟨v,hv,lF.later x h1⟩,bB.qN xs h2⟩
theorem bU.qN:∀(rs:List (List AV)) {c:Array Value} {o:Nat},bU S w ρ rs c o->bU S' w' ρ' rs c o
 |[],_,_,h=>by grind[bU]
 |r::rs,_,_,h=>by
  exact⟨bB.qN r h.1,bU.qN rs h.2⟩
end
end
def Ref(γ:Nat->Option Nat)(S:Nat->Prop)(w:World)(mem:List (Option Obj)):AV->Value->Prop
 |.c8 id d,v=>match aj mem id with
  |some (.rows h rs g)=>(d<=g/\v.oneCell'=true)/\(d=g->∃a f,v=.slice a rs.length f/\rs.length<=f/\
    (f=0\/∃b c,γ id=some b/\a=some ⟨b,0,none⟩/\ai w b=some c/\c.size=f*h))
  |some (.cg h rs g)=>(d<=g/\v.oneCell'=true)/\(d=g->∃a f,v=.slice a rs.length f/\rs.length<=f/\
    (f=0\/∃b c,γ id=some b/\a=some ⟨b,0,none⟩/\ai w b=some c/\c.size=f*h))
  |some (.cL _ rs g)=>(d<=g/\v.oneCell'=true)/\(d=g->∃a f,v=.slice a rs.length f/\rs.length<=f/\
    (f=0\/∃b c,γ id=some b/\a=some ⟨b,0,none⟩/\ai w b=some c/\c.size=f*1))
  |some (.eO rs g)=>(d<=g/\v.oneCell'=true)/\(d=g->aD S w (.sl rs []) v)
  |_=>False
 |.ptr id off,v=>match aj mem id with
  |some (.cells _)=>∃b,γ id=some b/\v=.pointer (some ⟨b,off,none⟩)
  |some (.ry _ _)=>∃b,γ id=some b/\v=.pointer (some ⟨b,off,none⟩)
  |some (.eu _ _)=>∃b,γ id=some b/\v=.pointer (some ⟨b,off,none⟩)
  |_=>False
 |.cR id d j off,v=>match aj mem id with
  |some (.rows h rs g)=>(d<=g/\v.oneCell'=true)/\(d=g->∃b,γ id=some b/\v=.pointer (some ⟨b,j.toNat*h+off,none⟩)/\0<=j/\j<rs.length)
  |some (.cg h rs g)=>(d<=g/\v.oneCell'=true)/\(d=g->∃b,γ id=some b/\v=.pointer (some ⟨b,j.toNat*h+off,none⟩)/\0<=j/\j<rs.length)
  |some (.cL _ rs g)=>(d<=g/\v.oneCell'=true)/\(d=g->∃b,γ id=some b/\v=.pointer (some ⟨b,j.toNat*1+off,none⟩)/\0<=j/\j<rs.length)
  |some (.eO rs g)=>(d<=g/\v.oneCell'=true)/\(d=g->∃b o c,v=.pointer (some ⟨b,o+off,none⟩)/\S b/\ai w b=some c/\dm S w (rs.getD j.toNat []) c o/\0<=j/\j<rs.length)
  |_=>False
 |.fr id,v=>match aj mem id with
  |some (.map ..)=>∃b,γ id=some b/\v=.map (some b)
  |some (.iw _)=>∃b,γ id=some b/\v=.map (some b)
  |_=>False
 |.eT id i,v=>match aj mem id with
  |some (.map ..)=>v.oneCell'=true/\∃b k l e,γ id=some b/\YB w b=some (k,l)/\0<=i/\k[i.toNat]? =some e/\v=goInt e.born
  |_=>False
 |_,_=>True
def fM(S:Nat->Prop)(w:World)(ρ:AV->Value->Prop):List (List UInt8×AV)->List MapEntry->Prop
 |[],es=>es=[]
 |(s,x)::r,es=>∃e t,es=e::t/\e.key=.string ⟨s.toArray⟩/\lF S w ρ x e.val/\fM S w ρ r t
theorem fM.later{S S':Nat->Prop}{w w':World}{ρ ρ':AV->Value->Prop}(hl:bf S w S' w')(hρ:∀x v,ρ x v->ρ' x v):∀{a:List (List UInt8×AV)} {b:List MapEntry},fM S w ρ a b->fM S' w' ρ' a b
|[],_,h=>by grind[fM]
|(s,x)::r,_,h=>by obtain⟨e,t,rfl,c,d,f⟩:=h;exact⟨e,t,rfl,c,lF.later hl hρ x d,fM.later hl hρ f⟩
def akt(n:Nat)(a:Nat×Nat):Prop:=a=(0,0)\/n<=a.1
def DJ(w:World)(b:Nat)(c:Array Value)(e:TypeId):Prop:=∃a,akt c.size a/\w.heap[b]? =some (.cells c e a)
theorem DJ.of{w:World}(h:w.heap[b]? =some (.cells c e (0,0))):DJ w b c e:=⟨_,.inl rfl,h⟩
theorem DJ.trans{w w':World}{b:Nat}{c:Array Value}{e:TypeId}(h:DJ w b c e)(a:w'.heap[b]? =w.heap[b]?):DJ w' b c e:=by obtain⟨d,f,g⟩:=h;exact⟨d,f,a.trans g⟩
theorem DJ.at{w:World}(h:DJ w b c e):ai w b=some c:=by obtain⟨a,d,f⟩:=h;grind[ai]
def eK(γ:Nat->Option Nat)(S:Nat->Prop)(w:World)(ρ:AV->Value->Prop)(id:Nat):Obj->Prop
 |.cells cs=>∃b c e,γ id=some b/\w.heap[b]? =some (.cells c e (0,0))/\c.size=cs.length/\bB S w ρ cs c 0/\∀t r,cs=.iU t::r->e=t
 |.cL t rs _=>(γ id=none/\rs=[])\/∃b c,γ id=some b/\w.heap[b]? =some (.cells c t (0,0))/\rs.length*1<=c.size/\aK 1 rs/\bM S w rs c 0
 |.rows f rs _=>(γ id=none/\rs=[])\/∃b c e,γ id=some b/\DJ w b c e/\rs.length*f<=c.size/\aK f rs/\bM S w rs c 0
 |.cg f rs _=>(γ id=none/\rs=[])\/∃b c e,γ id=some b/\DJ w b c e/\rs.length*f<=c.size/\(∀r∈rs,r.length=f)/\bU S w ρ rs c 0
 |.eO _ _=>True
 |.map g h kn rows=>∃b a d,γ id=some b/\w.heap[b]? =some (.map a d)/\gm a.toList d/\bV S w g h kn rows a.toList
 |.iw rows=>∃b a d,γ id=some b/\w.heap[b]? =some (.map a d)/\gm a.toList d/\fM S w ρ rows a.toList
 |.ry s pos=>∃b,γ id=some b/\w.heap[b]? =some (.stringIter ⟨s.toArray⟩ pos.toNat)/\0<=pos
 |.eu src seen=>match src with
  |.oh=>∃b,γ id=some b/\w.heap[b]? =some (.mapIter none 0 #[] 0)
  |.mp g h kn rows=>∃b j a d k,γ id=some b/\w.heap[b]? =some (.mapIter (some j) d k d)/\S j/\YB w j=some (a,d)/\gm a.toList d/\bV S w g h kn rows a.toList/\
    (∀i e,a[i]? =some e->k.contains e.born=seen.contains i)/\∀i r,seen=i::r->∃e,a[i]? =some e/\k.back? =some e.born
  |_=>False
structure dW(w0:World)(own0:Nat->Prop)(hvs:List Value×List Deferred)(G:Nat->Option (List PV))(γ:Nat->Option Nat)(S:Nat->Prop)(st:St)(a:Act)(w:World):Prop where
 size:st.slots.length=a.tmps.size
 slot:∀i,lF S w (Ref γ S w st.mem) (st.slot i) (a.tmps.getD i undef)
 held:au S w (Ref γ S w st.mem) st.held hvs.1
 defers:a.defers=hvs.2
 mem:∀id ob,aj st.mem id=some ob->eK γ S w (Ref γ S w st.mem) id ob
 lU:∀i b,γ i=some b->aj st.mem i≠none
 inj:∀i j b,γ i=some b->γ j=some b->i=j
 own:∀i b,γ i=some b->¬S b/\(w0.heap.size<=b\/own0 b)
 bound:∀b,S b->b<w.heap.size
 eJ:∀i b,γ i=some b->b<w.heap.size
 eZ:∀g row,G g=some row->S g/\∃c,ai w g=some c/\dm S w row c 0/\c.size=row.length
 kept:∀b,b<w0.heap.size->¬own0 b->w.heap[b]? =w0.heap[b]?
 os:w.os=w0.os
 tape:w.tape=w0.tape
 output:w.output=w0.output
 eY:w0.heap.size<=w.heap.size
def ft(w0:World)(own0:Nat->Prop)(hvs:List Value×List Deferred)(G:Nat->Option (List PV))(S0:Nat->Prop)(st:St)(a:Act)(w:World):Prop:=
 ∃γ S,(∀b,S0 b->S b)/\(∀b,S b->S0 b\/w0.heap.size<=b\/own0 b)/\dW w0 own0 hvs G γ S st a w
theorem qO{S:Nat->Prop}{w:World}(h:k9 v=some p):aD S w p v:=by unfold k9 at h;split at h;{grind[aD]};{grind[aD]};{grind[aD]};{grind[aD]};{grind[aD]};{grind[aD]};{grind[aD]};{grind[aD]};{split at h;{rename_i a b;cases h;simp_all[aD,aM]};cases h};cases h
theorem H0(h:uh v=some (.sl [] [])):v=.slice none 0 0:=by unfold uh at h;split at h;{grind};unfold k9 at h;grind
theorem tj{S:Nat->Prop}{w:World}:∀{b:List Value} {a:List PV},jx b=some a->aM S w a b
|[],a,h=>by grind[jx,aM]
|v::r,a,h=>by simp[jx]at h;cases c:k9 v with|none=>simp_all|some p=>cases d:jx r with|none=>simp_all|some q=>simp[c,d]at h;subst h;exact⟨v,r,rfl,qO c,tj d⟩
theorem u9{S:Nat->Prop}{w:World}(h:uh v=some p):aD S w p v:=by unfold uh at h;split at h;{grind[aD,tj]};exact qO h
section
variable {w0:World} {own0:Nat->Prop} {hvs:List Value×List Deferred} {G:Nat->Option (List PV)} {S:Nat->Prop} {a:Act} {w:World}
theorem dW.fR(h:dW w0 own0 hvs G γ S st a w){o:Operand}{x:bR}(b:aZ G o=some x): lF S w (Ref γ S w st.mem) (st.ev x) (a.eval o):=by cases o with|tmp t=>simp[aZ]at b;subst b;exact h.slot t|const v=>{simp only[aZ]at b;cases d:uh v with|none=>simp_all|some p=>simp[d]at b;subst b;have i:aD S w p v:=u9 d;show lF S w (Ref γ S w st.mem) (st.ev (.k p)) v;by_cases l:p=.sl [] [];{grind[H0,St.ev,lF]};have e:st.ev (.k p)=.pv p:=by{unfold St.ev;split;{simp_all};{simp_all};{simp_all};simp_all};grind[lF]}|global g=>{simp only[aZ]at b;cases j:G g with|none=>simp_all|some row=>obtain⟨m,c,n,i,_⟩:=h.eZ g row j;grind[St.ev,lF,Act.eval]}|func f=>grind[aZ,St.ev,lF,aD,aM,Act.eval]
theorem dW.put(h:dW w0 own0 hvs G γ S st a w)(d:Option Nat){v:AV}{u:Value}(c:lF S w (Ref γ S w st.mem) v u): dW w0 own0 hvs G γ S (st.put d v) (a.put d u) w:=by cases d with|none=>exact h|some d=>refine{h with size:=?_,slot:=?_,held:=h.held,defers:=h.defers};{simp[St.put,Act.put,h.size]};intro i;have e:=h.slot i;simp only[St.put,Act.put,St.slot]at*;by_cases f:i=d;{by_cases b:i<st.slots.length;{have g:i<a.tmps.size:=h.size▸b;simp_all};have j:st.slots.set i v=st.slots:=List.set_eq_of_length_le (by omega);have k:a.tmps.setIfInBounds i u=a.tmps:=Array.setIfInBounds_eq_of_size_le (by rw[<-h.size];omega);simp_all};simp_all[Ne.symm]
end
def JK:List PV->List PV->Bool
 |[],[]=>true
 |.bool a::r,.bool b::s=>(a==b)&&JK r s
 |.int _ a::r,.int _ b::s=>(a==b)&&JK r s
 |.str a::r,.str b::s=>(a==b)&&JK r s
 |_,_=>false
def aR:List Nat->List PV->List PV->Prop
 |[],[],[]=>True
 |0::sh,.bool _::r,.bool _::s=>aR sh r s
 |1::sh,.int k _::r,.int a _::s=>k=a/\aR sh r s
 |2::sh,.str _::r,.str _::s=>aR sh r s
 |_,_,_=>False
def fS(a:Nat)(rows:List (List PV)):Prop:=∀r∈rows,r.length=a/\∀p∈r,(AV.pv p).one=true
def dQ(kn:Nat)(rows:List (List PV))(k:List PV):Bool:=rows.any fun r=>JK k (r.take kn)
def fb(kn:Nat)(rows:List (List PV))(k:List PV):Nat:=rows.findIdx fun r=>JK k (r.take kn)
def jy(kn:Nat)(rows:List (List PV))(k z:List PV):List PV:=
 match rows.find? fun r=>JK k (r.take kn)with
 |some r=>r.drop kn
 |none=>z
def jz(g:Bool)(a:List PV):PV:=match g with|true=>.agg a|false=>a.headD .mh
def aF:Ar:={
 wrap:=IntKind.wrap
 add:=(·+·)
 sub:=(·-·)
 mul:=(·*·)
 quo:=Int.tdiv
 rem:=Int.tmod
 bits op k x y:=
  let a:=BitVec.ofInt k.bits x
  let b:=BitVec.ofInt k.bits y
  k.wrap ((match op with|.and=>(a&&&b)|.or=>(a|||b)|.xor=>(a^^^b)|_=>(a&&&~~~b)).toNat:Nat)
 shl k x y:=k.wrap (x*2^(min y.toNat k.bits))
 shr k x y:=x.fdiv (2^(min y.toNat k.bits))
 lt a b:=decide (a<b)
 le a b:=decide (a<=b)
 eq a b:=decide (a=b)
 not b:= !b
 min a b:=if b<a then b else a
 max a b:=if b>a then b else a
 nz n:=n≠0
 z6 n:=0<=n
 ofNat n:=n
 wY s:=s.length
 sat s j:=((s.getD j.toNat 0).toNat:Nat)
 sin j s:=0<=j/\j<s.length
 Lm a b:=a++b
 Ln a b:=a.length+b.length<=9223372036854775807
 Lp s l h:=(s.drop l.toNat).take (h.toNat-l.toNat)
 sbd l h s:=0<=l/\l<=h/\h<=s.length
 seq a b:=decide (a=b)
 slt a b:=Op.bytesLess a b
 jA rows:=rows.length
 rat rows j:=rows.getD j.toNat []
 tu j rows d:=0<=j/\j<rows.length/\(rows.getD j.toNat []).length=d
 oi a b:=a++b
 oj xs ys bytes d:=(xs.length+ys.length+256)*bytes<=2^46/\xs.length+ys.length<=2^46/\fS d ys/\aK d xs
 Qn xs ys:=xs=[]\/ys≠[]
 peq:=JK
 HP:=aR
 bytes s:=s.map fun b=>[.int .u8 (b.toNat:Nat)]
 gN rows:=rows.map fun r=>match r with|[.int _ n]=>UInt8.ofNat n.toNat|_=>0
 qE rows:=∀r∈rows,∃n,r=[.int .u8 n]
 uS rows l h:=(rows.drop l.toNat).take (h.toNat-l.toNat)
 Xg l h rows spare d:=0<=l/\l<=h/\h<=rows.length+spare.length/\(l=0\/aK d (rows++spare))
 wZ l h rows d:=0<=l/\l<=h/\h<=rows.length/\(l=0\/aK d rows)
 Gt rows j off ys:=rows.set j.toNat (jL off ys (rows.getD j.toNat []))
 AK n z:=List.replicate n.toNat z
 WD l c bytes:=0<=l/\l<=c/\c*bytes<=2^47/\c<=2^47
 R3 rs j:=rs.getD j.toNat []
 ain j rs d:=0<=j/\j<rs.length/\(rs.getD j.toNat []).length=d
 Lq rs j off ys:=rs.set j.toNat (place off ys (rs.getD j.toNat []))
 yT a b:=a++b
 AL xs ys bytes d:=(xs.length+ys.length+256)*bytes<=2^46/\xs.length+ys.length<=2^46/\(∀r∈ys,r.length=d/\kE r=true)/\(∀r∈xs,r.length=d)
 Lr rs:=rs.length
 off j d:=j.toNat*d
 PS j n:=0<=j/\j<n
 CZ sh kn rows k:=k.length=kn/\aR sh k k/\∀r∈rows,aR sh k (r.take kn)
 yU:=dQ
 HR:=jy
 xJ kn rows k z:=(jy kn rows k z).headD .mh
 mix kn rows k:=(fb kn rows k:Nat)
 HS kn rows k v:=match dQ kn rows k with|true=>rows.modify (fb kn rows k) (fun _=>k++v)|false=>rows++[k++v]
 sK kn rows k z:=match dQ kn rows k with|true=>rows|false=>rows++[k++z]
 PT kn rows i v:=rows.modify i.toNat (fun r=>r.take kn++v)
 min1 i rows:=0<=i/\i<rows.length
 mleft seen rows i:=i<rows.length/\seen.contains i=false
 AM seen rows:=(List.range rows.length).all fun i=>seen.contains i
 Ls e kn rows i:=jz e ((rows.getD i []).take kn)
 Lt f kn rows i:=jz f ((rows.getD i []).drop kn)
 rune s pos:=(Utf8.decode ⟨s.toArray⟩ pos.toNat).1
 C0 s pos:=((Utf8.decode ⟨s.toArray⟩ pos.toNat).2:Nat)
 Lu a b:=a+b
 }
section
variable (P:Program) (w0:World) (own0:Nat->Prop) (hvs:List Value×List Deferred) (G:Nat->Option (List PV)) (S0:Nat->Prop)
def oo(o:Oper)(a:Act)(w:World)(st':St)(v:AV):Prop:=
 ∃u w' γ' S',((execOp a.eval o).run P w=.ok (.value u) w'\/((execOp a.eval o).run P w=.ok .skip w'/\u=undef))/\
  (∀b,S0 b->S' b)/\(∀b,S' b->S0 b\/w0.heap.size<=b\/own0 b)/\dW w0 own0 hvs G γ' S' st' a w'/\lF S' w' (Ref γ' S' w' st'.mem) v u
def ep(o:Oper)(a:Act)(w:World)(st:St)(kn:Nat)(γ:Nat->Option Nat)(S:Nat->Prop):Out->Prop
 |.bad=>True
 |.val v=>oo P w0 own0 hvs G S0 o a w st v
 |.dG p v=>p->oo P w0 own0 hvs G S0 o a w st v
 |.dp id b v=>oo P w0 own0 hvs G S0 o a w (st.aq id b) v
 |.ix p id b v=>p->oo P w0 own0 hvs G S0 o a w (st.aq id b) v
 |.new b v=>aj st.mem kn=none->kn<=st.mem.length->oo P w0 own0 hvs G S0 o a w (st.aq kn b) v
 |.jK p b v=>aj st.mem kn=none->kn<=st.mem.length->p->oo P w0 own0 hvs G S0 o a w (st.aq kn b) v
 |.call f args=>∃c:List Value,(execOp a.eval o).run P w=(callFunc f c.toArray).run P w/\au S w (Ref γ S w st.mem) args c
 |.all p id b v=>∃i,p i/\oo P w0 own0 hvs G S0 o a w (st.aq id (b i)) (v i)
def cj(o:Oper)(a:Act)(w:World)(st:St)(kn:Nat)(γ:Nat->Option Nat)(S:Nat->Prop):sE->Prop
 |.pure out=>ep P w0 own0 hvs G S0 o a w st kn γ S out
 |.rd id k=>∀b,aj st.mem id=some b->ep P w0 own0 hvs G S0 o a w st kn γ S (k b)
end
section
variable {P:Program} {w0:World} {own0:Nat->Prop} {hvs:List Value×List Deferred} {G:Nat->Option (List PV)} {S0:Nat->Prop} {accs:List Nat} {S:Nat->Prop} {a:Act} {w:World} {o:Oper} {kn:Nat} (h:dW w0 own0 hvs G γ S st a w) (bg:∀b,S0 b->S b) (Cy:∀b,S b->S0 b\/w0.heap.size<=b\/own0 b)
section
include h bg Cy
theorem aG{u:Value}{v:AV}(b:(execOp a.eval o).run P w=.ok (.value u) w)(c:lF S w (Ref γ S w st.mem) v u):oo P w0 own0 hvs G S0 o a w st v:=⟨u,w,γ,S,.inl b,bg,Cy,h,c⟩
theorem Qs{c:bR}(b:o.op=.move x\/o.op=.assign x)(d:aZ G x=some c): cj P w0 own0 hvs G S0 o a w st kn γ S (KA aF kn (.mv c) st.ev):=by refine aG h bg Cy (u:=a.eval x) ?_ (h.fR d);rcases b with b|b<;>simp[execOp,b]
theorem Mp{c y:Operand}{e f g:bR}(l:o.op=.pick c x y)(i:aZ G c=some e)(j:aZ G x=some f)(k:aZ G y=some g): cj P w0 own0 hvs G S0 o a w st kn γ S (KA aF kn (.pick e f g) st.ev):=by simp[KA];have b:=h.fR i;split;{rename_i d;rw[d]at b;simp[lF,aD]at b;exact aG h bg Cy (u:=a.eval x) (by simp_all[execOp,asBool]) (h.fR j)};{rename_i d;rw[d]at b;simp[lF,aD]at b;exact aG h bg Cy (u:=a.eval y) (by simp_all[execOp,asBool]) (h.fR k)};trivial
theorem S5{d:TypeId}{b:bR}{k e:IntKind}(i:o.op=.convert s d x)(j:P.underlying s=some (.int e))(l:P.underlying d=some (.int k))(f:aZ G x=some b): cj P w0 own0 hvs G S0 o a w st kn γ S (KA aF kn (.Wt k b) st.ev):=by simp[KA];have c:=h.fR f;split;{rename_i n g;rw[g]at c;simp[lF,aD]at c;exact aG h bg Cy (u:=.int k (k.wrap n)) (by simp_all[execOp,convert,run_underlying,Conv.intToInt]) (by rfl)};trivial
theorem Xk{d:UnOp}{e:bR}(g:o.op=.unOp d t x)(f:aZ G x=some e): cj P w0 own0 hvs G S0 o a w st kn γ S (KA aF kn (.un d e) st.ev):=by simp[KA,Lv];have b:=h.fR f;split;{rename_i c;rw[c]at b;simp[lF,aD]at b;exact aG h bg Cy (u:=.bool false) (by simp_all[execOp,Op.unary]) (by rfl)};{rename_i c;rw[c]at b;simp[lF,aD]at b;exact aG h bg Cy (u:=.bool true) (by simp_all[execOp,Op.unary]) (by rfl)};{rename_i k n c;rw[c]at b;simp[lF,aD]at b;exact aG h bg Cy (u:=.int k (k.wrap (0-n))) (by simp_all[execOp,Op.unary,Op.intArith]) (by rfl)};trivial
theorem OT{j:bR}(r:o.op=.extract x i)(l:aZ G x=some j): cj P w0 own0 hvs G S0 o a w st kn γ S (KA aF kn (.ext j i) st.ev):=by simp[KA];have d:=h.fR l;split;{rename_i e f;rw[f]at d;obtain⟨c,m,hl⟩:=d;split;{rename_i v g;have key:∀(b:List PV) (c:List Value) (i:Nat) (v:PV),aM S w b c->b[i]? =some v->∃u,c[i]? =some u/\aD S w v u:=by{intro b;induction b with|nil=>simp_all|cons p b n=>grind[aM]};obtain⟨u,q,k⟩:=key e c i v hl g;exact aG h bg Cy (u:=u) (by simp_all[execOp,Instr.extract]) (by grind[lF])};trivial};{rename_i e f;rw[f]at d;obtain⟨c,m,hl⟩:=d;split;{rename_i v g;have key:∀(b:List AV) (c:List Value) (i:Nat) (v:AV),au S w (Ref γ S w st.mem) b c->b[i]? =some v->∃u,c[i]? =some u/\lF S w (Ref γ S w st.mem) v u:=by{intro b;induction b with|nil=>simp_all|cons p b n=>grind[au]};obtain⟨u,q,k⟩:=key e c i v hl g;exact aG h bg Cy (u:=u) (by simp_all[execOp,Instr.extract]) k};trivial};trivial
theorem S7{i:Operand}{b c:bR}(n:o.op=.index t x i)(p:P.underlying t=some .string)(f:aZ G x=some b)(g:aZ G i=some c): cj P w0 own0 hvs G S0 o a w st kn γ S (KA aF kn (.RX b c) st.ev):=by simp[KA];have d:=h.fR f;have e:=h.fR g;split;{rename_i s k j l m;rw[l]at d;rw[m]at e;simp[lF,aD]at d e;rintro⟨q,r⟩;refine aG h bg Cy (u:=.int .u8 (s.getD j.toNat 0).toNat) ?_ (by rfl);have v:(ByteArray.mk s.toArray)[j.toNat]? =some s[j.toNat]:=by{rw[getElem?_pos _ _ (by grind[ByteArray.size])];rfl};simp_all[execOp,Instr.index,asIntOf,run_underlying]};trivial
theorem S8{b:bR}(g:o.op=.makeInterface t x)(c:∃d,P.underlying t=some d/\∀e,d≠.interface e)(f:aZ G x=some b)(i:∀y p v,AV.flat y=some p->lF S w (Ref γ S w st.mem) y v->aD S w p v): cj P w0 own0 hvs G S0 o a w st kn γ S (KA aF kn (.Wv t b) st.ev):=by simp[KA];have j:=h.fR f;split;{obtain⟨d,k,l⟩:=c;refine aG h bg Cy (u:=.iface t (a.eval x)) ?_ (by grind[lF,aD]);simp_all[execOp,Instr.makeInterface,run_underlying]};trivial
theorem S9{y:bR}{z:Array Field}{q:Field}{A:TypeInfo}(F:o.op=.fieldAddr s x f)(H:P.underlying s=some (.struct z))(I:z[f]? =some q)(J:P.info? q.type=some A)(K:A.size≠0)(C:aZ G x=some y): cj P w0 own0 hvs G S0 o a w st kn γ S (KA aF kn (.pad y q.offset) st.ev):=by have k:∀b d,a.eval x=.pointer (some ⟨b,d,none⟩)->(execOp a.eval o).run P w=.ok (.value (.pointer (some ⟨b,d+q.offset,none⟩))) w:=by{simp_all[execOp,Instr.fieldAt,run_underlying,Instr.sureAddr,fieldPlace,sizeOf,typeInfo,Addr.add]};simp[KA];have e:=h.fR C;split;{rename_i id d m;rw[m]at e;simp[lF,Ref]at e;split at e;{obtain⟨b,i,g⟩:=e;refine aG h bg Cy (k b d g) ?_;grind[lF,Ref]};{obtain⟨b,i,g⟩:=e;refine aG h bg Cy (k b d g) ?_;grind[lF,Ref]};{obtain⟨b,i,g⟩:=e;refine aG h bg Cy (k b d g) ?_;grind[lF,Ref]};simp_all};{rename_i row d m;rw[m]at e;obtain⟨b,B,c,g,i,t,u⟩:=e;refine aG h bg Cy (k b _ g) ?_;grind[lF]};{rename_i id n j d m;rw[m]at e;simp only[lF,Ref]at e;intro D r;simp only[r]at e;cases D with|cells cs=>trivial|map=>trivial|iw=>trivial|ry=>trivial|cL=>trivial|eu=>trivial|rows E rs p=>by_cases l:n=p;{subst l;simp;obtain⟨b,i,g,v⟩:=e.2 rfl;refine aG h bg Cy (k b _ g) ?_;simp only[lF,Ref,r];exact⟨⟨Nat.le_refl _,rfl⟩,fun _=>⟨b,i,by grind,v⟩⟩};simp[beq_eq_false_iff_ne.2 l];trivial|cg E rs p=>by_cases l:n=p;{subst l;simp;obtain⟨b,i,g,v⟩:=e.2 rfl;refine aG h bg Cy (k b _ g) ?_;simp only[lF,Ref,r];exact⟨⟨Nat.le_refl _,rfl⟩,fun _=>⟨b,i,by grind,v⟩⟩};simp[beq_eq_false_iff_ne.2 l];trivial|eO rs p=>by_cases l:n=p;{subst l;simp;obtain⟨b,B,c,g,i,t,u⟩:=e.2 rfl;refine aG h bg Cy (k b _ g) ?_;simp only[lF,Ref,r];exact⟨⟨Nat.le_refl _,rfl⟩,fun _=>⟨b,B,c,by grind,i,t,u⟩⟩};simp[beq_eq_false_iff_ne.2 l];trivial};{rename_i row m;rw[m]at e;obtain⟨b,d,c,g,i,t,u⟩:=e;refine aG h bg Cy (k b _ g) ?_;grind[lF]};trivial
end
theorem kP(s:List UInt8):(ByteArray.mk s.toArray).toList=s:=by rw[ByteArray.toList_eq]
theorem AY(a:BinOp)(t:TypeId)(x y:Operand)(b:(isConst x||isConst y)=true):(eqGuard a t x y .nilIface .nilIface).run P w=.ok () w:=by cases a<;>first|rfl|(cases x<;>cases y<;>first|rfl|exact Bool.noConfusion b)
theorem C3{u:TypeId}{v:Value}{a:Array (String×TypeId)}(d:Nat)(b:P.underlying t=some (.interface a)):(Op.equalIn (d+1) t .nilIface .nilIface).run P w=.ok true w:=by simp[Op.equalIn,run_underlying b]
theorem mP{u:TypeId}{v:Value}{a:Array (String×TypeId)}(b:P.underlying t=some (.interface a)):(Op.equal t .nilIface .nilIface).run P w=.ok true w:=C3 (u:=u) (v:=v) 9999 b
theorem C4{u:TypeId}{a:Array (String×TypeId)}(d:Nat)(b:P.underlying t=some (.interface a)):(Op.equalIn (d+1) t .nilIface (.iface u v)).run P w=.ok false w:=by simp[Op.equalIn,run_underlying b]
theorem mQ{u:TypeId}{a:Array (String×TypeId)}(b:P.underlying t=some (.interface a)):(Op.equal t .nilIface (.iface u v)).run P w=.ok false w:=C4 (u:=u) (v:=v) 9999 b
theorem C5{u:TypeId}{a:Array (String×TypeId)}(d:Nat)(b:P.underlying t=some (.interface a)):(Op.equalIn (d+1) t (.iface u v) .nilIface).run P w=.ok false w:=by simp[Op.equalIn,run_underlying b]
theorem mR{u:TypeId}{a:Array (String×TypeId)}(b:P.underlying t=some (.interface a)):(Op.equal t (.iface u v) .nilIface).run P w=.ok false w:=C5 (u:=u) (v:=v) 9999 b
theorem fE:∀(x:AV) {p:PV} {v:Value},AV.flat x=some p->lF S w (Ref γ S w st.mem) x v->aD S w p v:=by have g:∀(a:List AV) {b:List PV} {d:List Value},AV.lQ a=some b->au S w (Ref γ S w st.mem) a d->aM S w b d:=by{intro a;induction a with|nil=>grind[AV.lQ,au,aM]|cons c a h=>intro b d i e;simp[au]at e;cases c with|pv p=>grind[AV.lQ,lF,aM]|full rows=>grind[AV.lQ,lF,aM,aD,aK,bM]|_=>grind[AV.lQ]};intro x p v j e;cases x with|pv q=>grind[AV.flat,lF]|full rows=>grind[AV.flat,lF,aD,aK,bM]|agg a=>grind[AV.flat,lF,aD]|gM f a=>grind[AV.flat,lF,aD]|_=>grind[AV.flat]
section
include h bg Cy
theorem C6{c:BinOp}{y:Operand}{k d:IntKind}{m n:Int}(j:o.op=.binOp c t x y e)(l:a.eval x=.int k m)(q:a.eval y=.int d n):
  ep P w0 own0 hvs G S0 o a w st kn γ S (match(generalizing:=false) c with
   |.shl=>.dG (aF.z6 n) (.pv (.int k (aF.shl k m n)))
   |.shr=>.dG (aF.z6 n) (.pv (.int k (aF.shr k m n)))
   |c=>if k=d then uT aF c k m n else .bad):=by
 have r:∀c,(eqGuard c t x y (.int k m) (.int d n)).run P w=.ok () w:=by simp_all[eqGuard]
 have f:∀v,(binOp c t (.int k m) (.int d n)).run P w=.ok v w->(execOp a.eval o).run P w=.ok (.value v) w:=by
  grind[execOp,Sem.run_bind,Result.andThen_ok,Sem.run_pure]
 have done:∀v p,(binOp c t (.int k m) (.int d n)).run P w=.ok v w->aD S w p v->oo P w0 own0 hvs G S0 o a w st (.pv p):=
  fun v p g s=>aG h bg Cy (f v g) (by grind[lF])
 by_cases i:k=d
 ·subst i
  cases c with
  |shl=>intro b;exact done _ _ (by simp only[aF]at b;simp only[binOp,Op.shift];rw[if_neg (by omega)];rfl) (by rfl)
  |shr=>intro b;exact done _ _ (by simp only[aF]at b;simp only[binOp,Op.shift];rw[if_neg (by omega)];rfl) (by rfl)
  |add=>show ep P w0 own0 hvs G S0 o a w st kn γ S (if k=k then _ else _);rw[if_pos rfl];exact done _ _ (by simp only[binOp,ne_eq,not_true_eq_false,if_false,Op.intArith];rfl) (by rfl)
  |sub=>show ep P w0 own0 hvs G S0 o a w st kn γ S (if k=k then _ else _);rw[if_pos rfl];exact done _ _ (by simp only[binOp,ne_eq,not_true_eq_false,if_false,Op.intArith];rfl) (by rfl)
  |mul=>show ep P w0 own0 hvs G S0 o a w st kn γ S (if k=k then _ else _);rw[if_pos rfl];exact done _ _ (by simp only[binOp,ne_eq,not_true_eq_false,if_false,Op.intArith];rfl) (by rfl)
  |quo=>show ep P w0 own0 hvs G S0 o a w st kn γ S (if k=k then _ else _);rw[if_pos rfl];intro b;exact done _ _ (by simp only[aF]at b;simp only[binOp,ne_eq,not_true_eq_false,if_false,Op.intDiv,b];rfl) (by rfl)
  |rem=>show ep P w0 own0 hvs G S0 o a w st kn γ S (if k=k then _ else _);rw[if_pos rfl];intro b;exact done _ _ (by simp only[aF]at b;simp only[binOp,ne_eq,not_true_eq_false,if_false,Op.intDiv,b];rfl) (by rfl)
  |lss=>show ep P w0 own0 hvs G S0 o a w st kn γ S (if k=k then _ else _);rw[if_pos rfl];exact done _ _ (by simp only[binOp,ne_eq,not_true_eq_false,if_false,Op.intCmp];rfl) (by rfl)
  |leq=>show ep P w0 own0 hvs G S0 o a w st kn γ S (if k=k then _ else _);rw[if_pos rfl];exact done _ _ (by simp only[binOp,ne_eq,not_true_eq_false,if_false,Op.intCmp];rfl) (by rfl)
  |gtr=>show ep P w0 own0 hvs G S0 o a w st kn γ S (if k=k then _ else _);rw[if_pos rfl];exact done _ _ (by simp only[binOp,ne_eq,not_true_eq_false,if_false,Op.intCmp];rfl) (by rfl)
  |geq=>show ep P w0 own0 hvs G S0 o a w st kn γ S (if k=k then _ else _);rw[if_pos rfl];exact done _ _ (by simp only[binOp,ne_eq,not_true_eq_false,if_false,Op.intCmp];rfl) (by rfl)
  |eql=>show ep P w0 own0 hvs G S0 o a w st kn γ S (if k=k then _ else _);rw[if_pos rfl];exact done (.bool (m==n)) _ (by simp_all[binOp,Op.intCmp]) (by rfl)
  |neq=>show ep P w0 own0 hvs G S0 o a w st kn γ S (if k=k then _ else _);rw[if_pos rfl];exact done (.bool (m !=n)) _ (by simp_all[binOp,Op.intCmp]) (by rfl)
  |and=>show ep P w0 own0 hvs G S0 o a w st kn γ S (if k=k then _ else _);rw[if_pos rfl];exact done _ _ (by simp only[binOp,ne_eq,not_true_eq_false,if_false,Op.intBits];rfl) (by rfl)
  |or=>show ep P w0 own0 hvs G S0 o a w st kn γ S (if k=k then _ else _);rw[if_pos rfl];exact done _ _ (by simp only[binOp,ne_eq,not_true_eq_false,if_false,Op.intBits];rfl) (by rfl)
  |xor=>show ep P w0 own0 hvs G S0 o a w st kn γ S (if k=k then _ else _);rw[if_pos rfl];exact done _ _ (by simp only[binOp,ne_eq,not_true_eq_false,if_false,Op.intBits];rfl) (by rfl)
  |andNot=>show ep P w0 own0 hvs G S0 o a w st kn γ S (if k=k then _ else _);rw[if_pos rfl];exact done _ _ (by simp only[binOp,ne_eq,not_true_eq_false,if_false,Op.intBits];rfl) (by rfl)
 ·cases c with
  |shl=>intro b;exact done _ _ (by simp only[aF]at b;simp only[binOp,Op.shift];rw[if_neg (by omega)];rfl) (by rfl)
  |shr=>intro b;exact done _ _ (by simp only[aF]at b;simp only[binOp,Op.shift];rw[if_neg (by omega)];rfl) (by rfl)
  |_=>grind[ep]
theorem C7{b:BinOp}{c:TypeId}{y:Operand}{m n:List UInt8}(e:o.op=.binOp b t x y c)(f:a.eval x=.string ⟨m.toArray⟩)(g:a.eval y=.string ⟨n.toArray⟩): ep P w0 own0 hvs G S0 o a w st kn γ S (uU aF b m n):=by have i:∀b,(eqGuard b t x y (.string ⟨m.toArray⟩) (.string ⟨n.toArray⟩)).run P w=.ok () w:=by{simp_all[eqGuard]};have done:∀v p,(binOp b t (.string ⟨m.toArray⟩) (.string ⟨n.toArray⟩)).run P w=.ok v w->aD S w p v->oo P w0 own0 hvs G S0 o a w st (.pv p):=fun v p j k=>aG h bg Cy (u:=v) (by grind[execOp,Sem.run_bind,Result.andThen_ok,Sem.run_pure]) (by grind[lF]);have l:IntKind.i64.max=9223372036854775807:=by{decide};unfold uU;split;{intro d;refine done (.string (⟨m.toArray⟩++⟨n.toArray⟩)) _ ?_ ?_;{simp[aF]at d;simp only[binOp,Op.stringOp];rw[if_neg (by grind[ByteArray.size])];rfl};rfl};{exact done (.bool (m==n)) _ (by simp_all[binOp,Op.stringOp]) (by grind[aD,aF])};{exact done (.bool (!(m==n))) _ (by simp_all[binOp,Op.stringOp]) (by grind[aD,aF])};{exact done (.bool (Op.bytesLess m n)) _ (by simp_all[binOp,Op.stringOp]) (by rfl)};trivial
theorem aaE{b:BinOp}{d:TypeId}{y:Operand}{m n:Bool}(e:o.op=.binOp b t x y d)(c:P.underlying t=some .bool)(f:a.eval x=.bool m)(g:a.eval y=.bool n): ep P w0 own0 hvs G S0 o a w st kn γ S (uu b m n):=by have i:∀b,(eqGuard b t x y (.bool m) (.bool n)).run P w=.ok () w:=by{simp_all[eqGuard]};have done:∀v p,(binOp b t (.bool m) (.bool n)).run P w=.ok v w->aD S w p v->oo P w0 own0 hvs G S0 o a w st (.pv p):=fun v p j k=>aG h bg Cy (u:=v) (by grind[execOp,Sem.run_bind,Result.andThen_ok,Sem.run_pure]) (by grind[lF]);unfold uu;split;{exact done _ _ (run_eql_bool _ t m n c) (by cases m<;>cases n<;>rfl)};{exact done _ _ (run_neq_bool _ t m n c) (by cases m<;>cases n<;>rfl)};trivial
theorem C8{b:BinOp}{j:TypeId}{y:Operand}{k:Array (String×TypeId)}(l:o.op=.binOp b t x y j)(i:P.underlying t=some (.interface k))(m:(isConst x||isConst y)=true)(p q:PV)(c:aD S w p (a.eval x))(d:aD S w q (a.eval y)):
  ep P w0 own0 hvs G S0 o a w st kn γ S (match(generalizing:=false) p,q with
   |.j8,.j8=>match(generalizing:=false) b with|.eql=>.val (.pv (.bool true))|.neq=>.val (.pv (.bool false))|_=>.bad
   |.j8,.iface ..=>match(generalizing:=false) b with|.eql=>.val (.pv (.bool false))|.neq=>.val (.pv (.bool true))|_=>.bad
   |.iface ..,.j8=>match(generalizing:=false) b with|.eql=>.val (.pv (.bool false))|.neq=>.val (.pv (.bool true))|_=>.bad
   |_,_=>.bad):=by
 have done:∀v p,((do eqGuard b t x y (a.eval x) (a.eval y);binOp b t (a.eval x) (a.eval y)):Sem Value).run P w=.ok v w->aD S w p v->oo P w0 own0 hvs G S0 o a w st (.pv p):=
  fun v p n r=>aG h bg Cy (u:=v) (by simp only[execOp,l,Sem.run_bind,Sem.run_pure]at n ⊢;simp_all) (by grind[lF])
 have e:∀b,(eqGuard b t x y .nilIface .nilIface).run P w=.ok () w:=fun b=>AY b t x y m
 cases p with
 |j8=>
  cases q with
  |j8=>
   cases b<;>first|exact True.intro|skip
   ·exact done (.bool true) _ (by rw[c,d];simp[e,binOp,mP (u:=0) (v:=undef) i]) (by rfl)
   ·exact done (.bool false) _ (by rw[c,d];simp only[Sem.run_bind,e,Result.andThen_ok,binOp,mP (u:=0) (v:=undef) i,Sem.run_pure];rfl) (by rfl)
  |iface f pp=>
   simp[aD]at c d;obtain⟨g,d,_⟩:=d
   have e:∀b,(eqGuard b t x y .nilIface (.iface f g)).run P w=.ok () w:=by simp_all[eqGuard]
   cases b<;>first|exact True.intro|skip
   ·exact done (.bool false) _ (by grind[Sem.run_bind,Result.andThen_ok,binOp,mQ,Sem.run_pure]) (by rfl)
   ·exact done (.bool true) _ (by grind[Sem.run_bind,Result.andThen_ok,binOp,mQ,Sem.run_pure]) (by rfl)
  |_=>exact True.intro
 |iface f pp=>
  cases q with
  |j8=>
   simp[aD]at c d;obtain⟨g,c,_⟩:=c
   have e:∀b,(eqGuard b t x y (.iface f g) .nilIface).run P w=.ok () w:=by simp_all[eqGuard]
   cases b<;>first|exact True.intro|skip
   ·exact done (.bool false) _ (by grind[Sem.run_bind,Result.andThen_ok,binOp,mR,Sem.run_pure]) (by rfl)
   ·exact done (.bool true) _ (by grind[Sem.run_bind,Result.andThen_ok,binOp,mR,Sem.run_pure]) (by rfl)
  |_=>exact True.intro
 |_=>cases q<;>exact True.intro
end
end
theorem cell_of{w:World}(h:ai w b=some c)(i:Nat):w.cell? ⟨b,i,none⟩=c[i]?:=by grind[ai,World.cell?]
section
variable {S:Nat->Prop} {w:World} {ρ:AV->Value->Prop}
theorem dm.get:∀{a:List PV} {c:Array Value} {o j:Nat} {p:PV},dm S w a c o->a[j]? =some p->∃v,c[o+j]? =some v/\aD S w p v
|[],_,_,_,_,_,h=>by grind
|p::a,c,o,0,q,b,h=>by grind[dm]
|p::a,c,o,j+1,q,b,h=>by have:=dm.get (j:=j) b.2 (by simpa using h);grind
theorem dm.drop:∀{a:List PV} {c:Array Value} {o:Nat} (k:Nat),dm S w a c o->dm S w (a.drop k) c (o+k)
|_,_,_,0,h=>by simp_all
|[],_,_,k+1,_=>by grind[dm]
|p::a,c,o,k+1,h=>by have:=dm.drop k h.2;grind
theorem dm.take:∀{a:List PV} {c:Array Value} {o:Nat} (k:Nat),dm S w a c o->dm S w (a.take k) c o
|_,_,_,0,h=>by grind[dm]
|[],_,_,k+1,_=>by simp_all
|p::a,c,o,k+1,h=>by exact⟨h.1,dm.take k h.2⟩
theorem dm.list:∀{b:List PV} {c:Array Value} {o:Nat},dm S w b c o->∃a:List Value,aM S w b a/\a.length=b.length/\∀j v,a[j]? =some v->c[o+j]? =some v
|[],_,_,_=>⟨[],by rfl,rfl,by simp⟩
|p::b,c,o,h=>by obtain⟨⟨v,f,g⟩,d⟩:=h;obtain⟨a,i,e,k⟩:=dm.list d;refine⟨v::a,by grind[aM],by simp[e],?_⟩;grind
theorem bB.get:∀{a:List AV} {c:Array Value} {o j:Nat} {p:AV},bB S w ρ a c o->a[j]? =some p->∃v,c[o+j]? =some v/\lF S w ρ p v
|[],_,_,_,_,_,h=>by grind
|p::a,c,o,0,q,b,h=>by grind[bB]
|p::a,c,o,j+1,q,b,h=>by have:=bB.get (j:=j) b.2 (by simpa using h);grind
theorem bB.drop:∀{a:List AV} {c:Array Value} {o:Nat} (k:Nat),bB S w ρ a c o->bB S w ρ (a.drop k) c (o+k)
|_,_,_,0,h=>by simp_all
|[],_,_,k+1,_=>by grind[bB]
|p::a,c,o,k+1,h=>by have:=bB.drop k h.2;grind
theorem bB.take:∀{a:List AV} {c:Array Value} {o:Nat} (k:Nat),bB S w ρ a c o->bB S w ρ (a.take k) c o
|_,_,_,0,h=>by grind[bB]
|[],_,_,k+1,_=>by simp_all
|p::a,c,o,k+1,h=>by exact⟨h.1,bB.take k h.2⟩
theorem bB.list:∀{b:List AV} {c:Array Value} {o:Nat},bB S w ρ b c o->∃a:List Value,au S w ρ b a/\a.length=b.length/\∀j v,a[j]? =some v->c[o+j]? =some v
|[],_,_,_=>⟨[],by rfl,rfl,by simp⟩
|p::b,c,o,h=>by obtain⟨⟨v,f,g⟩,d⟩:=h;obtain⟨a,i,e,k⟩:=bB.list d;refine⟨v::a,by grind[au],by simp[e],?_⟩;grind
theorem au.length:∀{xs:List AV} {a:List Value},au S w ρ xs a->a.length=xs.length
|[],a,h=>by grind[au]
|x::xs,a,h=>by obtain⟨v,r,rfl,_,b⟩:=h;simp[au.length b]
theorem aM.length:∀{xs:List PV} {a:List Value},aM S w xs a->a.length=xs.length
|[],a,h=>by grind[aM]
|x::xs,a,h=>by obtain⟨v,r,rfl,_,b⟩:=h;simp[aM.length b]
theorem aM.av:∀{xs:List PV} {a:List Value},aM S w xs a->au S w ρ (xs.map .pv) a
|[],a,h=>by grind[aM,au]
|x::xs,a,h=>by obtain⟨v,r,rfl,b,c⟩:=h;exact⟨v,r,rfl,b,aM.av c⟩
def va(ρ:AV->Value->Prop):Prop:=∀x v,(match x with|.c8 ..|.ptr ..|.cR ..|.fr ..|.eT ..=>True|_=>False)->ρ x v->v.oneCell'=true
theorem aD.one{p:PV}{v:Value}(e:(AV.pv p).one=true)(h:aD S w p v):v.oneCell'=true:=by cases p with|agg c=>grind[AV.one]|eN c=>grind[AV.one]|gM f ps=>obtain⟨d,rfl,_⟩:=h;rfl|iface t p=>obtain⟨d,rfl,_⟩:=h;rfl|sl r s=>obtain⟨a,c,rfl,_⟩:=h;rfl|ptr r=>obtain⟨a,c,b,rfl,_⟩:=h;rfl|mp=>obtain⟨a,c,b,rfl,_⟩:=h;rfl|_=>subst h;rfl
theorem lF.one(hρ:va ρ){x:AV}{v:Value}(d:x.one=true)(h:lF S w ρ x v):v.oneCell'=true:=by cases x with|pv p=>grind[lF,aD.one]|agg c=>grind[AV.one]|eN c=>grind[AV.one]|dead=>grind[AV.one]|iU t=>grind[AV.one]|c8 id a=>exact hρ _ _ trivial h|ptr id a=>exact hρ _ _ trivial h|cR id a j o=>exact hρ _ _ trivial h|fQ r o=>obtain⟨b,e,c,rfl,_⟩:=h;rfl|full r=>obtain⟨b,rfl,_⟩:=h;rfl|gM f c=>obtain⟨b,rfl,_⟩:=h;rfl|Ay f c=>obtain⟨b,rfl,_⟩:=h;rfl|kM r=>obtain⟨b,rfl,_⟩:=h;rfl|fr id=>exact hρ _ _ trivial h|eT id i=>exact hρ _ _ trivial h
theorem pG(h:v.oneCell'=true):v.cells=#[v]:=by cases v<;>first|rfl|simp[Value.oneCell']at h
theorem lF.cells(hρ:va ρ){x:AV}{v:Value}(a:kE x.cells=true)(h:lF S w ρ x v):au S w ρ x.cells v.cells.toList:=by cases x with|agg cs=>grind[lF,AV.cells,Value.cells]|pv p=>{cases p with|agg ps=>grind[lF,aD,AV.cells,Value.cells,aM.av]|eN ps=>grind[AV.cells,kE,AV.one]|_=>rw[pG (lF.one hρ (by rfl) h)];grind[AV.cells,au]}|eN cs=>grind[AV.cells,kE,AV.one]|dead=>grind[AV.cells,kE,AV.one]|iU t=>grind[AV.cells,kE,AV.one]|_=>rw[pG (lF.one hρ (by rfl) h)];grind[AV.cells,au]
theorem jX(γ:Nat->Option Nat)(mem:List (Option Obj)):va (Ref γ S w mem):=by intro x v c h;cases x with|c8 id a=>grind[Ref]|ptr id a=>{simp[Ref]at h;split at h<;>first|(obtain⟨b,_,rfl⟩:=h;rfl)|exact h.elim}|cR id a j o=>grind[Ref]|fr id=>{simp[Ref]at h;split at h<;>first|(obtain⟨b,_,rfl⟩:=h;rfl)|exact h.elim}|eT id i=>grind[Ref]|_=>simp_all
end
theorem uQ{mem:List (Option Obj)}(a:d<=mem.length)(i:Nat): aj (qG mem d o) i=if i=d then some o else aj mem i:=by unfold qG;split;{grind[Nat.le_of_ble_eq_true,aj]};grind[Nat.ble_eq_true_of_le,aj]
theorem mS{mem:List (Option Obj)}(h:aj mem i=some o):i<mem.length:=by grind[aj]
theorem bT{mem:List (Option Obj)}(h:aj mem i=some o):i<=mem.length:=Nat.le_of_lt (mS h)
theorem iD{w:World}{o:Go.Obj}(h:b<w.heap.size):(w.alloc o).heap[b]? =w.heap[b]?:=RowKit.Below.heap_alloc w o b h
theorem heap_alloc_new{w:World}{o:Go.Obj}:(w.alloc o).heap[w.heap.size]? =some o:=by show(w.heap.push o)[w.heap.size]? =_;simp
section
variable {S:Nat->Prop} {w:World} {ρ:AV->Value->Prop}
theorem bB.later(hl:bf S w S' w')(hρ:∀x v,ρ x v->ρ' x v){xs:List AV}{o:Nat}(h:bB S w ρ xs c o):bB S' w' ρ' xs c o:=bB.qN hl hρ xs h
theorem bU.later(hl:bf S w S' w')(hρ:∀x v,ρ x v->ρ' x v){xs:List (List AV)}{o:Nat}(h:bU S w ρ xs c o):bU S' w' ρ' xs c o:=bU.qN hl hρ xs h
theorem eK.later{γ γ':Nat->Option Nat}(hl:bf S w S' w')(hρ:∀x v,ρ x v->ρ' x v){id:Nat}{ob:Obj}(hγ:γ' id=γ id)(i:∀b,γ id=some b->w'.heap[b]? =w.heap[b]?)(h:eK γ S w ρ id ob):eK γ' S' w' ρ' id ob:=by cases ob with|cells cs=>obtain⟨b,c,e,a,d,f,g⟩:=h;exact⟨b,c,e,hγ.trans a,(i b a).trans d,f,bB.later hl hρ g.1,g.2⟩|cL t rs j=>{rcases h with⟨a,d⟩|⟨b,c,a,d,f,g,k⟩;{exact .inl ⟨hγ.trans a,d⟩};exact .inr ⟨b,c,hγ.trans a,(i b a).trans d,f,g,bM.later hl rs k⟩}|rows o rs j=>{rcases h with⟨a,d⟩|⟨b,c,e,a,d,f,g,k⟩;{exact .inl ⟨hγ.trans a,d⟩};exact .inr ⟨b,c,e,hγ.trans a,d.trans (i b a),f,g,bM.later hl rs k⟩}|cg o rs j=>{rcases h with⟨a,d⟩|⟨b,c,e,a,d,f,g,k⟩;{exact .inl ⟨hγ.trans a,d⟩};exact .inr ⟨b,c,e,hγ.trans a,d.trans (i b a),f,g,bU.later hl hρ k⟩}|eO rs j=>trivial|map u y kn rows=>obtain⟨b,l,m,a,d,f,g⟩:=h;exact⟨b,l,m,hγ.trans a,(i b a).trans d,f,bV.later hl rows g⟩|iw rows=>obtain⟨b,l,m,a,d,f,g⟩:=h;exact⟨b,l,m,hγ.trans a,(i b a).trans d,f,fM.later hl hρ g⟩|ry s pos=>obtain⟨b,a,d,f⟩:=h;exact⟨b,hγ.trans a,(i b a).trans d,f⟩|eu src seen=>simp only[eK]at h ⊢;split at h;{grind};{obtain⟨b,n,l,m,p,a,d,f,g,k,q,r⟩:=h;exact⟨b,n,l,m,p,hγ.trans a,(i b a).trans d,(hl n f).1,(hl n f).2.2.trans g,k,bV.later hl _ q,r⟩};exact h
end
def bI:AV->Option Nat
 |.c8 id _=>some id
 |.ptr id _=>some id
 |.cR id _ _ _=>some id
 |.fr id=>some id
 |.eT id _=>some id
 |_=>none
theorem Ref.sO{γ':Nat->Option Nat}{S:Nat->Prop}{w:World}{mem f:List (Option Obj)}(hl:bf S w S' w')(x:AV)(v:Value)(l:∀id a,bI x=some id->aj mem id=some a->aj f id=some a/\γ' id=γ id/\∀b,γ id=some b->ai w' b=ai w b/\YB w' b=YB w b)(h:Ref γ S w mem x v):Ref γ' S' w' f x v:=by cases x with|c8 id p=>{simp only[Ref]at h ⊢;cases d:aj mem id with|none=>simp_all|some a=>obtain⟨k,m,n⟩:=l id a rfl d;simp only[d]at h;simp only[k];cases a with|rows q rs g=>grind|cg q rs g=>grind|cL t rs g=>grind|eO rs g=>grind[aD.later]|_=>exact h}|ptr id off=>{simp[Ref]at h ⊢;cases d:aj mem id with|none=>simp_all|some a=>obtain⟨k,m,n⟩:=l id a rfl d;simp_all}|cR id p j off=>{simp only[Ref]at h ⊢;cases d:aj mem id with|none=>simp_all|some a=>obtain⟨k,m,n⟩:=l id a rfl d;simp only[d]at h;simp only[k];cases a with|rows q rs g=>simp_all|cg q rs g=>simp_all|cL t rs g=>simp_all|eO rs g=>refine⟨h.1,fun e=>?_⟩;obtain⟨b,o,c,s,r,u,y,z⟩:=h.2 e;exact⟨b,o,c,s,(hl b r).1,(hl b r).2.1.trans u,dm.later hl _ y,z⟩|_=>exact h}|fr id=>{simp[Ref]at h ⊢;cases d:aj mem id with|none=>simp_all|some a=>obtain⟨k,m,n⟩:=l id a rfl d;simp_all}|eT id i=>{simp only[Ref]at h ⊢;cases d:aj mem id with|none=>simp_all|some a=>obtain⟨k,m,n⟩:=l id a rfl d;grind}|_=>grind[Ref]
theorem Ref.later{γ':Nat->Option Nat}{S:Nat->Prop}{w:World}{mem mem':List (Option Obj)}(hl:bf S w S' w')(a:∀id ob,aj mem id=some ob->aj mem' id=some ob/\γ' id=γ id/\∀b,γ id=some b->ai w' b=ai w b/\YB w' b=YB w b): ∀x v,Ref γ S w mem x v->Ref γ' S' w' mem' x v:=fun x v h=>Ref.sO hl x v (fun id ob _ c=>a id ob c) h
section
variable {P:Program} {w0:World} {own0:Nat->Prop} {hvs:List Value×List Deferred} {G:Nat->Option (List PV)} {S0:Nat->Prop} {accs:List Nat} {S:Nat->Prop} {a:Act} {w:World} {o:Oper} {kn:Nat} (h:dW w0 own0 hvs G γ S st a w) (bg:∀b,S0 b->S b) (Cy:∀b,S b->S0 b\/w0.heap.size<=b\/own0 b)
def dp(γ:Nat->Option Nat)(d:Nat)(b:Option Nat):Nat->Option Nat:=fun i=>if i=d then b else γ i
section
include h
theorem tD(c:Go.Obj):bf S w S (w.alloc c):=fun b a=>⟨a,dC (iD (h.bound b a))⟩
theorem dW.grow(k:∀b,b<w.heap.size->w'.heap[b]? =w.heap[b]?)(z:w.heap.size<=w'.heap.size)(p:w'.os=w.os)(q:w'.tape=w.tape)(r:w'.output=w.output)(m:∀b,S b->S' b)(n:∀b,S' b->S b\/(w.heap.size<=b/\b<w'.heap.size)): dW w0 own0 hvs G γ S' st a w'/\bf S w S' w'/\(∀x v,Ref γ S w st.mem x v->Ref γ S' w' st.mem x v):=by have hl:bf S w S' w':=fun b d=>⟨m b d,dC (k b (h.bound b d))⟩;have d:∀i b,γ i=some b->w'.heap[b]? =w.heap[b]?:=fun i b d=>k b (h.eJ i b d);have hρ:=Ref.later (γ:=γ) (γ':=γ) (mem:=st.mem) (mem':=st.mem) hl fun id f l=>⟨l,rfl,fun b s=>dC (d id b s)⟩;refine⟨?_,hl,hρ⟩;exact{size:=h.size,slot:=fun i=>lF.later hl hρ _ (h.slot i),held:=au.later hl hρ _ h.held,defers:=h.defers,mem:=fun id f l=>eK.later hl hρ rfl (d id) (h.mem id f l),lU:=h.lU,inj:=h.inj,own:=fun i b j=>by refine⟨fun t=>?_,(h.own i b j).2⟩;rcases n b t with e|e;{exact(h.own i b j).1 e};grind,bound:=fun b d=>by rcases n b d with e|e;{have:=h.bound b e;omega};omega,eJ:=fun i b d=>by have:=h.eJ i b d;omega,eZ:=fun g row j=>by obtain⟨e,c,h2,h3,u⟩:=h.eZ g row j;exact⟨m g e,c,((hl g e).2.1).trans h2,dm.later hl row h3,u⟩,kept:=fun b d y=>(k b (by have:=h.eY;omega)).trans (h.kept b d y),os:=p.trans h.os,tape:=q.trans h.tape,output:=r.trans h.output,eY:=by have:=h.eY;omega}
theorem dW.Gz(z:aj st.mem d=none)(o:d<=st.mem.length)(m:Obj)(go:Go.Obj)(A:(∀x v,Ref γ S w st.mem x v->Ref (dp γ d (some w.heap.size)) S (w.alloc go) (st.aq d m).mem x v)->bf S w S (w.alloc go)->eK (dp γ d (some w.heap.size)) S (w.alloc go) (Ref (dp γ d (some w.heap.size)) S (w.alloc go) (st.aq d m).mem) d m): dW w0 own0 hvs G (dp γ d (some w.heap.size)) S (st.aq d m) a (w.alloc go)/\ (∀x v,Ref γ S w st.mem x v->Ref (dp γ d (some w.heap.size)) S (w.alloc go) (st.aq d m).mem x v)/\bf S w S (w.alloc go):=by have hl:=tD h go;have l:∀i b,γ i=some b->(w.alloc go).heap[b]? =w.heap[b]?:=fun i b l=>iD (h.eJ i b l);have p:∀id f,aj st.mem id=some f->aj (st.aq d m).mem id=some f/\dp γ d (some w.heap.size) id=γ id:=by{grind[St.aq,uQ,dp]};have hρ:=Ref.later (γ:=γ) (γ':=dp γ d (some w.heap.size)) (mem:=st.mem) (mem':=(st.aq d m).mem) hl fun id f k=>⟨(p id f k).1,(p id f k).2,fun b s=>dC (l id b s)⟩;refine⟨?_,hρ,hl⟩;exact{size:=h.size,slot:=fun i=>lF.later hl hρ _ (h.slot i),held:=au.later hl hρ _ h.held,defers:=h.defers,mem:=fun id f k=>by by_cases e:id=d;{grind[St.aq,uQ]};simp[St.aq,uQ o,if_neg e]at k;exact eK.later hl hρ (by simp_all) (l id) (h.mem id f k),lU:=fun i b k=>by simp only[St.aq,uQ o];by_cases e:i=d;{simp[e]};simp only[dp,if_neg e]at k ⊢;exact h.lU i b k,inj:=fun i j b e n=>by simp[dp]at e n;split at e<;>split at n;{omega};{simp at e;subst e;have:=h.eJ j _ n;omega};{simp at n;subst n;have:=h.eJ i _ e;omega};exact h.inj i j b e n,own:=fun i b e=>by simp[dp]at e;split at e;{simp at e;subst e;exact⟨fun t=>by have:=h.bound _ t;omega,.inl h.eY⟩};exact h.own i b e,bound:=fun b l=>by simp;have:=h.bound b l;omega,eJ:=fun i b e=>by simp[dp]at e;simp;split at e;{simp_all};have:=h.eJ i b e;omega,eZ:=fun g row k=>by obtain⟨r,c,h2,h3,u⟩:=h.eZ g row k;exact⟨r,c,((hl g r).2.1).trans h2,dm.later hl row h3,u⟩,kept:=fun b l y=>(iD (by have:=h.eY;omega)).trans (h.kept b l y),os:=h.os,tape:=h.tape,output:=h.output,eY:=by simp;have:=h.eY;omega}
theorem dW.new(f:aj st.mem d=none)(g:d<=st.mem.length)(b:Obj)(c:Array Value)(e:TypeId)(i:(∀x v,Ref γ S w st.mem x v->Ref (dp γ d (some w.heap.size)) S (w.alloc (.cells c e)) (st.aq d b).mem x v)->bf S w S (w.alloc (.cells c e))->eK (dp γ d (some w.heap.size)) S (w.alloc (.cells c e)) (Ref (dp γ d (some w.heap.size)) S (w.alloc (.cells c e)) (st.aq d b).mem) d b): dW w0 own0 hvs G (dp γ d (some w.heap.size)) S (st.aq d b) a (w.alloc (.cells c e))/\ (∀x v,Ref γ S w st.mem x v->Ref (dp γ d (some w.heap.size)) S (w.alloc (.cells c e)) (st.aq d b).mem x v)/\bf S w S (w.alloc (.cells c e)):=dW.Gz h f g b (.cells c e) i
theorem dW.C9(m:aj st.mem d=none)(j:d<=st.mem.length)(k f:Nat): dW w0 own0 hvs G γ S (st.aq d (.rows k [] f)) a w:=by
 have hγd:γ d=none:=by{cases e:γ d with|none=>rfl|some b=>exact absurd m (h.lU d b e)};have hl:=bf.refl S w;have n:∀id c,aj st.mem id=some c->aj (st.aq d (.rows k [] f)).mem id=some c:=by{grind[St.aq,uQ]};have hρ:=Ref.later (γ:=γ) (γ':=γ) (mem:=st.mem) (mem':=(st.aq d (.rows k [] f)).mem) hl fun id c e=>⟨n id c e,rfl,fun b _=>⟨rfl,rfl⟩⟩
 exact{h with
     slot:=fun i=>lF.later hl hρ _ (h.slot i),held:=au.later hl hρ _ h.held
     mem:=fun id c e=>by
      by_cases g:id=d
      ·subst g;simp[St.aq,uQ j]at e;subst e;exact .inl ⟨hγd,rfl⟩
      ·simp[St.aq,uQ j,if_neg g]at e;exact eK.later hl hρ rfl (fun _ _=>rfl) (h.mem id c e)
     lU:=fun i b e=>by
      simp only[St.aq,uQ j]
      by_cases g:i=d
      ·simp[g]
      ·simp only[if_neg g];exact h.lU i b e}
theorem dW.lg{id:Nat}{y ob':Obj}(o:aj st.mem id=some y)(p:γ id=some b)(n:∀k,k≠b->w'.heap[k]? =w.heap[k]?)(q:w'.heap.size=w.heap.size)(z:w'.os=w.os)(A:w'.tape=w.tape)(B:w'.output=w.output)(J:∀x v,bI x=some id->Ref γ S w st.mem x v->Ref γ S w' (st.aq id ob').mem x v)(K:(∀x v,Ref γ S w st.mem x v->Ref γ S w' (st.aq id ob').mem x v)->bf S w S w'->eK γ S w' (Ref γ S w' (st.aq id ob').mem) id ob'): dW w0 own0 hvs G γ S (st.aq id ob') a w'/\(∀x v,Ref γ S w st.mem x v->Ref γ S w' (st.aq id ob').mem x v)/\bf S w S w':=by have s:=bT o;have C:=h.own id b p;have hl:bf S w S w':=fun k d=>⟨d,dC (n k (fun e=>C.1 (e▸d)))⟩;have hρ:∀x v,Ref γ S w st.mem x v->Ref γ S w' (st.aq id ob').mem x v:=by{intro x v D;by_cases f:bI x=some id;{simp_all};refine Ref.sO hl x v (fun m t E j=>?_) D;have F:m≠id:=fun e=>f (e▸E);refine⟨by grind[St.aq,uQ],rfl,fun l r=>dC (n l (fun e=>F (h.inj m id l r (e▸p))))⟩};refine⟨?_,hρ,hl⟩;exact{size:=h.size,slot:=fun i=>lF.later hl hρ _ (h.slot i),held:=au.later hl hρ _ h.held,defers:=h.defers,mem:=fun m t j=>by by_cases f:m=id;{grind[St.aq,uQ]};simp[St.aq,uQ s,if_neg f]at j;exact eK.later hl hρ rfl (fun l r=>n l (fun e=>f (h.inj m id l r (e▸p)))) (h.mem m t j),lU:=fun i l j=>by simp only[St.aq,uQ s];by_cases f:i=id;{simp[f]};simp only[if_neg f];exact h.lU i l j,inj:=h.inj,own:=h.own,bound:=fun k d=>by rw[q];exact h.bound k d,eJ:=fun i k d=>by rw[q];exact h.eJ i k d,eZ:=fun g row j=>by obtain⟨u,c,h2,h3,H⟩:=h.eZ g row j;exact⟨u,c,((hl g u).2.1).trans h2,dm.later hl row h3,H⟩,kept:=fun k d I=>by rw[n k (fun e=>?_)];exact h.kept k d I;grind,os:=z.trans h.os,tape:=A.trans h.tape,output:=B.trans h.output,eY:=by rw[q];exact h.eY}
end
end
theorem gU(b a n:Nat):(Addr.mk b a none).add n=⟨b,a+n,none⟩:=by grind[Addr.add]
variable {P:Program}
section
variable {w:World}
theorem ji(h:ey P t=some g):(isAgg t).run P w=.ok g w:=by unfold ey at h;simp[isAgg];split at h;{simp_all[run_underlying]};{simp_all[run_underlying]};{simp_all[run_underlying]};cases h
theorem run_sizeOf{n:Nat}(h:dK P t=some n):(sizeOf t).run P w=.ok n w:=by unfold dK at h;cases a:P.info? t with|none=>simp_all|some i=>simp_all[sizeOf,typeInfo]
theorem aeO(a:ai w b=some c)(d:c[i]? =some v):(load ⟨b,i,none⟩).run P w=.ok v w:=by grind[load,Sem.run,cell_of]
theorem kH(a:ey P t=some false)(d:ai w b=some c)(e:c[i]? =some v): (loadVar t ⟨b,i,none⟩).run P w=.ok v w:=by simp only[loadVar,Sem.run_bind,ji a,Result.andThen_ok,Bool.false_eq_true,if_false,aeO d e]
theorem kA{n:Nat}{a:List Value}(d:ey P t=some true)(e:dK P t=some n)(f:ai w b=some c)(hl:a.length=n)(g:∀j v,a[j]? =some v->c[i+j]? =some v): (loadVar t ⟨b,i,none⟩).run P w=.ok (.agg a.toArray) w:=by have:=run_loadCells_list (P:=P) w ⟨b,i,none⟩ a (fun j v h=>by grind[gU,cell_of]);simp_all[loadVar,ji,run_sizeOf]
theorem oK{h:Nat×Nat}:∀(d:List Value) (i a:Nat) (c:Array Value) (w:World),akt c.size h->w.heap[b]? =some (.cells c e h)->a+i+d.length<=c.size->(∀v∈d,v.oneCell'=true)->∃(w':World) (f:Array Value),(storeCells ⟨b,a,none⟩ d i).run P w=.ok () w'/\w'.heap[b]? =some (.cells f e h)/\f.size=c.size/\ (∀j,f[j]? =if a+i<=j/\j<a+i+d.length then d[j-(a+i)]? else c[j]?)/\ (∀k,k≠b->w'.heap[k]? =w.heap[k]?)/\w'.heap.size=w.heap.size/\w'.os=w.os/\w'.tape=w.tape/\w'.output=w.output:=by intro d;induction d with|nil=>intro i a c w _ m _ _;refine⟨w,c,rfl,m,rfl,fun j=>?_,fun _ _=>rfl,rfl,rfl,rfl,rfl⟩;grind|cons v d o=>intro i a c w n m g p;simp at g;have l:w.cell? ⟨b,a+i,none⟩=some c[a+i]:=by{have q:ai w b=some c:=by{grind[ai]};rw[cell_of q,Array.getElem?_eq_getElem (by omega)]};have B:w.frozen? ⟨b,a+i,none⟩=false:=by{rcases n with rfl|n;{grind[World.frozen?]};grind[World.frozen?]};have r:(w.setCell ⟨b,a+i,none⟩ v).heap[b]? =some (.cells (c.setIfInBounds (a+i) v) e h):=by{grind[World.setCell]};obtain⟨w',f,C,s,D,E,F,t,x,y,z⟩:=o (i+1) a (c.setIfInBounds (a+i) v) (w.setCell ⟨b,a+i,none⟩ v) (by grind) r (by grind) (fun u A=>p u (List.mem_cons_of_mem _ A));refine⟨w',f,?_,s,by grind,fun j=>?_,fun k G=>?_,by simpa using t,x,y,z⟩;{grind[storeCells,Sem.run_bind,gU,run_store,Result.andThen_ok]};{grind};grind[RowKit.Below.heap_setCell]
end
variable {w0:World} {own0:Nat->Prop} {hvs:List Value×List Deferred} {G:Nat->Option (List PV)} {S0:Nat->Prop} {accs:List Nat} {S:Nat->Prop} {a:Act} {w:World} {o:Oper} {kn:Nat} (h:dW w0 own0 hvs G γ S st a w) (bg:∀b,S0 b->S b) (Cy:∀b,S b->S0 b\/w0.heap.size<=b\/own0 b)
include h bg Cy
theorem rA(A:o.op=.load t x)(e:ey P t=some g)(f:match g with|true=>∃m,dK P t=some m/\n=some m|false=>n=none){off:Nat}{row:List PV}(B:a.eval x=.pointer (some ⟨b,off+k,none⟩))(i:ai w b=some c)(j:dm S w row c off): ep P w0 own0 hvs G S0 o a w st kn γ S (il row k n):=by have l:∀v,(loadVar t ⟨b,off+k,none⟩).run P w=.ok v w->(execOp a.eval o).run P w=.ok (.value v) w:=by{grind[execOp,Instr.loadAt,Instr.sureAddr,Sem.run_bind,Sem.run_pure,Result.andThen_ok]};cases g with|false=>subst f;simp[il];split;{rename_i p q;obtain⟨v,r,C⟩:=dm.get j q;exact aG h bg Cy (l v (kH e i r)) (by grind[lF])};trivial|true=>obtain⟨m,s,rfl⟩:=f;simp[il];split;{rename_i u;obtain⟨y,D,E,z⟩:=dm.list ((j.drop k).take m);have d:y.length=m:=by{grind};exact aG h bg Cy (l _ (kA e s i d z)) (by grind[lF,aD])};trivial
theorem BW(B:o.op=.load t x)(e:ey P t=some g)(f:match g with|true=>∃m,dK P t=some m/\n=some m|false=>n=none){o0:Nat}{row:List AV}(C:a.eval x=.pointer (some ⟨b,o0+k,none⟩))(i:ai w b=some c)(j:bB S w (Ref γ S w st.mem) row c o0): ep P w0 own0 hvs G S0 o a w st kn γ S (js row k n):=by have l:∀v,(loadVar t ⟨b,o0+k,none⟩).run P w=.ok v w->(execOp a.eval o).run P w=.ok (.value v) w:=by{grind[execOp,Instr.loadAt,Instr.sureAddr,Sem.run_bind,Sem.run_pure,Result.andThen_ok]};cases g with|false=>subst f;simp[js];split;{rename_i p q;obtain⟨v,r,s⟩:=bB.get j q;exact aG h bg Cy (l v (kH e i r)) s};trivial|true=>obtain⟨m,u,rfl⟩:=f;simp[js];split;{rename_i y;obtain⟨z,D,E,A⟩:=bB.list ((j.drop k).take m);have d:z.length=m:=by{grind};exact aG h bg Cy (l _ (kA e u i d A)) (by grind[lF])};trivial
theorem bM.row{S:Nat->Prop}{w:World}:∀{a:List (List PV)} {c:Array Value} {o b j:Nat},aK b a->bM S w a c o->j<a.length->dm S w (a.getD j []) c (o+j*b)
|[],_,_,_,_,_,_,e=>by simp_all
|r::a,c,o,b,0,_,d,_=>by grind[bM]
|r::a,c,o,b,j+1,hl,d,e=>by have:=bM.row (j:=j) (fun x f=>hl x (List.mem_cons_of_mem _ f)) d.2 (by simp_all);have g:r.length=b:=hl r List.mem_cons_self;grind
omit h bg Cy in
theorem rows_block{id:Nat}{a:List (List PV)}(j:γ id=some b)(g:eK γ S w (Ref γ S w st.mem) id (.rows d a f)): ∃c e,DJ w b c e/\a.length*d<=c.size/\aK d a/\bM S w a c 0:=by rcases g with⟨i,_⟩|⟨k,c,e,i,l,m,n,o⟩;{simp_all};grind
omit h bg Cy in
theorem bU.row{S:Nat->Prop}{w:World}{ρ:AV->Value->Prop}:∀{a:List (List AV)} {c:Array Value} {o b j:Nat},(∀r∈a,r.length=b)->bU S w ρ a c o->j<a.length->bB S w ρ (a.getD j []) c (o+j*b)
|[],_,_,_,_,_,_,e=>by simp_all
|r::a,c,o,b,0,_,d,_=>by grind[bU]
|r::a,c,o,b,j+1,hl,d,e=>by have:=bU.row (j:=j) (fun x f=>hl x (List.mem_cons_of_mem _ f)) d.2 (by simp_all);grind
omit h bg Cy in
theorem kf{id:Nat}{a:List (List AV)}(j:γ id=some b)(g:eK γ S w (Ref γ S w st.mem) id (.cg d a f)): ∃c e,DJ w b c e/\a.length*d<=c.size/\(∀r∈a,r.length=d)/\bU S w (Ref γ S w st.mem) a c 0:=by rcases g with⟨i,_⟩|⟨k,c,e,i,l,m,n,o⟩;{simp_all};grind
theorem Qt{H:bR}(u:o.op=.load t x)(v:ey P t=some g)(y:match g with|true=>∃m,dK P t=some m/\n=some m|false=>n=none)(K:aZ G x=some H): cj P w0 own0 hvs G S0 o a w st kn γ S (KA aF kn (.ld H n) st.ev):=by simp[KA,ur];have d:=h.fR K;split;{rename_i id p q;rw[q]at d;simp[lF,Ref]at d;intro D z;simp[z]at d;cases D with|cells cs=>obtain⟨b,r,i⟩:=d;obtain⟨Q,c,e,R,A,I,f,_⟩:=h.mem id _ z;exact BW h bg Cy (o0:=0) u v y (by rw[Nat.zero_add];exact i) (by grind[ai]) f|_=>trivial};{rename_i id s j p q;rw[q]at d;simp only[lF,Ref]at d;intro D z;simp only[z]at d;cases D with|cells cs=>trivial|map=>trivial|iw=>trivial|ry=>trivial|cL=>trivial|eu=>trivial|cg L rs B=>by_cases l:s=B;{subst l;simp;obtain⟨b,r,i,M,J⟩:=d.2 rfl;obtain⟨c,e,⟨N,O,A⟩,I,E,f⟩:=kf r (h.mem id _ z);have C:=bU.row (j:=j.toNat) E f (by omega);rw[Nat.zero_add]at C;exact BW h bg Cy u v y i (by grind[ai]) C};simp[beq_eq_false_iff_ne.2 l];trivial|rows L rs B=>by_cases l:s=B;{subst l;simp;obtain⟨b,r,i,M,J⟩:=d.2 rfl;obtain⟨c,e,⟨N,O,A⟩,I,E,f⟩:=rows_block r (h.mem id _ z);have C:=bM.row h bg Cy (j:=j.toNat) E f (by omega);rw[Nat.zero_add]at C;exact rA h bg Cy u v y i (by grind[ai]) C};simp[beq_eq_false_iff_ne.2 l];trivial|eO rs B=>by_cases l:s=B;{subst l;simp;obtain⟨b,F,c,i,r,A,f,J⟩:=d.2 rfl;exact rA h bg Cy u v y i A f};simp[beq_eq_false_iff_ne.2 l];trivial};{rename_i row p q;rw[q]at d;obtain⟨b,F,c,i,r,A,f⟩:=d;exact rA h bg Cy u v y i A f};{rename_i row q;rw[q]at d;obtain⟨b,F,c,r,f⟩:=d;exact rA h bg Cy (off:=F) (k:=0) u v y (by omega) f.2.1 f.2.2};trivial
end Go.Am
