import Derived.Below
import Derived.Laws.StructEq
import Derived.Laws.Slices
import Derived.Laws.Cells
import Derived.Laws.World
import Derived.Test.YtfaccbkibjkfjaaGreatDoorT00
set_option linter.all false
set_option maxRecDepth 100000
set_option maxHeartbeats 1000000
namespace Go.Am
variable {S':Nat->Prop} {w':World} {ρ':AV->Value->Prop} {γ:Nat->Option Nat} {st:St} {a:Array (String×TypeId)} {b:Nat} {c:Array Value} {d:Nat} {e:TypeId} {f:Nat} {g:Bool} {i k:Nat} {mem:List (Option Obj)} {n:Option Nat} {o:Obj} {p:PV} {s t:TypeId} {v:Value} {x:Operand}
def At(w:World)(b:Nat):Option (Array Value):=
 match w.heap[b]? with
 |some (.cells c _ _)=>some c
 |_=>none
def YB(w:World)(b:Nat):Option (Array MapEntry×Nat):=
 match w.heap[b]? with
 |some (.map es ck)=>some (es,ck)
 |_=>none
def gm(c:List MapEntry)(ck:Nat):Prop:=(∀e∈c,e.born<ck)/\c.Pairwise (fun a b=>a.born<b.born)
def valOf(g:Bool)(a:List Value):Value:=
 match g with
 |true=>.agg a.toArray
 |false=>a.headD (.agg #[])
def shapeOf(g:Bool)(n:Nat):Prop:=match g with|true=>True|false=>n=1
def aK(a:Nat)(rows:R_):Prop:=∀r∈rows,r.length=a
mutual
def aD(S:Nat->Prop)(w:World):PV->Value->Prop
 |.bool b,v=>v=.bool b
 |.int k n,v=>v=.int k n
 |.str s,v=>v=.string ⟨s.toArray⟩
 |.mh,v=>v=.pointer none
 |.yS,v=>v=.nilFunc
 |.j8,v=>v=.nilIface
 |.oh,v=>v=.map none
 |.gM f ps,v=>∃vs:List Value,v=.func (.func f) #[] vs.toArray/\aM S w ps vs
 |.iface t p,v=>∃v',v=.iface t v'/\aD S w p v'
 |.agg ps,v=>∃vs:List Value,v=.agg vs.toArray/\aM S w ps vs
 |.eN ps,v=>∃vs:List Value,v=.tuple vs.toArray/\aM S w ps vs
 |.sl rows spare,v=>∃a cap,v=.slice a rows.length cap/\rows.length+spare.length<=cap/\
   ((rows=[]/\spare=[])\/∃b off c sz,a=some ⟨b,off,none⟩/\S b/\At w b=some c/\aK sz rows/\aK sz spare/\
    bM S w rows c off/\bM S w spare c (off+rows.length*sz))
 |.ptr ps,v=>∃b off c,v=.pointer (some ⟨b,off,none⟩)/\S b/\At w b=some c/\dm S w ps c off
 |.mp kg vg kn rows,v=>∃b es ck,v=.map (some b)/\S b/\YB w b=some (es,ck)/\gm es.toList ck/\bV S w kg vg kn rows es.toList
def aM(S:Nat->Prop)(w:World):List PV->List Value->Prop
 |[],vs=>vs=[]
 |p::ps,vs=>∃v r,vs=v::r/\aD S w p v/\aM S w ps r
def dm(S:Nat->Prop)(w:World):List PV->Array Value->Nat->Prop
 |[],_,_=>True
 |p::ps,c,off=>(∃v,c[off]? =some v/\aD S w p v)/\dm S w ps c (off+1)
def bM(S:Nat->Prop)(w:World):R_->Array Value->Nat->Prop
 |[],_,_=>True
 |r::rs,c,off=>dm S w r c off/\bM S w rs c (off+r.length)
def bV(S:Nat->Prop)(w:World)(kg vg:Bool)(kn:Nat):R_->List MapEntry->Prop
 |[],es=>es=[]
 |r::rs,es=>∃e t kv vv,es=e::t/\aM S w r (kv++vv)/\kv.length=kn/\shapeOf kg kn/\shapeOf vg vv.length/\e.key=valOf kg kv/\e.val=valOf vg vv/\bV S w kg vg kn rs t
end
def bf(S:Nat->Prop)(w:World)(S':Nat->Prop)(w':World):Prop:=∀b,S b->S' b/\At w' b=At w b/\YB w' b=YB w b
theorem dC{w:World}(h:w'.heap[b]? =w.heap[b]?):At w' b=At w b/\YB w' b=YB w b:=by grind[At,YB]
theorem bf.refl(S:Nat->Prop)(w:World):bf S w S w:=fun _ h=>⟨h,rfl,rfl⟩
theorem bf.trans{S S' a:Nat->Prop}{w w' e:World}(h:bf S w S' w')(d:bf S' w' a e):bf S w a e:=fun b c=>⟨(d b (h b c).1).1,((d b (h b c).1).2.1).trans (h b c).2.1,((d b (h b c).1).2.2).trans (h b c).2.2⟩
section
variable {S:Nat->Prop} {w:World} (hl:bf S w S' w')
include hl
mutual
theorem aD.later:∀(p:PV) {v:Value},aD S w p v->aD S' w' p v
 |.bool _,_,h=>by grind[aD]
 |.int _ _,_,h=>by grind[aD]
 |.str _,_,h=>by grind[aD]
 |.mh,_,h=>by grind[aD]
 |.yS,_,h=>by grind[aD]
 |.j8,_,h=>by grind[aD]
 |.oh,_,h=>by grind[aD]
 |.gM f ps,_,h=>by
  obtain⟨vs,rfl,h⟩:=h;exact⟨vs,rfl,aM.later ps h⟩
 |.iface t p,_,h=>by
  obtain⟨v',rfl,h⟩:=h;exact⟨v',rfl,aD.later p h⟩
 |.agg ps,_,h=>by
  obtain⟨vs,rfl,h⟩:=h;exact⟨vs,rfl,aM.later ps h⟩
 |.eN ps,_,h=>by
  obtain⟨vs,rfl,h⟩:=h;exact⟨vs,rfl,aM.later ps h⟩
 |.sl rows spare,_,h=>by
  obtain⟨a,cap,rfl,hc,h⟩:=h;refine⟨a,cap,rfl,hc,?_⟩
  rcases h with h|⟨b,off,c,sz,ha,hs,hcell,h1,h2,h3,h4⟩
  ·simp_all
  ·exact .inr ⟨b,off,c,sz,ha,(hl b hs).1,(hl b hs).2.1.trans hcell,h1,h2,bM.later rows h3,bM.later spare h4⟩
 |.ptr ps,_,h=>by
  obtain⟨b,off,c,rfl,hs,hcell,h⟩:=h;exact⟨b,off,c,rfl,(hl b hs).1,(hl b hs).2.1.trans hcell,dm.later ps h⟩
 |.mp kg vg kn rows,_,h=>by
  obtain⟨b,es,ck,rfl,hs,hm,hb,h⟩:=h;exact⟨b,es,ck,rfl,(hl b hs).1,(hl b hs).2.2.trans hm,hb,bV.later rows h⟩
theorem aM.later:∀(ps:List PV) {vs:List Value},aM S w ps vs->aM S' w' ps vs
 |[],_,h=>by grind[aM]
 |p::ps,_,h=>by
  obtain⟨v,r,rfl,h1,h2⟩:=h;exact⟨v,r,rfl,aD.later p h1,aM.later ps h2⟩
theorem dm.later:∀(ps:List PV) {c:Array Value} {off:Nat},dm S w ps c off->dm S' w' ps c off
 |[],_,_,h=>by grind[dm]
 |p::ps,_,_,h=>by
  obtain⟨⟨v,hv,h1⟩,h2⟩:=h;exact⟨⟨v,hv,aD.later p h1⟩,dm.later ps h2⟩
theorem bM.later:∀(rs:R_) {c:Array Value} {off:Nat},bM S w rs c off->bM S' w' rs c off
 |[],_,_,h=>by grind[bM]
 |r::rs,_,_,h=>by
  exact⟨dm.later r h.1,bM.later rs h.2⟩
theorem bV.later{kg vg:Bool}{kn:Nat}:∀(rs:R_) {es:List MapEntry},bV S w kg vg kn rs es->bV S' w' kg vg kn rs es
 |[],_,h=>by grind[bV]
 |r::rs,_,h=>by
  obtain⟨e,t,kv,vv,rfl,h1,h2,h3,h4,h5,h6,h7⟩:=h;exact⟨e,t,kv,vv,rfl,aM.later r h1,h2,h3,h4,h5,h6,bV.later rs h7⟩
end
end
section
variable (S:Nat->Prop) (w:World) (ρ:AV->Value->Prop)
mutual
def lF:AV->Value->Prop
 |.pv p,v=>aD S w p v
 |.agg cs,v=>∃vs:List Value,v=.agg vs.toArray/\au cs vs
 |.eN cs,v=>∃vs:List Value,v=.tuple vs.toArray/\au cs vs
 |.gM f cs,v=>∃vs:List Value,v=.func (.func f) #[] vs.toArray/\au cs vs
 |.c8 id ver,v=>ρ (.c8 id ver) v
 |.ptr id off,v=>ρ (.ptr id off) v
 |.cR id ver j off,v=>ρ (.cR id ver j off) v
 |.fQ row off,v=>∃b o c,v=.pointer (some ⟨b,o+off,none⟩)/\S b/\At w b=some c/\dm S w row c o
 |.full rows,v=>∃a,v=.slice a rows.length rows.length/\
   (rows=[]\/∃b off c sz,a=some ⟨b,off,none⟩/\S b/\At w b=some c/\aK sz rows/\bM S w rows c off)
 |.Ay f cs,v=>∃vs:List Value,v=.func (.func f) vs.toArray #[]/\au cs vs
 |.fr id,v=>ρ (.fr id) v
 |.eT id i,v=>ρ (.eT id i) v
 |.kM rows,v=>∃a,v=.slice a rows.length rows.length/\
   (rows=[]\/∃b off c sz,a=some ⟨b,off,none⟩/\S b/\At w b=some c/\(∀r∈rows,r.length=sz)/\bU rows c off)
 |.iU _,v=>v=.pointer none
 |.dead,_=>True
def au:List AV->List Value->Prop
 |[],vs=>vs=[]
 |x::xs,vs=>∃v r,vs=v::r/\lF x v/\au xs r
def bB:List AV->Array Value->Nat->Prop
 |[],_,_=>True
 |x::xs,c,off=>(∃v,c[off]? =some v/\lF x v)/\bB xs c (off+1)
def bU:List (List AV)->Array Value->Nat->Prop
 |[],_,_=>True
 |r::rs,c,off=>bB r c off/\bU rs c (off+r.length)
end
end
section
variable {S:Nat->Prop} {w:World} {ρ:AV->Value->Prop} (hl:bf S w S' w') (hρ:∀x v,ρ x v->ρ' x v)
include hl hρ
mutual
theorem lF.later:∀(x:AV) {v:Value},lF S w ρ x v->lF S' w' ρ' x v
 |.pv p,_,h=>by grind[lF,aD.later]
 |.agg cs,_,h=>by obtain⟨vs,rfl,h⟩:=h;exact⟨vs,rfl,au.later cs h⟩
 |.eN cs,_,h=>by obtain⟨vs,rfl,h⟩:=h;exact⟨vs,rfl,au.later cs h⟩
 |.gM f cs,_,h=>by obtain⟨vs,rfl,h⟩:=h;exact⟨vs,rfl,au.later cs h⟩
 |.c8 id ver,_,h=>by grind[lF]
 |.ptr id off,_,h=>by grind[lF]
 |.cR id ver j off,_,h=>by grind[lF]
 |.fQ row off,_,h=>by
  obtain⟨b,o,c,rfl,hs,hc,h⟩:=h;exact⟨b,o,c,rfl,(hl b hs).1,(hl b hs).2.1.trans hc,dm.later hl row h⟩
 |.full rows,_,h=>by
  obtain⟨a,rfl,h⟩:=h;refine⟨a,rfl,h.imp id ?_⟩;rintro⟨b,off,c,sz,ha,hs,hc,h1,h2⟩;exact⟨b,off,c,sz,ha,(hl b hs).1,(hl b hs).2.1.trans hc,h1,bM.later hl rows h2⟩
 |.Ay f cs,_,h=>by obtain⟨vs,rfl,h⟩:=h;exact⟨vs,rfl,au.later cs h⟩
 |.fr id,_,h=>by grind[lF]
 |.eT id i,_,h=>by grind[lF]
 |.kM rows,_,h=>by
  obtain⟨a,rfl,h⟩:=h;refine⟨a,rfl,h.imp id ?_⟩;rintro⟨b,off,c,sz,ha,hs,hc,h1,h2⟩;exact⟨b,off,c,sz,ha,(hl b hs).1,(hl b hs).2.1.trans hc,h1,bU.qN rows h2⟩
 |.iU _,_,h=>by grind[lF]
 |.dead,_,_=>by grind[lF]
theorem au.later:∀(xs:List AV) {vs:List Value},au S w ρ xs vs->au S' w' ρ' xs vs
 |[],_,h=>by grind[au]
 |x::xs,_,h=>by
  obtain⟨v,r,rfl,h1,h2⟩:=h;exact⟨v,r,rfl,lF.later x h1,au.later xs h2⟩
theorem bB.qN:∀(xs:List AV) {c:Array Value} {o:Nat},bB S w ρ xs c o->bB S' w' ρ' xs c o
 |[],_,_,h=>by grind[bB]
 |x::xs,_,_,h=>by
  obtain⟨⟨v,hv,h1⟩,h2⟩:=h;exact⟨⟨v,hv,lF.later x h1⟩,bB.qN xs h2⟩
theorem bU.qN:∀(rs:List (List AV)) {c:Array Value} {o:Nat},bU S w ρ rs c o->bU S' w' ρ' rs c o
 |[],_,_,h=>by grind[bU]
 |r::rs,_,_,h=>by
  exact⟨bB.qN r h.1,bU.qN rs h.2⟩
end
end
def Ref(γ:Nat->Option Nat)(S:Nat->Prop)(w:World)(h:List (Option Obj)):AV->Value->Prop
 |.c8 id d,v=>match aj h id with
  |some (.rows k rs g)=>(d<=g/\v.oneCell'=true)/\(d=g->∃a f,v=.slice a rs.length f/\rs.length<=f/\
    (f=0\/∃b c,γ id=some b/\a=some ⟨b,0,none⟩/\At w b=some c/\c.size=f*k))
  |some (.cw k rs g)=>(d<=g/\v.oneCell'=true)/\(d=g->∃a f,v=.slice a rs.length f/\rs.length<=f/\
    (f=0\/∃b c,γ id=some b/\a=some ⟨b,0,none⟩/\At w b=some c/\c.size=f*k))
  |some (.cL _ rs g)=>(d<=g/\v.oneCell'=true)/\(d=g->∃a f,v=.slice a rs.length f/\rs.length<=f/\
    (f=0\/∃b c,γ id=some b/\a=some ⟨b,0,none⟩/\At w b=some c/\c.size=f*1))
  |some (.eO rs g)=>(d<=g/\v.oneCell'=true)/\(d=g->aD S w (.sl rs []) v)
  |_=>False
 |.ptr id off,v=>match aj h id with
  |some (.cells _)=>∃b,γ id=some b/\v=.pointer (some ⟨b,off,none⟩)
  |some (.kX _ _)=>∃b,γ id=some b/\v=.pointer (some ⟨b,off,none⟩)
  |some (.eu _ _)=>∃b,γ id=some b/\v=.pointer (some ⟨b,off,none⟩)
  |_=>False
 |.cR id d j off,v=>match aj h id with
  |some (.rows k rs g)=>(d<=g/\v.oneCell'=true)/\(d=g->∃b,γ id=some b/\v=.pointer (some ⟨b,j.toNat*k+off,none⟩)/\0<=j/\j<rs.length)
  |some (.cw k rs g)=>(d<=g/\v.oneCell'=true)/\(d=g->∃b,γ id=some b/\v=.pointer (some ⟨b,j.toNat*k+off,none⟩)/\0<=j/\j<rs.length)
  |some (.cL _ rs g)=>(d<=g/\v.oneCell'=true)/\(d=g->∃b,γ id=some b/\v=.pointer (some ⟨b,j.toNat*1+off,none⟩)/\0<=j/\j<rs.length)
  |some (.eO rs g)=>(d<=g/\v.oneCell'=true)/\(d=g->∃b o c,v=.pointer (some ⟨b,o+off,none⟩)/\S b/\At w b=some c/\dm S w (rs.getD j.toNat []) c o/\0<=j/\j<rs.length)
  |_=>False
 |.fr id,v=>match aj h id with
  |some (.map ..)=>∃b,γ id=some b/\v=.map (some b)
  |some (.iw _)=>∃b,γ id=some b/\v=.map (some b)
  |_=>False
 |.eT id i,v=>match aj h id with
  |some (.map ..)=>v.oneCell'=true/\∃b l ck e,γ id=some b/\YB w b=some (l,ck)/\0<=i/\l[i.toNat]? =some e/\v=goInt e.born
  |_=>False
 |_,_=>True
def fM(S:Nat->Prop)(w:World)(ρ:AV->Value->Prop):List (B_×AV)->List MapEntry->Prop
 |[],es=>es=[]
 |(s,x)::r,es=>∃e t,es=e::t/\e.key=.string ⟨s.toArray⟩/\lF S w ρ x e.val/\fM S w ρ r t
theorem fM.later{S S':Nat->Prop}{w w':World}{ρ ρ':AV->Value->Prop}(hl:bf S w S' w')(hρ:∀x v,ρ x v->ρ' x v):∀{a:List (B_×AV)} {b:List MapEntry},fM S w ρ a b->fM S' w' ρ' a b
|[],_,h=>by grind[fM]
|(s,x)::r,_,h=>by obtain⟨e,t,rfl,h1,h2,c⟩:=h;exact⟨e,t,rfl,h1,lF.later hl hρ x h2,fM.later hl hρ c⟩
def akt(n:Nat)(a:Nat×Nat):Prop:=a=(0,0)\/n<=a.1
def DJ(w:World)(b:Nat)(c:Array Value)(e:TypeId):Prop:=∃a,akt c.size a/\w.heap[b]? =some (.cells c e a)
theorem DJ.of{w:World}(h:w.heap[b]? =some (.cells c e (0,0))):DJ w b c e:=⟨_,.inl rfl,h⟩
theorem DJ.trans{w w':World}{b:Nat}{c:Array Value}{e:TypeId}(h:DJ w b c e)(a:w'.heap[b]? =w.heap[b]?):DJ w' b c e:=by obtain⟨d,f,g⟩:=h;exact⟨d,f,a.trans g⟩
theorem DJ.at{w:World}(h:DJ w b c e):At w b=some c:=by obtain⟨a,d,f⟩:=h;grind[At]
def eK(γ:Nat->Option Nat)(S:Nat->Prop)(w:World)(ρ:AV->Value->Prop)(id:Nat):Obj->Prop
 |.cells cs=>∃b c e,γ id=some b/\w.heap[b]? =some (.cells c e (0,0))/\c.size=cs.length/\bB S w ρ cs c 0/\∀t r,cs=.iU t::r->e=t
 |.cL t rs _=>(γ id=none/\rs=[])\/∃b c,γ id=some b/\w.heap[b]? =some (.cells c t (0,0))/\rs.length*1<=c.size/\aK 1 rs/\bM S w rs c 0
 |.rows d rs _=>(γ id=none/\rs=[])\/∃b c e,γ id=some b/\DJ w b c e/\rs.length*d<=c.size/\aK d rs/\bM S w rs c 0
 |.cw d rs _=>(γ id=none/\rs=[])\/∃b c e,γ id=some b/\DJ w b c e/\rs.length*d<=c.size/\(∀r∈rs,r.length=d)/\bU S w ρ rs c 0
 |.eO _ _=>True
 |.map f g kn rows=>∃b a ck,γ id=some b/\w.heap[b]? =some (.map a ck)/\gm a.toList ck/\bV S w f g kn rows a.toList
 |.iw rows=>∃b a ck,γ id=some b/\w.heap[b]? =some (.map a ck)/\gm a.toList ck/\fM S w ρ rows a.toList
 |.kX s pos=>∃b,γ id=some b/\w.heap[b]? =some (.stringIter ⟨s.toArray⟩ pos.toNat)/\0<=pos
 |.eu src seen=>match src with
  |.oh=>∃b,γ id=some b/\w.heap[b]? =some (.mapIter none 0 #[] 0)
  |.mp f g kn rows=>∃b h a ck j,γ id=some b/\w.heap[b]? =some (.mapIter (some h) ck j ck)/\S h/\YB w h=some (a,ck)/\gm a.toList ck/\bV S w f g kn rows a.toList/\
    (∀i e,a[i]? =some e->j.contains e.born=seen.contains i)/\∀i r,seen=i::r->∃e,a[i]? =some e/\j.back? =some e.born
  |_=>False
structure dW(w0:World)(own0:Nat->Prop)(hvs:List Value×List Deferred)(G:Nat->Option (List PV))(γ:Nat->Option Nat)(S:Nat->Prop)(st:St)(a:Act)(w:World):Prop where
 size:st.slots.length=a.tmps.size
 slot:∀i,lF S w (Ref γ S w st.mem) (st.slot i) (a.tmps.getD i undef)
 held:au S w (Ref γ S w st.mem) st.held hvs.1
 defers:a.defers=hvs.2
 mem:∀id ob,aj st.mem id=some ob->eK γ S w (Ref γ S w st.mem) id ob
 lU:∀i b,γ i=some b->aj st.mem i≠none
 inj:∀i j b,γ i=some b->γ j=some b->i=j
 own:∀i b,γ i=some b->¬S b/\(w0.heap.size<=b\/own0 b)
 bound:∀b,S b->b<w.heap.size
 eJ:∀i b,γ i=some b->b<w.heap.size
 jn:∀g row,G g=some row->S g/\∃c,At w g=some c/\dm S w row c 0/\c.size=row.length
 kept:∀b,b<w0.heap.size->¬own0 b->w.heap[b]? =w0.heap[b]?
 os:w.os=w0.os
 tape:w.tape=w0.tape
 output:w.output=w0.output
 eY:w0.heap.size<=w.heap.size
def ft(w0:World)(own0:Nat->Prop)(hvs:List Value×List Deferred)(G:Nat->Option (List PV))(S0:Nat->Prop)(st:St)(a:Act)(w:World):Prop:=
 ∃γ S,(∀b,S0 b->S b)/\(∀b,S b->S0 b\/w0.heap.size<=b\/own0 b)/\dW w0 own0 hvs G γ S st a w
theorem qO{S:Nat->Prop}{w:World}(h:k9 v=some p):aD S w p v:=by unfold k9 at h;split at h;{grind[aD]};{grind[aD]};{grind[aD]};{grind[aD]};{grind[aD]};{grind[aD]};{grind[aD]};{grind[aD]};{split at h;{rename_i a b;cases h;simp_all[aD,aM]};cases h};cases h
theorem H0(h:uh v=some (.sl [] [])):v=.slice none 0 0:=by unfold uh at h;split at h;{grind};unfold k9 at h;grind
theorem tB{S:Nat->Prop}{w:World}:∀{a:List Value} {ps:List PV},jx a=some ps->aM S w ps a
|[],ps,h=>by grind[jx,aM]
|v::r,ps,h=>by simp[jx]at h;cases h1:k9 v with|none=>simp_all|some p=>cases h2:jx r with|none=>simp_all|some q=>simp[h1,h2]at h;subst h;exact⟨v,r,rfl,qO h1,tB h2⟩
theorem u9{S:Nat->Prop}{w:World}(h:uh v=some p):aD S w p v:=by unfold uh at h;split at h;{grind[aD,tB]};exact qO h
section
variable {w0:World} {own0:Nat->Prop} {hvs:List Value×List Deferred} {G:Nat->Option (List PV)} {S:Nat->Prop} {a:Act} {w:World}
theorem dW.fR(h:dW w0 own0 hvs G γ S st a w){o:Operand}{x:bR}(b:aZ G o=some x): lF S w (Ref γ S w st.mem) (st.ev x) (a.eval o):=by cases o with|tmp t=>simp[aZ]at b;subst b;exact h.slot t|const v=>{simp only[aZ]at b;cases d:uh v with|none=>simp_all|some p=>simp[d]at b;subst b;have i:aD S w p v:=u9 d;show lF S w (Ref γ S w st.mem) (st.ev (.k p)) v;by_cases l:p=.sl [] [];{grind[H0,St.ev,lF]};have e:st.ev (.k p)=.pv p:=by{unfold St.ev;split;{simp_all};{simp_all};{simp_all};simp_all};grind[lF]}|global g=>{simp only[aZ]at b;cases j:G g with|none=>simp_all|some row=>obtain⟨hs,c,m,i,_⟩:=h.jn g row j;grind[St.ev,lF,Act.eval]}|func f=>grind[aZ,St.ev,lF,aD,aM,Act.eval]
theorem dW.put(h:dW w0 own0 hvs G γ S st a w)(d:Option Nat){v:AV}{u:Value}(c:lF S w (Ref γ S w st.mem) v u): dW w0 own0 hvs G γ S (st.put d v) (a.put d u) w:=by cases d with|none=>exact h|some d=>refine{h with size:=?_,slot:=?_,held:=h.held,defers:=h.defers};{simp[St.put,Act.put,h.size]};intro i;have e:=h.slot i;simp only[St.put,Act.put,St.slot]at*;by_cases f:i=d;{by_cases b:i<st.slots.length;{have g:i<a.tmps.size:=h.size▸b;simp_all};have j:st.slots.set i v=st.slots:=List.set_eq_of_length_le o_;have k:a.tmps.setIfInBounds i u=a.tmps:=Array.setIfInBounds_eq_of_size_le (by rw[<-h.size];omega);simp_all};simp_all[Ne.symm]
end
def JK:List PV->List PV->Bool
 |[],[]=>true
 |.bool a::r,.bool b::s=>(a==b)&&JK r s
 |.int _ a::r,.int _ b::s=>(a==b)&&JK r s
 |.str a::r,.str b::s=>(a==b)&&JK r s
 |_,_=>false
def aR:List Nat->List PV->List PV->Prop
 |[],[],[]=>True
 |0::sh,.bool _::r,.bool _::s=>aR sh r s
 |1::sh,.int k _::r,.int a _::s=>k=a/\aR sh r s
 |2::sh,.str _::r,.str _::s=>aR sh r s
 |_,_,_=>False
def fS(a:Nat)(rows:R_):Prop:=∀r∈rows,r.length=a/\∀p∈r,(AV.pv p).one=true
def dQ(kn:Nat)(rows:R_)(k:List PV):Bool:=rows.any fun r=>JK k (r.take kn)
def gZ(kn:Nat)(rows:R_)(k:List PV):Nat:=rows.findIdx fun r=>JK k (r.take kn)
def jy(kn:Nat)(rows:R_)(k z:List PV):List PV:=
 match rows.find? fun r=>JK k (r.take kn)with
 |some r=>r.drop kn
 |none=>z
def jz(g:Bool)(ps:List PV):PV:=match g with|true=>.agg ps|false=>ps.headD .mh
def aF:Ar:={
 wrap:=IntKind.wrap
 add:=(·+·)
 sub:=(·-·)
 mul:=(·*·)
 quo:=Int.tdiv
 rem:=Int.tmod
 bits op k x y:=
  let a:=BitVec.ofInt k.bits x
  let b:=BitVec.ofInt k.bits y
  k.wrap ((match op with|.and=>(a&&&b)|.or=>(a|||b)|.xor=>(a^^^b)|_=>(a&&&~~~b)).toNat:Nat)
 shl k x y:=k.wrap (x*2^(min y.toNat k.bits))
 shr k x y:=x.fdiv (2^(min y.toNat k.bits))
 lt a b:=decide (a<b)
 le a b:=decide (a<=b)
 eq a b:=decide (a=b)
 not b:= !b
 min a b:=if b<a then b else a
 max a b:=if b>a then b else a
 nz n:=n≠0
 CY n:=0<=n
 ofNat n:=n
 wY s:=s.length
 sat s j:=((s.getD j.toNat 0).toNat:Nat)
 sin j s:=0<=j/\j<s.length
 Lm a b:=a++b
 Ln a b:=a.length+b.length<=9223372036854775807
 Lp s l h:=(s.drop l.toNat).take (h.toNat-l.toNat)
 sbd l h s:=0<=l/\l<=h/\h<=s.length
 seq a b:=decide (a=b)
 slt a b:=Op.bytesLess a b
 mi rows:=rows.length
 rat rows j:=rows.getD j.toNat []
 tu j rows d:=0<=j/\j<rows.length/\(rows.getD j.toNat []).length=d
 oi a b:=a++b
 oj xs ys bytes d:=(xs.length+ys.length+256)*bytes<=2^46/\xs.length+ys.length<=2^46/\fS d ys/\aK d xs
 Qn xs ys:=xs=[]\/ys≠[]
 Xf:=JK
 HP:=aR
 bytes s:=s.map fun b=>[.u (b.toNat:Nat)]
 gN rows:=rows.map fun r=>match r with|[.int _ n]=>UInt8.ofNat n.toNat|_=>0
 qE rows:=∀r∈rows,∃n,r=[.u n]
 uS rows l h:=(rows.drop l.toNat).take (h.toNat-l.toNat)
 Xg l h rows spare d:=0<=l/\l<=h/\h<=rows.length+spare.length/\(l=0\/aK d (rows++spare))
 wZ l h rows d:=0<=l/\l<=h/\h<=rows.length/\(l=0\/aK d rows)
 Gt rows j off ys:=rows.set j.toNat (jL off ys (rows.getD j.toNat []))
 AK n z:=List.replicate n.toNat z
 WD l c bytes:=0<=l/\l<=c/\c*bytes<=2^47/\c<=2^47
 aat rs j:=rs.getD j.toNat []
 ain j rs d:=0<=j/\j<rs.length/\(rs.getD j.toNat []).length=d
 Lq rs j off ys:=rs.set j.toNat (place off ys (rs.getD j.toNat []))
 yT a b:=a++b
 AL xs ys bytes d:=(xs.length+ys.length+256)*bytes<=2^46/\xs.length+ys.length<=2^46/\(∀r∈ys,r.length=d/\kE r=true)/\(∀r∈xs,r.length=d)
 Lr rs:=rs.length
 off j d:=j.toNat*d
 PS j n:=0<=j/\j<n
 CZ sh kn rows k:=k.length=kn/\aR sh k k/\∀r∈rows,aR sh k (r.take kn)
 yU:=dQ
 HR:=jy
 xJ kn rows k z:=(jy kn rows k z).headD .mh
 mix kn rows k:=(gZ kn rows k:Nat)
 HS kn rows k v:=match dQ kn rows k with|true=>rows.modify (gZ kn rows k) (fun _=>k++v)|false=>rows++[k++v]
 sK kn rows k z:=match dQ kn rows k with|true=>rows|false=>rows++[k++z]
 PT kn rows i v:=rows.modify i.toNat (fun r=>r.take kn++v)
 min1 i rows:=0<=i/\i<rows.length
 mleft seen rows i:=i<rows.length/\seen.contains i=false
 AM seen rows:=(List.range rows.length).all fun i=>seen.contains i
 Ls e kn rows i:=jz e ((rows.getD i []).take kn)
 Lt f kn rows i:=jz f ((rows.getD i []).drop kn)
 rune s pos:=(Utf8.decode ⟨s.toArray⟩ pos.toNat).1
 C0 s pos:=((Utf8.decode ⟨s.toArray⟩ pos.toNat).2:Nat)
 Lu a b:=a+b
 }
section
variable (P:Program) (w0:World) (own0:Nat->Prop) (hvs:List Value×List Deferred) (G:Nat->Option (List PV)) (S0:Nat->Prop)
def oo(o:Oper)(a:Act)(w:World)(st':St)(v:AV):Prop:=
 ∃u w' γ' S',((execOp a.eval o).run P w=.ok (.value u) w'\/((execOp a.eval o).run P w=.ok .skip w'/\u=undef))/\
  (∀b,S0 b->S' b)/\(∀b,S' b->S0 b\/w0.heap.size<=b\/own0 b)/\dW w0 own0 hvs G γ' S' st' a w'/\lF S' w' (Ref γ' S' w' st'.mem) v u
def ep(o:Oper)(a:Act)(w:World)(st:St)(kn:Nat)(γ:Nat->Option Nat)(S:Nat->Prop):Out->Prop
 |.bad=>True
 |.val v=>oo P w0 own0 hvs G S0 o a w st v
 |.dG p v=>p->oo P w0 own0 hvs G S0 o a w st v
 |.dp id b v=>oo P w0 own0 hvs G S0 o a w (st.aq id b) v
 |.qe p id b v=>p->oo P w0 own0 hvs G S0 o a w (st.aq id b) v
 |.new b v=>aj st.mem kn=none->kn<=st.mem.length->oo P w0 own0 hvs G S0 o a w (st.aq kn b) v
 |.jK p b v=>aj st.mem kn=none->kn<=st.mem.length->p->oo P w0 own0 hvs G S0 o a w (st.aq kn b) v
 |.call f args=>∃c:List Value,(execOp a.eval o).run P w=(callFunc f c.toArray).run P w/\au S w (Ref γ S w st.mem) args c
 |.all p id b v=>∃i,p i/\oo P w0 own0 hvs G S0 o a w (st.aq id (b i)) (v i)
def cj(o:Oper)(a:Act)(w:World)(st:St)(kn:Nat)(γ:Nat->Option Nat)(S:Nat->Prop):sE->Prop
 |.pure out=>ep P w0 own0 hvs G S0 o a w st kn γ S out
 |.rd id k=>∀b,aj st.mem id=some b->ep P w0 own0 hvs G S0 o a w st kn γ S (k b)
end
section
variable {P:Program} {w0:World} {own0:Nat->Prop} {hvs:List Value×List Deferred} {G:Nat->Option (List PV)} {S0:Nat->Prop} {accs:List Nat} {S:Nat->Prop} {a:Act} {w:World} {o:Oper} {kn:Nat} (h:dW w0 own0 hvs G γ S st a w) (bg:∀b,S0 b->S b) (Cy:∀b,S b->S0 b\/w0.heap.size<=b\/own0 b)
section
include h bg Cy
theorem aG{u:Value}{v:AV}(b:(execOp a.eval o).run P w=.ok (.value u) w)(c:lF S w (Ref γ S w st.mem) v u):oo P w0 own0 hvs G S0 o a w st v:=⟨u,w,γ,S,.inl b,bg,Cy,h,c⟩
theorem Qs{c:bR}(b:o.op=.move x\/o.op=.assign x)(d:aZ G x=some c): cj P w0 own0 hvs G S0 o a w st kn γ S (KA aF kn (.mv c) st.ev):=by refine aG h bg Cy (u:=a.eval x) ?_ (h.fR d);rcases b with b|b<;>simp[execOp,b]
theorem Lz{c y:Operand}{e f g:bR}(l:o.op=.pick c x y)(i:aZ G c=some e)(j:aZ G x=some f)(k:aZ G y=some g): cj P w0 own0 hvs G S0 o a w st kn γ S (KA aF kn (.pick e f g) st.ev):=by simp[KA];have b:=h.fR i;split;{rename_i d;rw[d]at b;simp[lF,aD]at b;exact aG h bg Cy (u:=a.eval x) (by simp_all[execOp,asBool]) (h.fR j)};{rename_i d;rw[d]at b;simp[lF,aD]at b;exact aG h bg Cy (u:=a.eval y) (by simp_all[execOp,asBool]) (h.fR k)};trivial
theorem S5{d:TypeId}{b:bR}{k e:IntKind}(i:o.op=.convert s d x)(hs:P.underlying s=some (.int e))(j:P.underlying d=some (.int k))(f:aZ G x=some b): cj P w0 own0 hvs G S0 o a w st kn γ S (KA aF kn (.Wt k b) st.ev):=by simp[KA];have c:=h.fR f;split;{rename_i n g;rw[g]at c;simp[lF,aD]at c;exact aG h bg Cy (u:=.int k (k.wrap n)) (by simp_all[execOp,convert,run_underlying,Conv.intToInt]) r_};trivial
theorem Xk{d:UnOp}{e:bR}(g:o.op=.unOp d t x)(f:aZ G x=some e): cj P w0 own0 hvs G S0 o a w st kn γ S (KA aF kn (.un d e) st.ev):=by simp[KA,Lv];have b:=h.fR f;split;{rename_i c;rw[c]at b;simp[lF,aD]at b;exact aG h bg Cy (u:=.bool false) (by simp_all[execOp,Op.unary]) r_};{rename_i c;rw[c]at b;simp[lF,aD]at b;exact aG h bg Cy (u:=.bool true) (by simp_all[execOp,Op.unary]) r_};{rename_i k n c;rw[c]at b;simp[lF,aD]at b;exact aG h bg Cy (u:=.int k (k.wrap (0-n))) (by simp_all[execOp,Op.unary,Op.intArith]) r_};trivial
theorem S6{g:bR}(q:o.op=.extract x i)(k:aZ G x=some g): cj P w0 own0 hvs G S0 o a w st kn γ S (KA aF kn (.ext g i) st.ev):=by simp[KA];have c:=h.fR k;split;{rename_i d e;rw[e]at c;obtain⟨b,l,hl⟩:=c;split;{rename_i v f;have key:∀(ps:List PV) (b:List Value) (i:Nat) (v:PV),aM S w ps b->ps[i]? =some v->∃u,b[i]? =some u/\aD S w v u:=by{intro ps;induction ps with|nil=>simp_all|cons p ps m=>grind[aM]};obtain⟨u,n,j⟩:=key d b i v hl f;exact aG h bg Cy (u:=u) (by simp_all[execOp,Instr.extract]) (by grind[lF])};trivial};{rename_i d e;rw[e]at c;obtain⟨b,l,hl⟩:=c;split;{rename_i v f;have key:∀(ps:List AV) (b:List Value) (i:Nat) (v:AV),au S w (Ref γ S w st.mem) ps b->ps[i]? =some v->∃u,b[i]? =some u/\lF S w (Ref γ S w st.mem) v u:=by{intro ps;induction ps with|nil=>simp_all|cons p ps m=>grind[au]};obtain⟨u,n,j⟩:=key d b i v hl f;exact aG h bg Cy (u:=u) (by simp_all[execOp,Instr.extract]) j};trivial};trivial
theorem S7{i:Operand}{b c:bR}(n:o.op=.index t x i)(p:P.underlying t=some .string)(f:aZ G x=some b)(g:aZ G i=some c): cj P w0 own0 hvs G S0 o a w st kn γ S (KA aF kn (.SL b c) st.ev):=by simp[KA];have d:=h.fR f;have e:=h.fR g;split;{rename_i s k j l m;rw[l]at d;rw[m]at e;simp[lF,aD]at d e;rintro⟨q,r⟩;refine aG h bg Cy (u:=.u (s.getD j.toNat 0).toNat) ?_ r_;have v:(ByteArray.mk s.toArray)[j.toNat]? =some s[j.toNat]:=by{rw[getElem?_pos _ _ (by grind[ByteArray.size])];rfl};simp_all[execOp,Instr.index,asIntOf,run_underlying]};trivial
theorem S8{b:bR}(g:o.op=.makeInterface t x)(c:∃d,P.underlying t=some d/\∀e,d≠.interface e)(f:aZ G x=some b)(i:∀y p v,AV.flat y=some p->lF S w (Ref γ S w st.mem) y v->aD S w p v): cj P w0 own0 hvs G S0 o a w st kn γ S (KA aF kn (.mif t b) st.ev):=by simp[KA];have j:=h.fR f;split;{obtain⟨d,k,l⟩:=c;refine aG h bg Cy (u:=.iface t (a.eval x)) ?_ (by grind[lF,aD]);simp_all[execOp,Instr.makeInterface,run_underlying]};trivial
theorem S9{y:bR}{z:Array Field}{q:Field}{A:TypeInfo}(F:o.op=.fieldAddr s x f)(hs:P.underlying s=some (.struct z))(H:z[f]? =some q)(I:P.info? q.type=some A)(J:A.size≠0)(C:aZ G x=some y): cj P w0 own0 hvs G S0 o a w st kn γ S (KA aF kn (.pad y q.offset) st.ev):=by have k:∀b d,a.eval x=.pointer (some ⟨b,d,none⟩)->(execOp a.eval o).run P w=.ok (.value (.pointer (some ⟨b,d+q.offset,none⟩))) w:=by{simp_all[execOp,Instr.fieldAt,run_underlying,Instr.sureAddr,fieldPlace,sizeOf,typeInfo,Addr.add]};simp[KA];have e:=h.fR C;split;{rename_i id d m;rw[m]at e;simp[lF,Ref]at e;split at e;{obtain⟨b,i,g⟩:=e;refine aG h bg Cy (k b d g) ?_;grind[lF,Ref]};{obtain⟨b,i,g⟩:=e;refine aG h bg Cy (k b d g) ?_;grind[lF,Ref]};{obtain⟨b,i,g⟩:=e;refine aG h bg Cy (k b d g) ?_;grind[lF,Ref]};simp_all};{rename_i row d m;rw[m]at e;obtain⟨b,B,c,g,i,t,u⟩:=e;refine aG h bg Cy (k b _ g) ?_;grind[lF]};{rename_i id n j d m;rw[m]at e;simp only[lF,Ref]at e;intro D r;simp only[r]at e;cases D with|cells cs=>trivial|map=>trivial|iw=>trivial|kX=>trivial|cL=>trivial|eu=>trivial|rows E rs p=>by_cases l:n=p;{subst l;simp;obtain⟨b,i,g,v⟩:=e.2 rfl;refine aG h bg Cy (k b _ g) ?_;simp only[lF,Ref,r];exact⟨⟨qak _,rfl⟩,fun _=>⟨b,i,g_,v⟩⟩};simp[qar.2 l];trivial|cw E rs p=>by_cases l:n=p;{subst l;simp;obtain⟨b,i,g,v⟩:=e.2 rfl;refine aG h bg Cy (k b _ g) ?_;simp only[lF,Ref,r];exact⟨⟨qak _,rfl⟩,fun _=>⟨b,i,g_,v⟩⟩};simp[qar.2 l];trivial|eO rs p=>by_cases l:n=p;{subst l;simp;obtain⟨b,B,c,g,i,t,u⟩:=e.2 rfl;refine aG h bg Cy (k b _ g) ?_;simp only[lF,Ref,r];exact⟨⟨qak _,rfl⟩,fun _=>⟨b,B,c,g_,i,t,u⟩⟩};simp[qar.2 l];trivial};{rename_i row m;rw[m]at e;obtain⟨b,d,c,g,i,t,u⟩:=e;refine aG h bg Cy (k b _ g) ?_;grind[lF]};trivial
end
theorem kP(s:B_):(ByteArray.mk s.toArray).toList=s:=by rw[ByteArray.toList_eq]
theorem AY(a:BinOp)(t:TypeId)(x y:Operand)(b:(isConst x||isConst y)=true):(eqGuard a t x y .nilIface .nilIface).run P w=.ok () w:=by cases a<;>first|rfl|(cases x<;>cases y<;>first|rfl|exact Bool.noConfusion b)
theorem C3{u:TypeId}{v:Value}{a:Array (String×TypeId)}(d:Nat)(b:P.underlying t=some (.interface a)):(Op.equalIn (d+1) t .nilIface .nilIface).run P w=.ok true w:=by simp[Op.equalIn,run_underlying b]
theorem mP{u:TypeId}{v:Value}{a:Array (String×TypeId)}(b:P.underlying t=some (.interface a)):(Op.equal t .nilIface .nilIface).run P w=.ok true w:=C3 (u:=u) (v:=v) 9999 b
theorem C4{u:TypeId}{a:Array (String×TypeId)}(d:Nat)(b:P.underlying t=some (.interface a)):(Op.equalIn (d+1) t .nilIface (.iface u v)).run P w=.ok false w:=by simp[Op.equalIn,run_underlying b]
theorem mQ{u:TypeId}{a:Array (String×TypeId)}(b:P.underlying t=some (.interface a)):(Op.equal t .nilIface (.iface u v)).run P w=.ok false w:=C4 (u:=u) (v:=v) 9999 b
theorem C5{u:TypeId}{a:Array (String×TypeId)}(d:Nat)(b:P.underlying t=some (.interface a)):(Op.equalIn (d+1) t (.iface u v) .nilIface).run P w=.ok false w:=by simp[Op.equalIn,run_underlying b]
theorem mR{u:TypeId}{a:Array (String×TypeId)}(b:P.underlying t=some (.interface a)):(Op.equal t (.iface u v) .nilIface).run P w=.ok false w:=C5 (u:=u) (v:=v) 9999 b
theorem fE:∀(x:AV) {p:PV} {v:Value},AV.flat x=some p->lF S w (Ref γ S w st.mem) x v->aD S w p v:=by have e:∀(a:List AV) {ps:List PV} {b:List Value},AV.lQ a=some ps->au S w (Ref γ S w st.mem) a b->aM S w ps b:=by{intro a;induction a with|nil=>grind[AV.lQ,au,aM]|cons c a g=>intro ps b h d;simp[au]at d;cases c with|pv p=>grind[AV.lQ,lF,aM]|full rows=>grind[AV.lQ,lF,aM,aD,aK,bM]|_=>grind[AV.lQ]};intro x p v i d;cases x with|pv q=>grind[AV.flat,lF]|full rows=>grind[AV.flat,lF,aD,aK,bM]|agg a=>grind[AV.flat,lF,aD]|gM f a=>grind[AV.flat,lF,aD]|_=>grind[AV.flat]
section
include h bg Cy
theorem C6{c:BinOp}{y:Operand}{k d:IntKind}{m n:Int}(j:o.op=.binOp c t x y e)(l:a.eval x=.int k m)(q:a.eval y=.int d n):
  ep P w0 own0 hvs G S0 o a w st kn γ S (match(generalizing:=false) c with
   |.shl=>.dG (aF.CY n) (.pv (.int k (aF.shl k m n)))
   |.shr=>.dG (aF.CY n) (.pv (.int k (aF.shr k m n)))
   |c=>if k=d then uT aF c k m n else .bad):=by
 have r:∀c,(eqGuard c t x y (.int k m) (.int d n)).run P w=.ok () w:=by simp_all[eqGuard]
 have f:∀v,(binOp c t (.int k m) (.int d n)).run P w=.ok v w->(execOp a.eval o).run P w=.ok (.value v) w:=by
  grind[execOp,Sem.run_bind,Result.andThen_ok,Sem.run_pure]
 have done:∀v p,(binOp c t (.int k m) (.int d n)).run P w=.ok v w->aD S w p v->oo P w0 own0 hvs G S0 o a w st (.pv p):=
  fun v p g s=>aG h bg Cy (f v g) (by grind[lF])
 by_cases i:k=d
 ·subst i
  cases c with
  |shl=>intro b;exact done _ _ (by simp only[aF]at b;simp only[binOp,Op.shift];rw[qai o_];rfl) r_
  |shr=>intro b;exact done _ _ (by simp only[aF]at b;simp only[binOp,Op.shift];rw[qai o_];rfl) r_
  |add=>show ep P w0 own0 hvs G S0 o a w st kn γ S (if k=k then _ else _);rw[qao rfl];exact done _ _ (by simp only[binOp,ne_eq,qa5,qaW,Op.intArith];rfl) r_
  |sub=>show ep P w0 own0 hvs G S0 o a w st kn γ S (if k=k then _ else _);rw[qao rfl];exact done _ _ (by simp only[binOp,ne_eq,qa5,qaW,Op.intArith];rfl) r_
  |mul=>show ep P w0 own0 hvs G S0 o a w st kn γ S (if k=k then _ else _);rw[qao rfl];exact done _ _ (by simp only[binOp,ne_eq,qa5,qaW,Op.intArith];rfl) r_
  |quo=>show ep P w0 own0 hvs G S0 o a w st kn γ S (if k=k then _ else _);rw[qao rfl];intro b;exact done _ _ (by simp only[aF]at b;simp only[binOp,ne_eq,qa5,qaW,Op.intDiv,b];rfl) r_
  |rem=>show ep P w0 own0 hvs G S0 o a w st kn γ S (if k=k then _ else _);rw[qao rfl];intro b;exact done _ _ (by simp only[aF]at b;simp only[binOp,ne_eq,qa5,qaW,Op.intDiv,b];rfl) r_
  |lss=>show ep P w0 own0 hvs G S0 o a w st kn γ S (if k=k then _ else _);rw[qao rfl];exact done _ _ (by simp only[binOp,ne_eq,qa5,qaW,Op.intCmp];rfl) r_
  |leq=>show ep P w0 own0 hvs G S0 o a w st kn γ S (if k=k then _ else _);rw[qao rfl];exact done _ _ (by simp only[binOp,ne_eq,qa5,qaW,Op.intCmp];rfl) r_
  |gtr=>show ep P w0 own0 hvs G S0 o a w st kn γ S (if k=k then _ else _);rw[qao rfl];exact done _ _ (by simp only[binOp,ne_eq,qa5,qaW,Op.intCmp];rfl) r_
  |geq=>show ep P w0 own0 hvs G S0 o a w st kn γ S (if k=k then _ else _);rw[qao rfl];exact done _ _ (by simp only[binOp,ne_eq,qa5,qaW,Op.intCmp];rfl) r_
  |eql=>show ep P w0 own0 hvs G S0 o a w st kn γ S (if k=k then _ else _);rw[qao rfl];exact done (.bool (m==n)) _ (by simp_all[binOp,Op.intCmp]) r_
  |neq=>show ep P w0 own0 hvs G S0 o a w st kn γ S (if k=k then _ else _);rw[qao rfl];exact done (.bool (m !=n)) _ (by simp_all[binOp,Op.intCmp]) r_
  |and=>show ep P w0 own0 hvs G S0 o a w st kn γ S (if k=k then _ else _);rw[qao rfl];exact done _ _ (by simp only[binOp,ne_eq,qa5,qaW,Op.intBits];rfl) r_
  |or=>show ep P w0 own0 hvs G S0 o a w st kn γ S (if k=k then _ else _);rw[qao rfl];exact done _ _ (by simp only[binOp,ne_eq,qa5,qaW,Op.intBits];rfl) r_
  |xor=>show ep P w0 own0 hvs G S0 o a w st kn γ S (if k=k then _ else _);rw[qao rfl];exact done _ _ (by simp only[binOp,ne_eq,qa5,qaW,Op.intBits];rfl) r_
  |andNot=>show ep P w0 own0 hvs G S0 o a w st kn γ S (if k=k then _ else _);rw[qao rfl];exact done _ _ (by simp only[binOp,ne_eq,qa5,qaW,Op.intBits];rfl) r_
 ·cases c with
  |shl=>intro b;exact done _ _ (by simp only[aF]at b;simp only[binOp,Op.shift];rw[qai o_];rfl) r_
  |shr=>intro b;exact done _ _ (by simp only[aF]at b;simp only[binOp,Op.shift];rw[qai o_];rfl) r_
  |_=>grind[ep]
theorem C7{b:BinOp}{c:TypeId}{y:Operand}{m n:B_}(e:o.op=.binOp b t x y c)(f:a.eval x=.string ⟨m.toArray⟩)(g:a.eval y=.string ⟨n.toArray⟩): ep P w0 own0 hvs G S0 o a w st kn γ S (uU aF b m n):=by have i:∀b,(eqGuard b t x y (.string ⟨m.toArray⟩) (.string ⟨n.toArray⟩)).run P w=.ok () w:=by{simp_all[eqGuard]};have done:∀v p,(binOp b t (.string ⟨m.toArray⟩) (.string ⟨n.toArray⟩)).run P w=.ok v w->aD S w p v->oo P w0 own0 hvs G S0 o a w st (.pv p):=fun v p j k=>aG h bg Cy (u:=v) (by grind[execOp,Sem.run_bind,Result.andThen_ok,Sem.run_pure]) (by grind[lF]);have l:IntKind.i64.max=9223372036854775807:=d_;unfold uU;split;{intro d;refine done (.string (⟨m.toArray⟩++⟨n.toArray⟩)) _ ?_ ?_;{simp[aF]at d;simp only[binOp,Op.stringOp];rw[qai (by grind[ByteArray.size])];rfl};rfl};{exact done (.bool (m==n)) _ (by simp_all[binOp,Op.stringOp]) (by grind[aD,aF])};{exact done (.bool (!(m==n))) _ (by simp_all[binOp,Op.stringOp]) (by grind[aD,aF])};{exact done (.bool (Op.bytesLess m n)) _ (by simp_all[binOp,Op.stringOp]) r_};trivial
theorem aaE{b:BinOp}{d:TypeId}{y:Operand}{m n:Bool}(e:o.op=.binOp b t x y d)(c:P.underlying t=some .bool)(f:a.eval x=.bool m)(g:a.eval y=.bool n): ep P w0 own0 hvs G S0 o a w st kn γ S (uu b m n):=by have i:∀b,(eqGuard b t x y (.bool m) (.bool n)).run P w=.ok () w:=by{simp_all[eqGuard]};have done:∀v p,(binOp b t (.bool m) (.bool n)).run P w=.ok v w->aD S w p v->oo P w0 own0 hvs G S0 o a w st (.pv p):=fun v p j k=>aG h bg Cy (u:=v) (by grind[execOp,Sem.run_bind,Result.andThen_ok,Sem.run_pure]) (by grind[lF]);unfold uu;split;{exact done _ _ (run_eql_bool _ t m n c) (by cases m<;>cases n<;>rfl)};{exact done _ _ (run_neq_bool _ t m n c) (by cases m<;>cases n<;>rfl)};trivial
theorem C8{b:BinOp}{j:TypeId}{y:Operand}{k:Array (String×TypeId)}(l:o.op=.binOp b t x y j)(i:P.underlying t=some (.interface k))(m:(isConst x||isConst y)=true)(p q:PV)(c:aD S w p (a.eval x))(d:aD S w q (a.eval y)):
  ep P w0 own0 hvs G S0 o a w st kn γ S (match(generalizing:=false) p,q with
   |.j8,.j8=>match(generalizing:=false) b with|.eql=>.val (.pv (.bool true))|.neq=>.val (.pv (.bool false))|_=>.bad
   |.j8,.iface ..=>match(generalizing:=false) b with|.eql=>.val (.pv (.bool false))|.neq=>.val (.pv (.bool true))|_=>.bad
   |.iface ..,.j8=>match(generalizing:=false) b with|.eql=>.val (.pv (.bool false))|.neq=>.val (.pv (.bool true))|_=>.bad
   |_,_=>.bad):=by
 have done:∀v p,((do eqGuard b t x y (a.eval x) (a.eval y);binOp b t (a.eval x) (a.eval y)):Sem Value).run P w=.ok v w->aD S w p v->oo P w0 own0 hvs G S0 o a w st (.pv p):=
  fun v p n r=>aG h bg Cy (u:=v) (by simp only[execOp,l,Sem.run_bind,Sem.run_pure]at n ⊢;simp_all) (by grind[lF])
 have e:∀b,(eqGuard b t x y .nilIface .nilIface).run P w=.ok () w:=fun b=>AY b t x y m
 cases p with
 |j8=>
  cases q with
  |j8=>
   cases b<;>first|exact True.intro|skip
   ·exact done (.bool true) _ (by rw[c,d];simp[e,binOp,mP (u:=0) (v:=undef) i]) r_
   ·exact done (.bool false) _ (by rw[c,d];simp only[Sem.run_bind,e,Result.andThen_ok,binOp,mP (u:=0) (v:=undef) i,Sem.run_pure];rfl) r_
  |iface f pp=>
   simp[aD]at c d;obtain⟨g,d,_⟩:=d
   have e:∀b,(eqGuard b t x y .nilIface (.iface f g)).run P w=.ok () w:=by simp_all[eqGuard]
   cases b<;>first|exact True.intro|skip
   ·exact done (.bool false) _ (by grind[Sem.run_bind,Result.andThen_ok,binOp,mQ,Sem.run_pure]) r_
   ·exact done (.bool true) _ (by grind[Sem.run_bind,Result.andThen_ok,binOp,mQ,Sem.run_pure]) r_
  |_=>exact True.intro
 |iface f pp=>
  cases q with
  |j8=>
   simp[aD]at c d;obtain⟨g,c,_⟩:=c
   have e:∀b,(eqGuard b t x y (.iface f g) .nilIface).run P w=.ok () w:=by simp_all[eqGuard]
   cases b<;>first|exact True.intro|skip
   ·exact done (.bool false) _ (by grind[Sem.run_bind,Result.andThen_ok,binOp,mR,Sem.run_pure]) r_
   ·exact done (.bool true) _ (by grind[Sem.run_bind,Result.andThen_ok,binOp,mR,Sem.run_pure]) r_
  |_=>exact True.intro
 |_=>cases q<;>exact True.intro
end
end
theorem cell_of{w:World}(h:At w b=some c)(i:Nat):w.cell? ⟨b,i,none⟩=c[i]?:=by grind[At,World.cell?]
section
variable {S:Nat->Prop} {w:World} {ρ:AV->Value->Prop}
theorem dm.get:∀{ps:List PV} {c:Array Value} {o j:Nat} {p:PV},dm S w ps c o->ps[j]? =some p->∃v,c[o+j]? =some v/\aD S w p v
|[],_,_,_,_,_,h=>g_
|p::ps,c,o,0,q,a,h=>by grind[dm]
|p::ps,c,o,j+1,q,a,h=>by have:=dm.get (j:=j) a.2 (by simpa using h);grind
theorem dm.drop:∀{ps:List PV} {c:Array Value} {o:Nat} (k:Nat),dm S w ps c o->dm S w (ps.drop k) c (o+k)
|_,_,_,0,h=>a_
|[],_,_,k+1,_=>by grind[dm]
|p::ps,c,o,k+1,h=>by have:=dm.drop k h.2;grind
theorem dm.take:∀{ps:List PV} {c:Array Value} {o:Nat} (k:Nat),dm S w ps c o->dm S w (ps.take k) c o
|_,_,_,0,h=>by grind[dm]
|[],_,_,k+1,_=>a_
|p::ps,c,o,k+1,h=>by exact⟨h.1,dm.take k h.2⟩
theorem dm.list:∀{ps:List PV} {c:Array Value} {o:Nat},dm S w ps c o->∃a:List Value,aM S w ps a/\a.length=ps.length/\∀j v,a[j]? =some v->c[o+j]? =some v
|[],_,_,_=>⟨[],r_,rfl,s_⟩
|p::ps,c,o,h=>by obtain⟨⟨v,d,h1⟩,h2⟩:=h;obtain⟨a,e,b,f⟩:=dm.list h2;refine⟨v::a,by grind[aM],by simp[b],?_⟩;grind
theorem bB.get:∀{ps:List AV} {c:Array Value} {o j:Nat} {p:AV},bB S w ρ ps c o->ps[j]? =some p->∃v,c[o+j]? =some v/\lF S w ρ p v
|[],_,_,_,_,_,h=>g_
|p::ps,c,o,0,q,a,h=>by grind[bB]
|p::ps,c,o,j+1,q,a,h=>by have:=bB.get (j:=j) a.2 (by simpa using h);grind
theorem bB.drop:∀{ps:List AV} {c:Array Value} {o:Nat} (k:Nat),bB S w ρ ps c o->bB S w ρ (ps.drop k) c (o+k)
|_,_,_,0,h=>a_
|[],_,_,k+1,_=>by grind[bB]
|p::ps,c,o,k+1,h=>by have:=bB.drop k h.2;grind
theorem bB.take:∀{ps:List AV} {c:Array Value} {o:Nat} (k:Nat),bB S w ρ ps c o->bB S w ρ (ps.take k) c o
|_,_,_,0,h=>by grind[bB]
|[],_,_,k+1,_=>a_
|p::ps,c,o,k+1,h=>by exact⟨h.1,bB.take k h.2⟩
theorem bB.list:∀{ps:List AV} {c:Array Value} {o:Nat},bB S w ρ ps c o->∃a:List Value,au S w ρ ps a/\a.length=ps.length/\∀j v,a[j]? =some v->c[o+j]? =some v
|[],_,_,_=>⟨[],r_,rfl,s_⟩
|p::ps,c,o,h=>by obtain⟨⟨v,d,h1⟩,h2⟩:=h;obtain⟨a,e,b,f⟩:=bB.list h2;refine⟨v::a,by grind[au],by simp[b],?_⟩;grind
theorem au.length:∀{xs:List AV} {a:List Value},au S w ρ xs a->a.length=xs.length
|[],a,h=>by grind[au]
|x::xs,a,h=>by obtain⟨v,r,rfl,_,h2⟩:=h;simp[au.length h2]
theorem aM.length:∀{xs:List PV} {a:List Value},aM S w xs a->a.length=xs.length
|[],a,h=>by grind[aM]
|x::xs,a,h=>by obtain⟨v,r,rfl,_,h2⟩:=h;simp[aM.length h2]
theorem aM.av:∀{xs:List PV} {a:List Value},aM S w xs a->au S w ρ (xs.map .pv) a
|[],a,h=>by grind[aM,au]
|x::xs,a,h=>by obtain⟨v,r,rfl,h1,h2⟩:=h;exact⟨v,r,rfl,h1,aM.av h2⟩
def va(ρ:AV->Value->Prop):Prop:=∀x v,(match x with|.c8 ..|.ptr ..|.cR ..|.fr ..|.eT ..=>True|_=>False)->ρ x v->v.oneCell'=true
theorem aD.one{p:PV}{v:Value}(h1:(AV.pv p).one=true)(h:aD S w p v):v.oneCell'=true:=by cases p with|agg c=>grind[AV.one]|eN c=>grind[AV.one]|gM f ps=>obtain⟨d,rfl,_⟩:=h;rfl|iface t p=>obtain⟨d,rfl,_⟩:=h;rfl|sl r s=>obtain⟨a,c,rfl,_⟩:=h;rfl|ptr r=>obtain⟨a,c,b,rfl,_⟩:=h;rfl|mp=>obtain⟨a,c,b,rfl,_⟩:=h;rfl|_=>subst h;rfl
theorem lF.one(hρ:va ρ){x:AV}{v:Value}(h1:x.one=true)(h:lF S w ρ x v):v.oneCell'=true:=by cases x with|pv p=>grind[lF,aD.one]|agg c=>grind[AV.one]|eN c=>grind[AV.one]|dead=>grind[AV.one]|iU t=>grind[AV.one]|c8 id a=>exact hρ _ _ trivial h|ptr id a=>exact hρ _ _ trivial h|cR id a j o=>exact hρ _ _ trivial h|fQ r o=>obtain⟨b,d,c,rfl,_⟩:=h;rfl|full r=>obtain⟨b,rfl,_⟩:=h;rfl|gM f c=>obtain⟨b,rfl,_⟩:=h;rfl|Ay f c=>obtain⟨b,rfl,_⟩:=h;rfl|kM r=>obtain⟨b,rfl,_⟩:=h;rfl|fr id=>exact hρ _ _ trivial h|eT id i=>exact hρ _ _ trivial h
theorem pG(h:v.oneCell'=true):v.cells=#[v]:=by cases v<;>first|rfl|simp[Value.oneCell']at h
theorem lF.cells(hρ:va ρ){x:AV}{v:Value}(h1:kE x.cells=true)(h:lF S w ρ x v):au S w ρ x.cells v.cells.toList:=by cases x with|agg cs=>grind[lF,AV.cells,Value.cells]|pv p=>{cases p with|agg ps=>grind[lF,aD,AV.cells,Value.cells,aM.av]|eN ps=>grind[AV.cells,kE,AV.one]|_=>rw[pG (lF.one hρ r_ h)];grind[AV.cells,au]}|eN cs=>grind[AV.cells,kE,AV.one]|dead=>grind[AV.cells,kE,AV.one]|iU t=>grind[AV.cells,kE,AV.one]|_=>rw[pG (lF.one hρ r_ h)];grind[AV.cells,au]
theorem jX(γ:Nat->Option Nat)(c:List (Option Obj)):va (Ref γ S w c):=by intro x v d h;cases x with|c8 id a=>grind[Ref]|ptr id a=>{simp[Ref]at h;split at h<;>first|(obtain⟨b,_,rfl⟩:=h;rfl)|exact h.elim}|cR id a j o=>grind[Ref]|fr id=>{simp[Ref]at h;split at h<;>first|(obtain⟨b,_,rfl⟩:=h;rfl)|exact h.elim}|eT id i=>grind[Ref]|_=>simp_all
end
theorem uQ(a:d<=mem.length)(i:Nat): aj (qG mem d o) i=if i=d then some o else aj mem i:=by unfold qG;split;{grind[Nat.le_of_ble_eq_true,aj]};grind[Nat.ble_eq_true_of_le,aj]
theorem mS{a:List (Option Obj)}(h:aj a i=some o):i<a.length:=by grind[aj]
theorem bT{a:List (Option Obj)}(h:aj a i=some o):i<=a.length:=qcl (mS h)
theorem iD{w:World}{o:Go.Obj}(h:b<w.heap.size):(w.alloc o).heap[b]? =w.heap[b]?:=RowKit.Below.heap_alloc w o b h
theorem heap_alloc_new{w:World}{o:Go.Obj}:(w.alloc o).heap[w.heap.size]? =some o:=by show(w.heap.push o)[w.heap.size]? =_;simp
section
variable {S:Nat->Prop} {w:World} {ρ:AV->Value->Prop}
theorem bB.later(hl:bf S w S' w')(hρ:∀x v,ρ x v->ρ' x v){xs:List AV}{o:Nat}(h:bB S w ρ xs c o):bB S' w' ρ' xs c o:=bB.qN hl hρ xs h
theorem bU.later(hl:bf S w S' w')(hρ:∀x v,ρ x v->ρ' x v){xs:List (List AV)}{o:Nat}(h:bU S w ρ xs c o):bU S' w' ρ' xs c o:=bU.qN hl hρ xs h
theorem eK.later{γ γ':Nat->Option Nat}(hl:bf S w S' w')(hρ:∀x v,ρ x v->ρ' x v){id:Nat}{ob:Obj}(hγ:γ' id=γ id)(i:∀b,γ id=some b->w'.heap[b]? =w.heap[b]?)(h:eK γ S w ρ id ob):eK γ' S' w' ρ' id ob:=by cases ob with|cells cs=>obtain⟨b,c,e,a,d,f,g⟩:=h;exact⟨b,c,e,hγ.trans a,(i b a).trans d,f,bB.later hl hρ g.1,g.2⟩|cL t rs j=>{rcases h with⟨a,d⟩|⟨b,c,a,d,f,g,k⟩;{exact .inl ⟨hγ.trans a,d⟩};exact .inr ⟨b,c,hγ.trans a,(i b a).trans d,f,g,bM.later hl rs k⟩}|rows n rs j=>{rcases h with⟨a,d⟩|⟨b,c,e,a,d,f,g,k⟩;{exact .inl ⟨hγ.trans a,d⟩};exact .inr ⟨b,c,e,hγ.trans a,d.trans (i b a),f,g,bM.later hl rs k⟩}|cw n rs j=>{rcases h with⟨a,d⟩|⟨b,c,e,a,d,f,g,k⟩;{exact .inl ⟨hγ.trans a,d⟩};exact .inr ⟨b,c,e,hγ.trans a,d.trans (i b a),f,g,bU.later hl hρ k⟩}|eO rs j=>trivial|map r u kn rows=>obtain⟨b,l,ck,a,d,f,g⟩:=h;exact⟨b,l,ck,hγ.trans a,(i b a).trans d,f,bV.later hl rows g⟩|iw rows=>obtain⟨b,l,ck,a,d,f,g⟩:=h;exact⟨b,l,ck,hγ.trans a,(i b a).trans d,f,fM.later hl hρ g⟩|kX s pos=>obtain⟨b,a,d,f⟩:=h;exact⟨b,hγ.trans a,(i b a).trans d,f⟩|eu src seen=>simp only[eK]at h ⊢;split at h;{grind};{obtain⟨b,m,l,ck,o,a,d,f,g,k,p,q⟩:=h;exact⟨b,m,l,ck,o,hγ.trans a,(i b a).trans d,(hl m f).1,(hl m f).2.2.trans g,k,bV.later hl _ p,q⟩};exact h
end
def bI:AV->Option Nat
 |.c8 id _=>some id
 |.ptr id _=>some id
 |.cR id _ _ _=>some id
 |.fr id=>some id
 |.eT id _=>some id
 |_=>none
theorem Ref.sO{γ':Nat->Option Nat}{S:Nat->Prop}{w:World}{a g:List (Option Obj)}(hl:bf S w S' w')(x:AV)(v:Value)(m:∀id d,bI x=some id->aj a id=some d->aj g id=some d/\γ' id=γ id/\∀b,γ id=some b->At w' b=At w b/\YB w' b=YB w b)(h:Ref γ S w a x v):Ref γ' S' w' g x v:=by cases x with|c8 id q=>{simp only[Ref]at h ⊢;cases f:aj a id with|none=>simp_all|some d=>obtain⟨l,n,p⟩:=m id d rfl f;simp only[f]at h;simp only[l];cases d with|rows r rs k=>grind|cw r rs k=>grind|cL t rs k=>grind|eO rs k=>grind[aD.later]|_=>exact h}|ptr id off=>{simp[Ref]at h ⊢;cases f:aj a id with|none=>simp_all|some d=>obtain⟨l,n,p⟩:=m id d rfl f;simp_all}|cR id q j off=>{simp only[Ref]at h ⊢;cases f:aj a id with|none=>simp_all|some d=>obtain⟨l,n,p⟩:=m id d rfl f;simp only[f]at h;simp only[l];cases d with|rows r rs k=>simp_all|cw r rs k=>simp_all|cL t rs k=>simp_all|eO rs k=>refine⟨h.1,fun e=>?_⟩;obtain⟨b,o,c,s,hs,u,y,z⟩:=h.2 e;exact⟨b,o,c,s,(hl b hs).1,(hl b hs).2.1.trans u,dm.later hl _ y,z⟩|_=>exact h}|fr id=>{simp[Ref]at h ⊢;cases f:aj a id with|none=>simp_all|some d=>obtain⟨l,n,p⟩:=m id d rfl f;simp_all}|eT id i=>{simp only[Ref]at h ⊢;cases f:aj a id with|none=>simp_all|some d=>obtain⟨l,n,p⟩:=m id d rfl f;grind}|_=>grind[Ref]
theorem Ref.later{γ':Nat->Option Nat}{S:Nat->Prop}{w:World}{mem':List (Option Obj)}(hl:bf S w S' w')(a:∀id ob,aj mem id=some ob->aj mem' id=some ob/\γ' id=γ id/\∀b,γ id=some b->At w' b=At w b/\YB w' b=YB w b): ∀x v,Ref γ S w mem x v->Ref γ' S' w' mem' x v:=fun x v h=>Ref.sO hl x v (fun id ob _ c=>a id ob c) h
section
variable {P:Program} {w0:World} {own0:Nat->Prop} {hvs:List Value×List Deferred} {G:Nat->Option (List PV)} {S0:Nat->Prop} {accs:List Nat} {S:Nat->Prop} {a:Act} {w:World} {o:Oper} {kn:Nat} (h:dW w0 own0 hvs G γ S st a w) (bg:∀b,S0 b->S b) (Cy:∀b,S b->S0 b\/w0.heap.size<=b\/own0 b)
def dp(γ:Nat->Option Nat)(d:Nat)(b:Option Nat):Nat->Option Nat:=fun i=>if i=d then b else γ i
section
include h
theorem tD(c:Go.Obj):bf S w S (w.alloc c):=fun b a=>⟨a,dC (iD (h.bound b a))⟩
theorem dW.grow(k:∀b,b<w.heap.size->w'.heap[b]? =w.heap[b]?)(y:w.heap.size<=w'.heap.size)(p:w'.os=w.os)(q:w'.tape=w.tape)(r:w'.output=w.output)(m:∀b,S b->S' b)(n:∀b,S' b->S b\/(w.heap.size<=b/\b<w'.heap.size)): dW w0 own0 hvs G γ S' st a w'/\bf S w S' w'/\(∀x v,Ref γ S w st.mem x v->Ref γ S' w' st.mem x v):=by have hl:bf S w S' w':=fun b d=>⟨m b d,dC (k b (h.bound b d))⟩;have d:∀i b,γ i=some b->w'.heap[b]? =w.heap[b]?:=fun i b d=>k b (h.eJ i b d);have hρ:=Ref.later (γ:=γ) (γ':=γ) (mem:=st.mem) (mem':=st.mem) hl fun id f l=>⟨l,rfl,fun b s=>dC (d id b s)⟩;refine⟨?_,hl,hρ⟩;exact{size:=h.size,slot:=fun i=>lF.later hl hρ _ (h.slot i),held:=au.later hl hρ _ h.held,defers:=h.defers,mem:=fun id f l=>eK.later hl hρ rfl (d id) (h.mem id f l),lU:=h.lU,inj:=h.inj,own:=fun i b j=>by refine⟨fun hs=>?_,(h.own i b j).2⟩;rcases n b hs with e|e;{exact(h.own i b j).1 e};grind,bound:=fun b d=>by rcases n b d with e|e;{have:=h.bound b e;omega};omega,eJ:=fun i b d=>by have:=h.eJ i b d;omega,jn:=fun g row j=>by obtain⟨e,c,h2,h3,t⟩:=h.jn g row j;exact⟨m g e,c,((hl g e).2.1).trans h2,dm.later hl row h3,t⟩,kept:=fun b d u=>(k b (by have:=h.eY;omega)).trans (h.kept b d u),os:=p.trans h.os,tape:=q.trans h.tape,output:=r.trans h.output,eY:=by have:=h.eY;omega}
theorem dW.Gz(z:aj st.mem d=none)(o:d<=st.mem.length)(m:Obj)(go:Go.Obj)(A:(∀x v,Ref γ S w st.mem x v->Ref (dp γ d (some w.heap.size)) S (w.alloc go) (st.aq d m).mem x v)->bf S w S (w.alloc go)->eK (dp γ d (some w.heap.size)) S (w.alloc go) (Ref (dp γ d (some w.heap.size)) S (w.alloc go) (st.aq d m).mem) d m): dW w0 own0 hvs G (dp γ d (some w.heap.size)) S (st.aq d m) a (w.alloc go)/\ (∀x v,Ref γ S w st.mem x v->Ref (dp γ d (some w.heap.size)) S (w.alloc go) (st.aq d m).mem x v)/\bf S w S (w.alloc go):=by have hl:=tD h go;have l:∀i b,γ i=some b->(w.alloc go).heap[b]? =w.heap[b]?:=fun i b l=>iD (h.eJ i b l);have p:∀id f,aj st.mem id=some f->aj (st.aq d m).mem id=some f/\dp γ d (some w.heap.size) id=γ id:=by{grind[St.aq,uQ,dp]};have hρ:=Ref.later (γ:=γ) (γ':=dp γ d (some w.heap.size)) (mem:=st.mem) (mem':=(st.aq d m).mem) hl fun id f k=>⟨(p id f k).1,(p id f k).2,fun b s=>dC (l id b s)⟩;refine⟨?_,hρ,hl⟩;exact{size:=h.size,slot:=fun i=>lF.later hl hρ _ (h.slot i),held:=au.later hl hρ _ h.held,defers:=h.defers,mem:=fun id f k=>by by_cases e:id=d;{grind[St.aq,uQ]};simp[St.aq,uQ o,qai e]at k;exact eK.later hl hρ a_ (l id) (h.mem id f k),lU:=fun i b k=>by simp only[St.aq,uQ o];by_cases e:i=d;{simp[e]};simp only[dp,qai e]at k ⊢;exact h.lU i b k,inj:=fun i j b e n=>by simp[dp]at e n;split at e<;>split at n;{omega};{simp at e;subst e;have:=h.eJ j _ n;omega};{simp at n;subst n;have:=h.eJ i _ e;omega};exact h.inj i j b e n,own:=fun i b e=>by simp[dp]at e;split at e;{simp at e;subst e;exact⟨fun t=>by have:=h.bound _ t;omega,.inl h.eY⟩};exact h.own i b e,bound:=fun b l=>by simp;have:=h.bound b l;omega,eJ:=fun i b e=>by simp[dp]at e;simp;split at e;{simp_all};have:=h.eJ i b e;omega,jn:=fun g row k=>by obtain⟨r,c,h2,h3,u⟩:=h.jn g row k;exact⟨r,c,((hl g r).2.1).trans h2,dm.later hl row h3,u⟩,kept:=fun b l y=>(iD (by have:=h.eY;omega)).trans (h.kept b l y),os:=h.os,tape:=h.tape,output:=h.output,eY:=by simp;have:=h.eY;omega}
theorem dW.new(f:aj st.mem d=none)(g:d<=st.mem.length)(b:Obj)(c:Array Value)(e:TypeId)(i:(∀x v,Ref γ S w st.mem x v->Ref (dp γ d (some w.heap.size)) S (w.alloc (.cells c e)) (st.aq d b).mem x v)->bf S w S (w.alloc (.cells c e))->eK (dp γ d (some w.heap.size)) S (w.alloc (.cells c e)) (Ref (dp γ d (some w.heap.size)) S (w.alloc (.cells c e)) (st.aq d b).mem) d b): dW w0 own0 hvs G (dp γ d (some w.heap.size)) S (st.aq d b) a (w.alloc (.cells c e))/\ (∀x v,Ref γ S w st.mem x v->Ref (dp γ d (some w.heap.size)) S (w.alloc (.cells c e)) (st.aq d b).mem x v)/\bf S w S (w.alloc (.cells c e)):=dW.Gz h f g b (.cells c e) i
theorem dW.C9(m:aj st.mem d=none)(j:d<=st.mem.length)(k f:Nat): dW w0 own0 hvs G γ S (st.aq d (.rows k [] f)) a w:=by
 have hγd:γ d=none:=by{cases e:γ d with|none=>rfl|some b=>exact absurd m (h.lU d b e)};have hl:=bf.refl S w;have n:∀id c,aj st.mem id=some c->aj (st.aq d (.rows k [] f)).mem id=some c:=by{grind[St.aq,uQ]};have hρ:=Ref.later (γ:=γ) (γ':=γ) (mem:=st.mem) (mem':=(st.aq d (.rows k [] f)).mem) hl fun id c e=>⟨n id c e,rfl,fun b _=>⟨rfl,rfl⟩⟩
 exact{h with
     slot:=fun i=>lF.later hl hρ _ (h.slot i),held:=au.later hl hρ _ h.held
     mem:=fun id c e=>by
      by_cases g:id=d
      ·subst g;simp[St.aq,uQ j]at e;subst e;exact .inl ⟨hγd,rfl⟩
      ·simp[St.aq,uQ j,qai g]at e;exact eK.later hl hρ rfl (fun _ _=>rfl) (h.mem id c e)
     lU:=fun i b e=>by
      simp only[St.aq,uQ j]
      by_cases g:i=d
      ·simp[g]
      ·simp only[qai g];exact h.lU i b e}
theorem dW.lg{id:Nat}{u ob':Obj}(hid:aj st.mem id=some u)(o:γ id=some b)(n:∀k,k≠b->w'.heap[k]? =w.heap[k]?)(p:w'.heap.size=w.heap.size)(y:w'.os=w.os)(z:w'.tape=w.tape)(A:w'.output=w.output)(I:∀x v,bI x=some id->Ref γ S w st.mem x v->Ref γ S w' (st.aq id ob').mem x v)(J:(∀x v,Ref γ S w st.mem x v->Ref γ S w' (st.aq id ob').mem x v)->bf S w S w'->eK γ S w' (Ref γ S w' (st.aq id ob').mem) id ob'): dW w0 own0 hvs G γ S (st.aq id ob') a w'/\(∀x v,Ref γ S w st.mem x v->Ref γ S w' (st.aq id ob').mem x v)/\bf S w S w':=by have r:=bT hid;have B:=h.own id b o;have hl:bf S w S w':=fun k d=>⟨d,dC (n k (fun e=>B.1 (e▸d)))⟩;have hρ:∀x v,Ref γ S w st.mem x v->Ref γ S w' (st.aq id ob').mem x v:=by{intro x v C;by_cases f:bI x=some id;{simp_all};refine Ref.sO hl x v (fun m s D j=>?_) C;have E:m≠id:=fun e=>f (e▸D);refine⟨by grind[St.aq,uQ],rfl,fun l q=>dC (n l (fun e=>E (h.inj m id l q (e▸o))))⟩};refine⟨?_,hρ,hl⟩;exact{size:=h.size,slot:=fun i=>lF.later hl hρ _ (h.slot i),held:=au.later hl hρ _ h.held,defers:=h.defers,mem:=fun m s j=>by by_cases f:m=id;{grind[St.aq,uQ]};simp[St.aq,uQ r,qai f]at j;exact eK.later hl hρ rfl (fun l q=>n l (fun e=>f (h.inj m id l q (e▸o)))) (h.mem m s j),lU:=fun i l j=>by simp only[St.aq,uQ r];by_cases f:i=id;{simp[f]};simp only[qai f];exact h.lU i l j,inj:=h.inj,own:=h.own,bound:=fun k d=>by rw[p];exact h.bound k d,eJ:=fun i k d=>by rw[p];exact h.eJ i k d,jn:=fun g row j=>by obtain⟨t,c,h2,h3,F⟩:=h.jn g row j;exact⟨t,c,((hl g t).2.1).trans h2,dm.later hl row h3,F⟩,kept:=fun k d H=>by rw[n k (fun e=>?_)];exact h.kept k d H;grind,os:=y.trans h.os,tape:=z.trans h.tape,output:=A.trans h.output,eY:=by rw[p];exact h.eY}
end
end
theorem gU(b a n:Nat):(Addr.mk b a none).add n=⟨b,a+n,none⟩:=by grind[Addr.add]
variable {P:Program}
section
variable {w:World}
theorem ji(h:ey P t=some g):(isAgg t).run P w=.ok g w:=by unfold ey at h;simp[isAgg];split at h;{simp_all[run_underlying]};{simp_all[run_underlying]};{simp_all[run_underlying]};cases h
theorem run_sizeOf{n:Nat}(h:dK P t=some n):(sizeOf t).run P w=.ok n w:=by unfold dK at h;cases a:P.info? t with|none=>simp_all|some i=>simp_all[sizeOf,typeInfo]
theorem aeO(a:At w b=some c)(d:c[i]? =some v):(load ⟨b,i,none⟩).run P w=.ok v w:=by grind[load,Sem.run,cell_of]
theorem kH(a:ey P t=some false)(d:At w b=some c)(e:c[i]? =some v): (loadVar t ⟨b,i,none⟩).run P w=.ok v w:=by simp only[loadVar,Sem.run_bind,ji a,Result.andThen_ok,qaP,qaW,aeO d e]
theorem kI{n:Nat}{a:List Value}(d:ey P t=some true)(e:dK P t=some n)(f:At w b=some c)(hl:a.length=n)(g:∀j v,a[j]? =some v->c[i+j]? =some v): (loadVar t ⟨b,i,none⟩).run P w=.ok (.agg a.toArray) w:=by have:=run_loadCells_list (P:=P) w ⟨b,i,none⟩ a (fun j v h=>by grind[gU,cell_of]);simp_all[loadVar,ji,run_sizeOf]
theorem oK{h:Nat×Nat}:∀(d:List Value) (i a:Nat) (c:Array Value) (w:World),akt c.size h->w.heap[b]? =some (.cells c e h)->a+i+d.length<=c.size->(∀v∈d,v.oneCell'=true)->∃(w':World) (f:Array Value),(storeCells ⟨b,a,none⟩ d i).run P w=.ok () w'/\w'.heap[b]? =some (.cells f e h)/\f.size=c.size/\ (∀j,f[j]? =if a+i<=j/\j<a+i+d.length then d[j-(a+i)]? else c[j]?)/\ (∀k,k≠b->w'.heap[k]? =w.heap[k]?)/\w'.heap.size=w.heap.size/\w'.os=w.os/\w'.tape=w.tape/\w'.output=w.output:=by intro d;induction d with|nil=>intro i a c w _ m _ _;refine⟨w,c,rfl,m,rfl,fun j=>?_,fun _ _=>rfl,rfl,rfl,rfl,rfl⟩;grind|cons v d o=>intro i a c w n m g p;simp at g;have l:w.cell? ⟨b,a+i,none⟩=some c[a+i]:=by{have q:At w b=some c:=by{grind[At]};rw[cell_of q,Array.getElem?_eq_getElem o_]};have r:w.frozen? ⟨b,a+i,none⟩=false:=by{rcases n with rfl|n;{grind[World.frozen?]};grind[World.frozen?]};have s:(w.setCell ⟨b,a+i,none⟩ v).heap[b]? =some (.cells (c.setIfInBounds (a+i) v) e h):=by{grind[World.setCell]};obtain⟨w',f,C,t,D,E,F,x,y,z,A⟩:=o (i+1) a (c.setIfInBounds (a+i) v) (w.setCell ⟨b,a+i,none⟩ v) g_ s g_ (fun u B=>p u (qaE _ B));refine⟨w',f,?_,t,g_,fun j=>?_,fun k G=>?_,by simpa using x,y,z,A⟩;{grind[storeCells,Sem.run_bind,gU,run_store,Result.andThen_ok]};{grind};grind[RowKit.Below.heap_setCell]
end
variable {w0:World} {own0:Nat->Prop} {hvs:List Value×List Deferred} {G:Nat->Option (List PV)} {S0:Nat->Prop} {accs:List Nat} {S:Nat->Prop} {a:Act} {w:World} {o:Oper} {kn:Nat} (h:dW w0 own0 hvs G γ S st a w) (bg:∀b,S0 b->S b) (Cy:∀b,S b->S0 b\/w0.heap.size<=b\/own0 b)
include h bg Cy
theorem rA(A:o.op=.load t x)(e:ey P t=some g)(f:match g with|true=>∃m,dK P t=some m/\n=some m|false=>n=none){off:Nat}{row:List PV}(B:a.eval x=.pointer (some ⟨b,off+k,none⟩))(i:At w b=some c)(j:dm S w row c off): ep P w0 own0 hvs G S0 o a w st kn γ S (il row k n):=by have l:∀v,(loadVar t ⟨b,off+k,none⟩).run P w=.ok v w->(execOp a.eval o).run P w=.ok (.value v) w:=by{grind[execOp,Instr.loadAt,Instr.sureAddr,Sem.run_bind,Sem.run_pure,Result.andThen_ok]};cases g with|false=>subst f;simp[il];split;{rename_i p q;obtain⟨v,r,C⟩:=dm.get j q;exact aG h bg Cy (l v (kH e i r)) (by grind[lF])};trivial|true=>obtain⟨m,s,rfl⟩:=f;simp[il];split;{rename_i u;obtain⟨y,D,E,z⟩:=dm.list ((j.drop k).take m);have d:y.length=m:=g_;exact aG h bg Cy (l _ (kI e s i d z)) (by grind[lF,aD])};trivial
theorem A1(B:o.op=.load t x)(e:ey P t=some g)(f:match g with|true=>∃m,dK P t=some m/\n=some m|false=>n=none){o0:Nat}{row:List AV}(C:a.eval x=.pointer (some ⟨b,o0+k,none⟩))(i:At w b=some c)(j:bB S w (Ref γ S w st.mem) row c o0): ep P w0 own0 hvs G S0 o a w st kn γ S (js row k n):=by have l:∀v,(loadVar t ⟨b,o0+k,none⟩).run P w=.ok v w->(execOp a.eval o).run P w=.ok (.value v) w:=by{grind[execOp,Instr.loadAt,Instr.sureAddr,Sem.run_bind,Sem.run_pure,Result.andThen_ok]};cases g with|false=>subst f;simp[js];split;{rename_i p q;obtain⟨v,r,s⟩:=bB.get j q;exact aG h bg Cy (l v (kH e i r)) s};trivial|true=>obtain⟨m,u,rfl⟩:=f;simp[js];split;{rename_i y;obtain⟨z,D,E,A⟩:=bB.list ((j.drop k).take m);have d:z.length=m:=g_;exact aG h bg Cy (l _ (kI e u i d A)) (by grind[lF])};trivial
theorem bM.row{S:Nat->Prop}{w:World}:∀{a:R_} {c:Array Value} {o b j:Nat},aK b a->bM S w a c o->j<a.length->dm S w (a.getD j []) c (o+j*b)
|[],_,_,_,_,_,_,e=>a_
|r::a,c,o,b,0,_,d,_=>by grind[bM]
|r::a,c,o,b,j+1,hl,d,e=>by have:=bM.row (j:=j) (fun x f=>hl x (qaE _ f)) d.2 a_;have hs:r.length=b:=hl r qaz;grind
omit h bg Cy in
theorem rows_block{id:Nat}{a:R_}(j:γ id=some b)(g:eK γ S w (Ref γ S w st.mem) id (.rows d a f)): ∃c e,DJ w b c e/\a.length*d<=c.size/\aK d a/\bM S w a c 0:=by rcases g with⟨i,_⟩|⟨k,c,e,i,l,m,n,o⟩;{simp_all};grind
omit h bg Cy in
theorem bU.row{S:Nat->Prop}{w:World}{ρ:AV->Value->Prop}:∀{a:List (List AV)} {c:Array Value} {o b j:Nat},(∀r∈a,r.length=b)->bU S w ρ a c o->j<a.length->bB S w ρ (a.getD j []) c (o+j*b)
|[],_,_,_,_,_,_,e=>a_
|r::a,c,o,b,0,_,d,_=>by grind[bU]
|r::a,c,o,b,j+1,hl,d,e=>by have:=bU.row (j:=j) (fun x f=>hl x (qaE _ f)) d.2 a_;grind
omit h bg Cy in
theorem kf{id:Nat}{a:List (List AV)}(j:γ id=some b)(g:eK γ S w (Ref γ S w st.mem) id (.cw d a f)): ∃c e,DJ w b c e/\a.length*d<=c.size/\(∀r∈a,r.length=d)/\bU S w (Ref γ S w st.mem) a c 0:=by rcases g with⟨i,_⟩|⟨k,c,e,i,l,m,n,o⟩;{simp_all};grind
theorem Qt{H:bR}(u:o.op=.load t x)(v:ey P t=some g)(y:match g with|true=>∃m,dK P t=some m/\n=some m|false=>n=none)(K:aZ G x=some H): cj P w0 own0 hvs G S0 o a w st kn γ S (KA aF kn (.ld H n) st.ev):=by simp[KA,ur];have d:=h.fR K;split;{rename_i id p q;rw[q]at d;simp[lF,Ref]at d;intro D z;simp[z]at d;cases D with|cells cs=>obtain⟨b,r,i⟩:=d;obtain⟨Q,c,e,R,A,I,f,_⟩:=h.mem id _ z;exact A1 h bg Cy (o0:=0) u v y (by rw[qaA];exact i) (by grind[At]) f|_=>trivial};{rename_i id s j p q;rw[q]at d;simp only[lF,Ref]at d;intro D z;simp only[z]at d;cases D with|cells cs=>trivial|map=>trivial|iw=>trivial|kX=>trivial|cL=>trivial|eu=>trivial|cw L rs B=>by_cases l:s=B;{subst l;simp;obtain⟨b,r,i,M,J⟩:=d.2 rfl;obtain⟨c,e,⟨N,O,A⟩,I,E,f⟩:=kf r (h.mem id _ z);have C:=bU.row (j:=j.toNat) E f o_;rw[qaA]at C;exact A1 h bg Cy u v y i (by grind[At]) C};simp[qar.2 l];trivial|rows L rs B=>by_cases l:s=B;{subst l;simp;obtain⟨b,r,i,M,J⟩:=d.2 rfl;obtain⟨c,e,⟨N,O,A⟩,I,E,f⟩:=rows_block r (h.mem id _ z);have C:=bM.row h bg Cy (j:=j.toNat) E f o_;rw[qaA]at C;exact rA h bg Cy u v y i (by grind[At]) C};simp[qar.2 l];trivial|eO rs B=>by_cases l:s=B;{subst l;simp;obtain⟨b,F,c,i,r,A,f,J⟩:=d.2 rfl;exact rA h bg Cy u v y i A f};simp[qar.2 l];trivial};{rename_i row p q;rw[q]at d;obtain⟨b,F,c,i,r,A,f⟩:=d;exact rA h bg Cy u v y i A f};{rename_i row q;rw[q]at d;obtain⟨b,F,c,r,f⟩:=d;exact rA h bg Cy (off:=F) (k:=0) u v y o_ f.2.1 f.2.2};trivial
end Go.Am
