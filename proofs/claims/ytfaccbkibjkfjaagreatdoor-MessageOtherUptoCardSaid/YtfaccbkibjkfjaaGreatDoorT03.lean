import Derived.Deep.AppendSrc
import Derived.Deep.Upon
import Derived.ChangeKeysEq
import Derived.Test.YtfaccbkibjkfjaaGreatDoorT02
set_option linter.all false
set_option maxRecDepth 100000
set_option maxHeartbeats 1000000
section
namespace Go.Am
theorem foldl_push (ns:List Int):∀(s:ByteArray),ns.foldl (fun r n=>r.push (UInt8.ofNat n.toNat)) s=⟨s.data++(ns.map fun n=>UInt8.ofNat n.toNat).toArray⟩:=by
 induction ns with
 |nil=>intro s;simp
 |cons n ns ih=>
  intro s;simp only[qbu,ih];apply qdl;simp[ByteArray.push]
def dR (rows:List (List PV)):List Int:=rows.map fun r=>match r with|[.int _ n]=>n|_=>0
theorem xX {rows:List (List PV)} (h:aF.qE rows):rows=(dR rows).map fun n=>[.int .u8 n]:=by
 simp only[aF]at h
 induction rows with
 |nil=>rfl
 |cons r rows ih=>
  obtain⟨n,rfl⟩:=h r qaz;simp only[dR,qaj]
  congr 1
  exact ih fun x hx=>h x (qaE _ hx)
theorem rG (rows:List (List PV)):aF.gN rows=(dR rows).map fun n=>UInt8.ofNat n.toNat:=by
 simp only[aF,dR,qcA];apply qcv;intro r hr;simp only[Function.comp];split
 ·rfl
 ·rename_i MB;split
  ·rename_i k n;exact absurd rfl (MB k n)
  ·rfl
section
variable {S:Nat→Prop} {w:World}
theorem qQ:∀{ns:List Int} {c:Array Value} {o:Nat},bM S w (ns.map fun n=>[.int .u8 n]) c o→∀j v,(ns.map (Value.int .u8))[j]? =some v→c[o+j]? =some v
 |[],_,_,_,j,v,h=>by simp at h
 |n::ns,c,o,h,j,v,hj=>by
  simp only[qaj,bM,dm,aD]at h;obtain⟨⟨⟨u,hu,rfl⟩,_⟩,h2⟩:=h
  cases j with
  |zero=>simp only[qaj,qay,qaa]at hj;subst hj;exact hu
  |succ j=>
   have:=qQ h2 j v (by simpa using hj);rw[show o+(j+1)=o+[PV.int .u8 n].length+j by simp;omega];exact this
end
section
variable {P:Program} {w0:World} {own0:Nat→Prop} {hvs:List Value×List Deferred} {G:Nat→Option (List PV)} {S0:Nat→Prop} {accs:List Nat}
 {γ:Nat→Option Nat} {S:Nat→Prop} {st:St} {a:Act} {w:World} {o:Oper} {kn:Nat}
 (h:dW w0 own0 hvs G γ S st a w) (bg:∀b,S0 b→S b) (Cy:∀b,S b→S0 b∨w0.heap.size≤b∨own0 b)
include h bg Cy
theorem Ts {s d e:TypeId} {x:Operand} {x':bR} (ho:o.op=.convert s d x) (hs:P.underlying s=some (.slice e)) (he:P.underlying e=some (.int .u8)) (hd:P.underlying d=some .string) (hx:aZ G x=some x'):
  cj P w0 own0 hvs G S0 o a w st kn γ S (KA aF kn (.Ql x') st.ev):=by
 have h1:=h.fR hx
 have bN:∀a0 n cap v,a.eval x=.slice a0 n cap→(Conv.bytesToString (.slice a0 n cap)).run P w=.ok v w→(execOp a.eval o).run P w=.ok (.value v) w:=by
  intro a0 n cap v hv hr;simp only[execOp,ho,hv,Sem.run_bind,run_convert_bytes_string w s d e a0 n cap hs he hd,hr,Result.andThen_ok,Sem.run_pure]
 have key:∀(rows:List (List PV)) a0 cap,a.eval x=.slice a0 rows.length cap→aF.qE rows→
   (rows=[]∨∃b off c,a0=some ⟨b,off,none⟩∧At w b=some c∧bM S w rows c off)→oo P w0 own0 hvs G S0 o a w st (.pv (.str (aF.gN rows))):=by
  intro rows a0 cap hv hb hc;have iv:=xX hb
  have hlen:(dR rows).length=rows.length:=by simp[dR]
  cases a0 with
  |none=>
   refine aG h bg Cy (bN _ _ _ (.string .empty) hv rfl) ?_
   rcases hc with hc|⟨b,off,c,hc,_⟩
   ·subst hc;simp only[lF,aD,aF];rfl
   ·cases hc
  |some ad=>
   have Xq:(loadCells ad rows.length).run P w=.ok ((dR rows).map (Value.int .u8)).toArray w:=by
    rcases hc with hc|⟨b,off,c,hc,xP,hr⟩
    ·subst hc;rfl
    ·injection hc with hc;subst hc
     rw[iv]at hr;have:=run_loadCells_list (P:=P) w ⟨b,off,none⟩ ((dR rows).map (Value.int .u8)) (fun j v hj=>by rw[gU,cell_of xP];exact qQ hr j v hj);simpa[hlen]using this
   refine aG h bg Cy (bN _ _ _ _ hv (run_bytesToString w ad rows.length cap (dR rows) Xq)) ?_;simp only[lF,aD,rG,foldl_push]
   congr 1
   apply qdl;simp
 simp only[KA];split
 ·rename_i rows spare bZ;rw[bZ]at h1;simp only[lF,aD]at h1;obtain⟨a0,cap,hv,_,hc⟩:=h1;intro hb;refine key rows a0 cap hv hb ?_
  rcases hc with⟨hc,_⟩|⟨b,off,c,sz,ha,_,xP,_,_,hr,_⟩
  ·exact .inl hc
  ·exact .inr ⟨b,off,c,ha,xP,hr⟩
 ·rename_i rows bZ;rw[bZ]at h1;simp only[lF]at h1;obtain⟨a0,hv,hc⟩:=h1;intro hb;refine key rows a0 _ hv hb ?_
  rcases hc with hc|⟨b,off,c,sz,ha,_,xP,_,hr⟩
  ·exact .inl hc
  ·exact .inr ⟨b,off,c,ha,xP,hr⟩
 ·rename_i id bq bZ;rw[bZ]at h1;simp only[lF,Ref]at h1;intro ob bL;simp only[bL]at h1
  cases ob with
  |cells cs=>trivial
  |cg=>trivial
  |map=>trivial
  |iw=>trivial
  |fz=>trivial
  |cL=>trivial
  |eu=>trivial
  |rows sz rs bm=>
   by_cases hv:bq=bm
   ·subst hv;simp only[qau];obtain⟨a0,cap,A6,fF,HI⟩:=h1.2 rfl;intro hb;refine key rs a0 cap A6 hb ?_
    rcases HI with HI|⟨b,c,fP,ha,hc,_⟩
    ·left;exact qa2 (by omega)
    ·right
     obtain⟨c1,e1,GD,_,_,hr⟩:=rows_block fP (h.mem id _ bL);exact⟨b,0,c1,ha,by simp[At,GD],hr⟩
   ·simp only[qar.2 hv];trivial
  |eO rs bm=>
   by_cases hv:bq=bm
   ·subst hv;simp only[qau];have h2:=h1.2 rfl;simp only[aD]at h2;obtain⟨a0,cap,A6,_,hc⟩:=h2;intro hb;refine key rs a0 cap A6 hb ?_
    rcases hc with⟨hc,_⟩|⟨b,off,c,sz,ha,_,xP,_,_,hr,_⟩
    ·exact .inl hc
    ·exact .inr ⟨b,off,c,ha,xP,hr⟩
   ·simp only[qar.2 hv];trivial
 ·trivial
theorem H6 {x y:Operand} {x' y':bR} {c:Call} {mx:Bool} (ho:o.op=.call c) (hc:c.callee=.builtin (if mx then .max else .min)) (ha:c.args=#[x,y]) (hx:aZ G x=some x') (hy:aZ G y=some y'):
  cj P w0 own0 hvs G S0 o a w st kn γ S (KA aF kn (.SN mx x' y') st.ev):=by
 have h1:=h.fR hx;have h2:=h.fR hy;simp only[KA];split
 ·rename_i k n k' m bZ kG;rw[bZ]at h1;rw[kG]at h2;simp only[lF,aD]at h1 h2
  cases mx with
  |true=>
   refine aG h bg Cy (u:=.int k (if m>n then m else n)) ?_ (by simp only[lF,aD,aF]);simp only[execOp,ho,resolve,hc,ha,Sem.run_bind,Sem.run_pure,Result.andThen_ok,invoke,builtin,qax];simp only[qb1,qaj,qaF,h1,h2,run_max_int2,Result.andThen_ok]
  |false=>
   refine aG h bg Cy (u:=.int k (if m<n then m else n)) ?_ (by simp only[lF,aD,aF]);simp only[execOp,ho,resolve,hc,ha,Sem.run_bind,Sem.run_pure,Result.andThen_ok,invoke,builtin,qaP,qaW];simp only[qb1,qaj,qaF,h1,h2,run_min_int2,Result.andThen_ok]
 ·trivial
theorem H7 {z:List Value} (hz:z≠[]) {n k:Nat} (hk:k<n):(((Array.range n).map fun i=>z.toArray[i%z.toArray.size]!))[k]? =some (z.getD (k%z.length) undef):=by
 have hlen:0<z.length:=qbm.2 hz;have:k%z.length<z.length:=Nat.mod_lt _ hlen;simp[hk,qab,this,getElem!_pos,this]
theorem Tt {t e:TypeId} {sz bytes:Nat} {z:List PV} {l c:Operand} {l' c':bR} (ho:o.op=.makeSlice t l c) (ht:P.underlying t=some (.slice e)) (dH:dK P e=some sz) (vf:nu P e=some bytes)
  (hz:gT P e=some z) (GI:z.length=sz) (p9:0<sz) (hl:aZ G l=some l') (hc:aZ G c=some c'):
  cj P w0 own0 hvs G S0 o a w st kn γ S (KA aF kn (.SK sz bytes z l' c') st.ev):=by
 have h1:=h.fR hl;have h2:=h.fR hc;simp only[KA];split
 ·rename_i l c bZ kG;rw[bZ]at h1;rw[kG]at h2;simp only[lF,aD]at h1 h2;intro hm bO hp;obtain⟨p0,p1,p2,p3⟩:=hp;obtain⟨i,zv,hi,EO,ER,rD⟩:=gV (S:=S) (w:=w) hz
  have LF:i.bytes=bytes:=by simpa[nu,hi]using vf
  have qR:i.size=sz:=by simpa[dK,hi]using dH
  have hw:∀n:Int,0≤n→n≤2^47→IntKind.i64.wrap n=n:=by
   intro n h0 h1
   have e1:(2:Int)^IntKind.i64.bits=18446744073709551616:=by decide
   have e2:(2:Int)^(IntKind.i64.bits-1)=9223372036854775808:=by decide
   unfold IntKind.wrap;simp only[e1,e2];rw[qdq h0 (by omega),qai (by simp;omega)]
  have ES:zv.cells.toList.length=sz:=by rw[aM.length ER,GI]
  have hzne:zv.cells.toList≠[]:=by intro e;rw[e]at ES;simp at ES;omega
  have bN:(execOp a.eval o).run P w=.ok (.value (.slice (some ⟨w.heap.size,0,none⟩) l.toNat c.toNat))
    (w.alloc (.cells ((Array.range (c.toNat*sz)).map fun i=>zv.cells[i%zv.cells.size]!) e)):=by
   have c1:((bytes:Int)*c>2^48)=False:=by
    simp only[gt_iff_lt,eq_iff_iff,iff_false,Int.not_lt];have:(bytes:Int)*c=c*bytes:=Int.mul_comm _ _;omega
   have c2:(c<0)=False:=by simp;omega
   have c3:(l<0)=False:=by simp;omega
   have c4:(l>c)=False:=by simp;omega
   simp only[execOp,ho,Instr.makeSlice,Sem.run_bind,run_underlying ht,Result.andThen_ok,h1,h2,asInt,asIntOf,Sem.run_pure,typeInfo,run_program,hi,LF,hw c (by omega) (by omega),hw l p0 (by omega),
    c1,c2,c3,c4,qbY,Bool.or_false,qaP,qaW,run_askRoom,run_sizeOf dH]
   by_cases hn:c.toNat*sz=0
   ·rw[qao hn];simp only[Sem.run_pure,Result.andThen_ok,newRow,Sem.run_bind,run_newObj,World.alloc_eq];rw[hn,show Array.range 0=#[] from rfl];simp only[qdy]
   ·rw[qai hn];simp only[Sem.run_bind,rD,Sem.run_pure,Result.andThen_ok,newRow,run_newObj,World.alloc_eq]
  have Xr:((Array.range (c.toNat*sz)).map fun i=>zv.cells[i%zv.cells.size]!).size=c.toNat*sz:=by simp
  have key:=dW.new h hm bO (.rows sz (aF.AK l z) 0) ((Array.range (c.toNat*sz)).map fun i=>zv.cells[i%zv.cells.size]!) e (fun hρ hl=>by
   have bS:aK sz (aF.AK l z):=by
    intro r hr;simp only[aF]at hr;rw[(List.mem_replicate.1 hr).2];exact GI
   refine .inr ⟨w.heap.size,_,e,by simp[dp],heap_alloc_new,by rw[Xr];simp only[aF,qcn];exact qaL _ (by omega),bS,bM.lV bS fun k hk=>?_⟩;simp only[aF,qcn]at hk
   have e1:(aF.AK l z).getD k []=z:=by simp[aF,qab,hk]
   rw[e1]
   refine dm.eD (aM.later hl _ ER) fun j v hj=>?_
   have A2:j<sz:=by rw[←ES];exact(qat.1 hj).1
   have LG:k*sz+j<c.toNat*sz:=sP (by omega) A2;have:=H7 (h:=h) bg Cy hzne LG;rw[qaA];simp only[qcW]at this;rw[this,ES,qcS,Nat.add_mul_mod_self_right,Nat.mod_eq_of_lt A2,qab,hj]
   rfl)
  refine⟨_,_,_,S,.inl bN,bg,Cy,key.1,?_⟩;simp only[lF,Ref,St.aq,uQ bO,qax];refine⟨⟨qak _,rfl⟩,fun _=>⟨_,c.toNat,by simp[aF],by simp[aF];omega,.inr ⟨w.heap.size,_,by simp[dp],rfl,ez,Xr⟩⟩⟩
 ·trivial
end
end Go.Am
end
section
namespace Go.Am
theorem xY (uj:Nat):∀(rounds c M:Nat),c≤M→uj+(uj+768)/4≤M→Builtin.growBy uj rounds c≤M
 |0,c,M,h,_=>h
 |r+1,c,M,h,h'=>by
  unfold Builtin.growBy;split
  ·exact h
  ·exact xY uj r _ M (by omega) h'
theorem nextslicecap_le {uj cap:Nat} (h:cap<uj):Builtin.nextslicecap uj cap≤2*uj+512:=by
 unfold Builtin.nextslicecap;split
 ·omega
 ·split
  ·omega
  ·exact xY uj 4 cap _ (by omega) (by omega)
section
variable {P:Program} {S:Nat→Prop} {w:World}
theorem bM.flat:∀{rs:List (List PV)} {c:Array Value} {o sz:Nat},aK sz rs→bM S w rs c o→
  ∃vs:List Value,aM S w rs.flatten vs∧vs.length=rs.length*sz∧∀j v,vs[j]? =some v→c[o+j]? =some v
 |[],_,_,_,_,_=>⟨[],by simp only[qa6,aM],by simp,by simp⟩
 |r::rs,c,o,sz,hl,h=>by
  simp only[bM]at h;obtain⟨us,h1,h2,h3⟩:=dm.list h.1;obtain⟨vs,h4,h5,h6⟩:=bM.flat (fun x hx=>hl x (qaE _ hx)) h.2;have hr:r.length=sz:=hl r qaz;refine⟨us++vs,by rw[qa3];exact aM.append h1 h4,by simp[h2,h5,hr,qaS,qcS],fun j v hj=>?_⟩
  by_cases bO:j<us.length
  ·rw[qaQ bO]at hj;exact h3 j v hj
  ·rw[qaV (by omega)]at hj;have:=h6 (j-us.length) v hj;rw[show o+j=o+r.length+(j-us.length) by omega];exact this
theorem bU.flat {ρ:AV→Value→Prop}:∀{rs:List (List AV)} {c:Array Value} {o sz:Nat},(∀r∈rs,r.length=sz)→bU S w ρ rs c o→
  ∃vs:List Value,au S w ρ rs.flatten vs∧vs.length=rs.length*sz∧∀j v,vs[j]? =some v→c[o+j]? =some v
 |[],_,_,_,_,_=>⟨[],by simp only[qa6,au],by simp,by simp⟩
 |r::rs,c,o,sz,hl,h=>by
  simp only[bU]at h;obtain⟨us,h1,h2,h3⟩:=bB.list h.1;obtain⟨vs,h4,h5,h6⟩:=bU.flat (fun x hx=>hl x (qaE _ hx)) h.2;have hr:r.length=sz:=hl r qaz;refine⟨us++vs,by rw[qa3];exact au.append h1 h4,by simp[h2,h5,hr,qaS,qcS],fun j v hj=>?_⟩
  by_cases bO:j<us.length
  ·rw[qaQ bO]at hj;exact h3 j v hj
  ·rw[qaV (by omega)]at hj;have:=h6 (j-us.length) v hj;rw[show o+j=o+r.length+(j-us.length) by omega];exact this
theorem bU.append {ρ:AV→Value→Prop}:∀{xs ys:List (List AV)} {c:Array Value} {o sz:Nat},(∀r∈xs,r.length=sz)→bU S w ρ xs c o→bU S w ρ ys c (o+xs.length*sz)→bU S w ρ (xs++ys) c o
 |[],_,_,_,_,_,_,h=>by rw[qaD,qdt,qcz]at h;exact h
 |x::xs,ys,c,o,sz,hl,h,h'=>by
  simp only[bU]at h;simp only[qaN,bU];refine⟨h.1,bU.append (sz:=sz) (fun r hr=>hl r (qaE _ hr)) h.2 ?_⟩;have hx:x.length=sz:=hl x qaz;rw[hx,show o+sz+xs.length*sz=o+(x::xs).length*sz by rw[qaq,qaS,qbt];omega];exact h'
theorem map_flatten (xs:List (List PV)):(xs.map (·.map AV.pv)).flatten=xs.flatten.map AV.pv:=by
 rw[List.map_flatten]
theorem vh {ρ:AV→Value→Prop} (hρ:va ρ):∀{rs:List (List AV)} {vs:List Value},(∀r∈rs,kE r=true)→au S w ρ rs.flatten vs→∀v∈vs,v.oneCell'=true
 |[],vs,_,h=>by simp only[qa6,au]at h;subst h;simp
 |r::rs,vs,ho,h=>by
  rw[qa3]at h;obtain⟨u,v,rfl,h1,h2⟩:=au.split h;intro x hx
  rcases qav.1 hx with hx|hx
  ·exact oL hρ (ho r qaz) h1 x hx
  ·exact vh hρ (fun r hr=>ho r (qaE _ hr)) h2 x hx
theorem xZ {sz:Nat}:∀{rs:List (List PV)} {vs:List Value},fS sz rs→aM S w rs.flatten vs→∀v∈vs,v.oneCell'=true:=by
 intro rs vs ho hr
 have oq:∀p∈rs.flatten,(AV.pv p).one=true:=by
  intro p hp;obtain⟨r,hr,hpr⟩:=qcN.1 hp;exact(ho r hr).2 p hpr
 have key:∀(ps:List PV) (vs:List Value),aM S w ps vs→(∀p∈ps,(AV.pv p).one=true)→∀v∈vs,v.oneCell'=true:=by
  intro ps
  induction ps with
  |nil=>intro vs h _;simp only[aM]at h;subst h;simp
  |cons p ps ih=>
   intro vs h ho;simp only[aM]at h;obtain⟨v,r,rfl,h1,h2⟩:=h;intro u hu
   rcases qam.1 hu with rfl|hu
   ·exact aD.one (ho p qaz) h1
   ·exact ih r h2 (fun q hq=>ho q (qaE _ hq)) u hu
 exact key _ _ hr oq
theorem dh {b off cap n sz:Nat} {c:Array Value} {vs:List Value} (hc:At w b=some c) (hl:vs.length=n*sz) (hv:∀j v,vs[j]? =some v→c[off+j]? =some v):
  (Builtin.firstCells sz n (.slice (some ⟨b,off,none⟩) n cap)).run P w=.ok vs.toArray w:=by
 have:=run_loadCells_list (P:=P) w ⟨b,off,none⟩ vs (fun j v hj=>by rw[gU,cell_of hc];exact hv j v hj);rw[hl]at this;exact this
end
section
variable {P:Program} {w0:World} {own0:Nat→Prop} {hvs:List Value×List Deferred} {G:Nat→Option (List PV)} {S0:Nat→Prop} {accs:List Nat}
 {γ:Nat→Option Nat} {S:Nat→Prop} {st:St} {a:Act} {w:World} {o:Oper} {kn:Nat}
 (h:dW w0 own0 hvs G γ S st a w)
theorem pJ {y:AV} {v:Value} {ys:List (List PV)} {sz:Nat} {tx:TypeId} (hy:gE aF y=some ys) (hr:lF S w (Ref γ S w st.mem) y v) (eL:fS sz ys)
  (hk:(∃e',P.underlying tx=some (.slice e'))∨(P.underlying tx=some .string∧sz=1)):
  ∃vs:List Value,Src P sz tx v ys.length vs w∧aM S w ys.flatten vs:=by
 have bS:aK sz ys:=fun r hr=>(eL r hr).1
 have vi:(∃e',P.underlying tx=some (.slice e'))∨P.underlying tx=some .string:=hk.imp (fun h=>h) (fun h=>h.1)
 have Xs:∀a0 cap,Src P sz tx (.slice a0 ([]:List (List PV)).length cap) ([]:List (List PV)).length [] w:=by
  intro a0 cap;refine⟨vi,fun w'=>rfl,?_,?_,by simp,by simp⟩<;>cases a0<;>simp[Builtin.firstCells,loadCells,loadCellsFrom]
 unfold gE at hy;split at hy
 ·rename_i rows spare;simp only[qaa]at hy;subst hy;simp only[lF,aD]at hr;obtain⟨a0,cap,rfl,_,hd⟩:=hr
  rcases hd with⟨hd,_⟩|⟨b,off,c,lM,ha,hs,hc,h1,_,h3,_⟩
  ·subst hd;exact⟨[],Xs a0 cap,by simp only[qa6,aM]⟩
  ·subst ha;obtain⟨vs,k1,k2,k3⟩:=bM.flat bS h3;exact⟨vs,⟨vi,fun w'=>rfl,dh hc k2 k3,dh (w:=w.drew) hc k2 k3,k2,xZ eL k1⟩,k1⟩
 ·rename_i rows;simp only[qaa]at hy;subst hy;simp only[lF]at hr;obtain⟨a0,rfl,hd⟩:=hr
  rcases hd with hd|⟨b,off,c,lM,ha,hs,hc,h1,h3⟩
  ·subst hd;exact⟨[],Xs a0 _,by simp only[qa6,aM]⟩
  ·subst ha;obtain⟨vs,k1,k2,k3⟩:=bM.flat bS h3;exact⟨vs,⟨vi,fun w'=>rfl,dh hc k2 k3,dh (w:=w.drew) hc k2 k3,k2,xZ eL k1⟩,k1⟩
 ·rename_i s;simp only[qaa]at hy;subst hy;simp only[lF,aD]at hr;subst hr
  have hlen:(aF.bytes s).length=s.length:=by simp[aF]
  have hz:s=[]∨sz=1:=by
   cases s with
   |nil=>exact .inl rfl
   |cons x s=>right;have:=bS _ (qaz (a:=[PV.int .u8 (x.toNat:Nat)]) (l:=aF.bytes s));simpa using this.symm
  have hf:∀w':World,(Builtin.firstCells sz (aF.bytes s).length (.string ⟨s.toArray⟩)).run P w'=.ok (s.map fun b=>Value.int .u8 (b.toNat:Nat)).toArray w':=by
   intro w';rw[hlen];simp only[Builtin.firstCells,Sem.run_pure,qh];simp
  refine⟨s.map fun b=>.int .u8 (b.toNat:Nat),⟨vi,fun w'=>by rw[hlen];rfl,hf w,hf w.drew,?_,?_⟩,?_⟩
  ·rw[hlen];rcases hz with hz|hz
   ·subst hz;simp
   ·subst hz;simp
  ·intro v hv;obtain⟨b,_,rfl⟩:=qaw.1 hv;rfl
  ·have e1:∀s:List UInt8,(aF.bytes s).flatten=s.map fun b=>PV.int .u8 (b.toNat:Nat):=by
    intro s;simp only[aF]
    induction s with
    |nil=>rfl
    |cons x s ih=>simp[ih]
   rw[e1]
   have key:∀s:List UInt8,aM S w (s.map fun b=>PV.int .u8 (b.toNat:Nat)) (s.map fun b=>Value.int .u8 (b.toNat:Nat)):=by
    intro s
    induction s with
    |nil=>simp only[qaF,aM]
    |cons x s ih=>simp only[qaj,aM,aD];exact⟨_,_,rfl,rfl,ih⟩
   exact key s
 ·cases hy
theorem A7 {y:AV} {v:Value} {ys:List (List AV)} {sz:Nat} {tx:TypeId} (hy:pB aF y=some ys) (hr:lF S w (Ref γ S w st.mem) y v) (eL:∀r∈ys,r.length=sz∧kE r=true)
  (hk:(∃e',P.underlying tx=some (.slice e'))∨(P.underlying tx=some .string∧sz=1)):
  ∃vs:List Value,Src P sz tx v ys.length vs w∧au S w (Ref γ S w st.mem) ys.flatten vs:=by
 have vi:(∃e',P.underlying tx=some (.slice e'))∨P.underlying tx=some .string:=hk.imp (fun h=>h) (fun h=>h.1)
 have Tv:∀rows,gE aF y=some rows→ys=rows.map (·.map .pv)→∃vs:List Value,Src P sz tx v ys.length vs w∧au S w (Ref γ S w st.mem) ys.flatten vs:=by
  intro rows iv he;subst he
  have hok':fS sz rows:=by
   intro r hr;obtain⟨h1,h2⟩:=eL _ (qbP (f:=fun l=>l.map AV.pv) hr);refine⟨by simpa using h1,?_⟩
   have key:∀(l:List PV),kE (l.map AV.pv)=true→∀p∈l,(AV.pv p).one=true:=by
    intro l
    induction l with
    |nil=>intro _ p hp;simp at hp
    |cons x l ih=>
     intro ho p hp;simp only[qaj,kE]at ho;split at ho
     ·rename_i hx
      rcases qam.1 hp with rfl|hp
      ·exact hx
      ·exact ih ho p hp
     ·cases ho
   exact key r h2
  obtain⟨vs,h1,h2⟩:=pJ (P:=P) (tx:=tx) (sz:=sz) iv hr hok' hk;exact⟨vs,by rw[qap];exact h1,by rw[map_flatten];exact aM.av h2⟩
 unfold pB at hy;split at hy
 ·rename_i rows;simp only[qaa]at hy;subst hy;simp only[lF]at hr;obtain⟨a0,rfl,hd⟩:=hr
  rcases hd with hd|⟨b,off,c,lM,ha,hs,hc,h1,h3⟩
  ·subst hd;refine⟨[],⟨vi,fun w'=>rfl,?_,?_,by simp,by simp⟩,by simp only[qa6,au]⟩<;>cases a0<;>simp[Builtin.firstCells,loadCells,loadCellsFrom]
  ·subst ha;obtain⟨vs,k1,k2,k3⟩:=bU.flat (fun r hr=>(eL r hr).1) h3;exact⟨vs,⟨vi,fun w'=>rfl,dh hc k2 k3,dh (w:=w.drew) hc k2 k3,k2,vh (jX γ st.mem) (fun r hr=>(eL r hr).2) k1⟩,k1⟩
 ·split at hy
  ·rename_i rows iv;simp only[qaa]at hy;exact Tv rows iv hy.symm
  ·cases hy
theorem dW.drew (h:dW w0 own0 hvs G γ S st a w):dW w0 own0 hvs G γ S st a w.drew:=
 (dW.grow h (w':=w.drew) (S':=S) (fun _ _=>rfl) (qak _) rfl rfl rfl (fun _ hb=>hb) (fun _ hb=>.inl hb)).1
theorem run_append_room {t u ty e:TypeId} {i:TypeInfo} {n cap k:Nat} {yv:Value} {b:Nat} {c:Array Value} {ee:TypeId} {vs:List Value}
  (ht:P.underlying t=some (.slice e)) (hi:P.info? e=some i) (hs:Src P i.size u yv k vs w)
  (jh:n+k≤cap) (hb:w.heap[b]? =some (.cells c ee (0,0))) (hc:c.size=cap*i.size):
  ∃(w':World) (c':Array Value),(Builtin.append_ #[t,u] ty #[.slice (some ⟨b,0,none⟩) n cap,yv]).run P w=.ok (.slice (some ⟨b,0,none⟩) (n+k) cap) w'∧w'.heap[b]? =some (.cells c' ee (0,0))∧c'.size=c.size∧
   (∀j,c'[j]? =if n*i.size≤j∧j<n*i.size+vs.length then vs[j-n*i.size]? else c[j]?)∧
   (∀k,k≠b→w'.heap[k]? =w.heap[k]?)∧w'.heap.size=w.heap.size∧w'.os=w.os∧w'.tape=w.tape∧w'.output=w.output:=by
 have hle:n*i.size+0+vs.length≤c.size:=by
  rw[hs.newsLen,hc,qcz,←qaS];exact qaL _ jh
 obtain⟨w',c',h1,h2,h3,h4,h5⟩:=oK (P:=P) (e:=ee) vs 0 (n*i.size) c w hb hle hs.one;refine⟨w',c',?_,h2,h3,fun j=>by simpa using h4 j,h5⟩
 have ha:(Addr.mk b 0 none).add (n*i.size)=⟨b,n*i.size,none⟩:=by rw[gU,qaA]
 rcases hs.kind with⟨e',hk⟩|hk<;>simp[Builtin.append_,run_underlying ht,run_underlying hk,sizeOf,typeInfo,hi,hs.len,jh,hs.cells,ha,h1]
end
end Go.Am
end
section
namespace Go.Am
section
variable {P:Program} {w0:World} {own0:Nat→Prop} {hvs:List Value×List Deferred} {G:Nat→Option (List PV)} {S0:Nat→Prop} {accs:List Nat}
 {γ:Nat→Option Nat} {S:Nat→Prop} {st:St} {a:Act} {w:World} {o:Oper} {kn:Nat}
 (h:dW w0 own0 hvs G γ S st a w)
include h
theorem dW.setObj {id:Nat} {ob ob':Obj} (hid:aj st.mem id=some ob)
  (hR:∀x v,bI x=some id→Ref γ S w st.mem x v→Ref γ S w (st.aq id ob').mem x v)
  (hO:(∀x v,Ref γ S w st.mem x v→Ref γ S w (st.aq id ob').mem x v)→eK γ S w (Ref γ S w (st.aq id ob').mem) id ob'):
  dW w0 own0 hvs G γ S (st.aq id ob') a w:=by
 have bO:=bT hid;have hl:=bf.refl S w
 have hρ:∀x v,Ref γ S w st.mem x v→Ref γ S w (st.aq id ob').mem x v:=by
  intro x v hx
  by_cases hi:bI x=some id
  ·exact hR x v hi hx
  ·refine Ref.sO hl x v (fun mD GA hr hg=>?_) hx
   have MB:mD≠id:=fun e=>hi (e▸hr)
   exact⟨by simp only[St.aq,uQ bO,qai MB,hg],rfl,fun _ _=>⟨rfl,rfl⟩⟩
 exact{h with
     slot:=fun i=>lF.later hl hρ _ (h.slot i),held:=au.later hl hρ _ h.held
     mem:=fun mD GA hg=>by
      by_cases hi:mD=id
      ·subst hi;simp only[St.aq,uQ bO,qax,qaa]at hg;subst hg;exact hO hρ
      ·simp only[St.aq,uQ bO,qai hi]at hg;exact eK.later hl hρ rfl (fun _ _=>rfl) (h.mem mD GA hg)
     lU:=fun i b' hg=>by
      simp only[St.aq,uQ bO]
      by_cases hi:i=id
      ·simp[hi]
      ·simp only[qai hi];exact h.lU i b' hg}
theorem dW.renew {id:Nat} {Tw ob:Obj} (hid:aj st.mem id=some Tw) (c:Array Value) (e:TypeId)
  (hR:∀x v,bI x=some id→Ref γ S w st.mem x v→Ref (dp γ id (some w.heap.size)) S (w.alloc (.cells c e)) (st.aq id ob).mem x v)
  (ho:(∀x v,Ref γ S w st.mem x v→Ref (dp γ id (some w.heap.size)) S (w.alloc (.cells c e)) (st.aq id ob).mem x v)→bf S w S (w.alloc (.cells c e))→
   eK (dp γ id (some w.heap.size)) S (w.alloc (.cells c e)) (Ref (dp γ id (some w.heap.size)) S (w.alloc (.cells c e)) (st.aq id ob).mem) id ob):
  dW w0 own0 hvs G (dp γ id (some w.heap.size)) S (st.aq id ob) a (w.alloc (.cells c e)):=by
 have hl:=tD h (.cells c e);have bO:=bT hid
 have hb:∀i b,γ i=some b→(w.alloc (.cells c e)).heap[b]? =w.heap[b]?:=fun i b hb=>et (h.eJ i b hb)
 have hρ:∀x v,Ref γ S w st.mem x v→Ref (dp γ id (some w.heap.size)) S (w.alloc (.cells c e)) (st.aq id ob).mem x v:=by
  intro x v hx
  by_cases hi:bI x=some id
  ·exact hR x v hi hx
  ·refine Ref.sO hl x v (fun mD GA hr hg=>?_) hx
   have MB:mD≠id:=fun e=>hi (e▸hr)
   exact⟨by simp only[St.aq,uQ bO,qai MB,hg],by simp only[dp,qai MB],fun b' fP=>dC (hb mD b' fP)⟩
 exact{
     size:=h.size,slot:=fun i=>lF.later hl hρ _ (h.slot i),held:=au.later hl hρ _ h.held,defers:=h.defers
     mem:=fun mD ob' hg=>by
      by_cases hi:mD=id
      ·subst hi;simp only[St.aq,uQ bO,qax,qaa]at hg;subst hg;exact ho hρ hl
      ·simp only[St.aq,uQ bO,qai hi]at hg;exact eK.later hl hρ (by simp only[dp,qai hi]) (hb mD) (h.mem mD ob' hg)
     lU:=fun i b hg=>by
      simp only[St.aq,uQ bO]
      by_cases hi:i=id
      ·simp[hi]
      ·simp only[dp,qai hi]at hg ⊢;exact h.lU i b hg
     inj:=fun i j b hi hj=>by
      simp only[dp]at hi hj;split at hi<;>split at hj
      ·rename_i e1 e2;rw[e1,e2]
      ·simp only[qaa]at hi;subst hi;have:=h.eJ j _ hj;omega
      ·simp only[qaa]at hj;subst hj;have:=h.eJ i _ hi;omega
      ·exact h.inj i j b hi hj
     own:=fun i b hi=>by
      simp only[dp]at hi;split at hi
      ·simp only[qaa]at hi;subst hi;exact⟨fun hS=>by have:=h.bound _ hS;omega,.inl h.eY⟩
      ·exact h.own i b hi
     bound:=fun b hb=>by simp;have:=h.bound b hb;omega
     eJ:=fun i b hi=>by
      simp only[dp]at hi;simp only[World.size_alloc];split at hi
      ·simp only[qaa]at hi;omega
      ·have:=h.eJ i b hi;omega
     jn:=fun g row hg=>by
      obtain⟨h1,c,h2,h3,h4⟩:=h.jn g row hg;exact⟨h1,c,((hl g h1).2.1).trans h2,dm.later hl row h3,h4⟩
     kept:=fun b hb hn=>(et (by have:=h.eY;omega)).trans (h.kept b hb hn)
     os:=h.os,tape:=h.tape,output:=h.output
     eY:=by simp;have:=h.eY;omega}
omit h in
theorem jY {γ':Nat→Option Nat} {S':Nat→Prop} {w':World} {id sz bq:Nat} {rs N3:List (List PV)} (hid:aj st.mem id=some (.rows sz rs bq)) (x:AV) (v:Value) (hx:bI x=some id)
  (hr:Ref γ S w st.mem x v):Ref γ' S' w' (st.aq id (.rows sz N3 (bq+1))).mem x v:=by
 have bO:=bT hid
 cases x with
 |c8 i2 v2=>
  simp only[bI,qaa]at hx;subst hx;simp only[Ref,hid]at hr;simp only[Ref,St.aq,uQ bO,qax];exact⟨⟨by omega,hr.1.2⟩,fun e=>by omega⟩
 |cR i2 v2 j2 o2=>
  simp only[bI,qaa]at hx;subst hx;simp only[Ref,hid]at hr;simp only[Ref,St.aq,uQ bO,qax];exact⟨⟨by omega,hr.1.2⟩,fun e=>by omega⟩
 |ptr i2 o2=>
  simp only[bI,qaa]at hx;subst hx;simp only[Ref,hid]at hr
 |dt i2=>
  simp only[bI,qaa]at hx;subst hx;simp only[Ref,hid]at hr
 |eT i2 o2=>
  simp only[bI,qaa]at hx;subst hx;simp only[Ref,hid]at hr
 |_=>simp[bI]at hx
omit h in
theorem lj {γ':Nat→Option Nat} {S':Nat→Prop} {w':World} {id sz bq:Nat} {rs N3:List (List AV)} (hid:aj st.mem id=some (.cg sz rs bq)) (x:AV) (v:Value) (hx:bI x=some id)
  (hr:Ref γ S w st.mem x v):Ref γ' S' w' (st.aq id (.cg sz N3 (bq+1))).mem x v:=by
 have bO:=bT hid
 cases x with
 |c8 i2 v2=>
  simp only[bI,qaa]at hx;subst hx;simp only[Ref,hid]at hr;simp only[Ref,St.aq,uQ bO,qax];exact⟨⟨by omega,hr.1.2⟩,fun e=>by omega⟩
 |cR i2 v2 j2 o2=>
  simp only[bI,qaa]at hx;subst hx;simp only[Ref,hid]at hr;simp only[Ref,St.aq,uQ bO,qax];exact⟨⟨by omega,hr.1.2⟩,fun e=>by omega⟩
 |ptr i2 o2=>
  simp only[bI,qaa]at hx;subst hx;simp only[Ref,hid]at hr
 |dt i2=>
  simp only[bI,qaa]at hx;subst hx;simp only[Ref,hid]at hr
 |eT i2 o2=>
  simp only[bI,qaa]at hx;subst hx;simp only[Ref,hid]at hr
 |_=>simp[bI]at hx
omit h in
theorem A8 {mem:List (Option Obj)} {x:AV} {v:Value} (hr:Ref γ S w mem x v):Ref γ S w.drew mem x v:=
 Ref.later (γ:=γ) (γ':=γ) (S:=S) (S':=S) (w:=w) (w':=w.drew) (mem:=mem) (mem':=mem) (fun b hb=>⟨hb,rfl,rfl⟩) (fun id ob hm=>⟨hm,rfl,fun b _=>⟨rfl,rfl⟩⟩) x v hr
omit h in
theorem vj (uj old:Nat) (e:TypeId):uj≤grownCap w uj old e:=by
 unfold grownCap Question.cut;exact Nat.le_add_right _ _
variable (bg:∀b,S0 b→S b) (Cy:∀b,S b→S0 b∨w0.heap.size≤b∨own0 b)
include bg Cy
theorem H8 {t u e:TypeId} {sz bytes:Nat} {z:List PV} {x y:Operand} {x' y':bR} {c:Call} (ho:o.op=.call c) (hc:c.callee=.builtin .append) (ha:c.args=#[x,y]) (pY:c.argTypes=#[t,u])
  (ht:P.underlying t=some (.slice e)) (dH:dK P e=some sz) (vf:nu P e=some bytes) (hzt:gT P e=some z) (GI:z.length=sz)
  (hu:(∃e',P.underlying u=some (.slice e'))∨(P.underlying u=some .string∧sz=1)) (hx:aZ G x=some x') (hy:aZ G y=some y'):
  cj P w0 own0 hvs G S0 o a w st kn γ S (KA aF kn (.app sz bytes x' y') st.ev):=by
 have h1:=h.fR hx;have h2:=h.fR hy;obtain⟨i,zv,hi,EO,ER,_⟩:=gV (S:=S) (w:=w) hzt
 have LF:i.bytes=bytes:=by simpa[nu,hi]using vf
 have qR:i.size=sz:=by simpa[dK,hi]using dH
 have hzc:zv.cells.size=sz:=by rw[←GI,←aM.length ER];simp
 have bN:∀v w',(Builtin.append_ #[t,u] o.type #[a.eval x,a.eval y]).run P w=.ok v w'→(execOp a.eval o).run P w=.ok (.value v) w':=by
  intro v w' hv;simp only[execOp,ho,resolve,hc,ha,pY,Sem.run_bind,Sem.run_pure,Result.andThen_ok,invoke,builtin];simp only[qb1,qaj,qaF,hv,Result.andThen_ok]
 have pvp:∀ys,gE aF (st.ev y')=some ys→
   (∀xs,st.ev x'=.full xs→ep P w0 own0 hvs G S0 o a w st kn γ S (.jK (aF.oj xs ys bytes sz∧aF.Qn xs ys) (.rows sz (aF.oi xs ys) 0) (.c8 kn 0)))∧
   (∀id bq rs,st.ev x'=.c8 id bq→aj st.mem id=some (.rows sz rs bq)→ep P w0 own0 hvs G S0 o a w st kn γ S (.ix (aF.oj rs ys bytes sz) id (.rows sz (aF.oi rs ys) (bq+1)) (.c8 id (bq+1)))):=by
  intro ys xS
  have grow:∀(xs:List (List PV)) (base:Option Addr) (cap:Nat) (olds news:List Value),a.eval x=.slice base xs.length cap→cap<xs.length+ys.length→aF.oj xs ys bytes sz→
    aM S w xs.flatten olds→olds.length=xs.length*sz→(Builtin.firstCells sz xs.length (.slice base xs.length cap)).run P w.drew=.ok olds.toArray w.drew→
    Src P sz u (a.eval y) ys.length news w→aM S w ys.flatten news→
    ∃(c:Array Value) (nc:Nat),(execOp a.eval o).run P w=.ok (.value (.slice (some ⟨w.heap.size,0,none⟩) (xs.length+ys.length) nc)) (w.drew.alloc (.cells c e))∧xs.length+ys.length≤nc∧c.size=nc*sz∧
     aK sz (xs++ys)∧∀{S':Nat→Prop} {w':World},bf S w S' w'→bM S' w' (xs++ys) c 0:=by
   intro xs base cap olds news hxv GJ fF Xt H9 hold iG Hg;obtain⟨q1,q2,q3,q4⟩:=fF;have bS:aK sz (xs++ys):=q4.append (fun r hr=>(q3 r hr).1);have Xu:=nextslicecap_le GJ;have x7:=vj (w:=w) (xs.length+ys.length) cap e
   have Ia:Builtin.nextslicecap (xs.length+ys.length) cap*i.bytes≤281474976710656:=by
    rw[LF];have:=qaL bytes Xu
    have e1:(2*(xs.length+ys.length)+512)*bytes=2*((xs.length+ys.length+256)*bytes):=by
     rw[←Nat.mul_assoc,show 2*(xs.length+ys.length+256)=2*(xs.length+ys.length)+512 by omega]
    omega
   have hr:=run_append_grow_src (P:=P) w t u o.type e i zv ht hi EO base xs.length cap olds (by rw[qR];exact hold) (a.eval y) ys.length news (by rw[qR];exact iG) GJ (by omega) Ia;refine⟨_,_,bN _ _ (by rw[hxv];exact hr),x7,?_,bS,fun hl=>?_⟩
   ·have Ib:=iG.newsLen;simp only[qdr,qb9,qal,H9,Ib,Builtin.zeroCells,Array.size_map,qdv,hzc];rw[←qaS,←qaS];congr 1;omega
   ·refine bM.of_flat (w:=_) h bg Cy (vs:=olds++news) (by rw[qbZ];exact aM.append (aM.later hl _ Xt) (aM.later hl _ Hg)) fun j v hj=>?_
    rw[qaA,qb8 (by simpa using (qat.1 hj).1)];simpa using hj
  refine⟨?_,?_⟩
  ·intro xs bZ;have h1:=h1;rw[bZ]at h1;simp only[lF]at h1;obtain⟨a0,hxv,hd⟩:=h1;intro hm bO;rintro⟨fF,MB⟩;have eL:=fF.2.2.1;obtain⟨news,iG,Hg⟩:=pJ (P:=P) (tx:=u) (sz:=sz) xS h2 eL hu
   by_cases CN:ys=[]
   ·have hxn:xs=[]:=by
     rcases MB with MB|MB
     ·exact MB
     ·exact absurd CN MB
    subst CN;subst hxn
    have vk:news=[]:=by have:=iG.newsLen;simpa using this
    subst vk;have hr:=run_append_nothing (P:=P) w t u o.type e i ht hi a0 0 0 (qak _) (a.eval y) (by rw[qR];exact iG);refine⟨_,w,γ,S,.inl (bN _ _ (by rw[hxv];exact hr)),bg,Cy,dW.C9 h hm bO sz 0,?_⟩;simp only[lF,Ref,St.aq,uQ bO,qax];exact⟨⟨qak _,rfl⟩,fun _=>⟨a0,0,rfl,by simp[aF],.inl rfl⟩⟩
   ·have x8:0<ys.length:=qbm.2 CN
    have hold:∃olds:List Value,aM S w xs.flatten olds∧olds.length=xs.length*sz∧(Builtin.firstCells sz xs.length (.slice a0 xs.length xs.length)).run P w.drew=.ok olds.toArray w.drew:=by
     rcases hd with hd|⟨b,off,cc,lM,xd,K6,Xv,k1,k2⟩
     ·subst hd;exact⟨[],by simp only[qa6,aM],by simp,by cases a0<;>simp[Builtin.firstCells,loadCells,loadCellsFrom]⟩
     ·subst xd;obtain⟨vs,j1,j2,j3⟩:=bM.flat fF.2.2.2 k2;exact⟨vs,j1,j2,dh (w:=w.drew) Xv j2 j3⟩
    obtain⟨olds,o1,o2,o3⟩:=hold;obtain⟨cc,nc,g1,g2,g3,g4,g5⟩:=grow xs a0 xs.length olds news hxv (by omega) fF o1 o2 o3 iG Hg;have key:=dW.new (dW.drew h) hm bO (.rows sz (xs++ys) 0) cc e (fun hρ hl=>.inr ⟨w.heap.size,cc,e,by simp[dp],heap_alloc_new,by rw[g3,qal];exact qaL _ g2,g4,g5 hl⟩);refine⟨_,_,_,S,.inl g1,bg,Cy,key.1,?_⟩;simp only[lF,Ref,St.aq,uQ bO,qax];exact⟨⟨qak _,rfl⟩,fun _=>⟨_,nc,by simp[aF],by simpa[aF]using g2,.inr ⟨w.heap.size,cc,by simp[dp],rfl,ez,g3⟩⟩⟩
  ·intro id bq rs bZ bL;have h1:=h1;rw[bZ]at h1;simp only[lF,Ref]at h1;simp only[bL]at h1;intro fF;have eL:=fF.2.2.1;obtain⟨news,iG,Hg⟩:=pJ (P:=P) (tx:=u) (sz:=sz) xS h2 eL hu;obtain⟨a1,cap,q1,q2,q3⟩:=h1.2 trivial;have hO:=h.mem id _ bL
   by_cases CN:ys=[]
   ·subst CN
    have vk:news=[]:=by have:=iG.newsLen;simpa using this
    subst vk;have hr:=run_append_nothing (P:=P) w t u o.type e i ht hi a1 rs.length cap q2 (a.eval y) (by rw[qR];exact iG)
    have Df:aF.oi rs []=rs:=by simp[aF]
    refine⟨_,w,γ,S,.inl (bN _ _ (by rw[q1];exact hr)),bg,Cy,dW.setObj h bL (fun z v hz hv=>jY bL z v hz hv) (fun hρ=>?_),?_⟩
    ·rw[Df];exact eK.later (ob:=.rows sz rs bq) (bf.refl S w) hρ rfl (fun _ _=>rfl) hO
    ·simp only[lF,Ref,St.aq,uQ (bT bL),qax,Df];exact⟨⟨qak _,rfl⟩,fun _=>⟨a1,cap,rfl,q2,q3⟩⟩
   ·have x8:0<ys.length:=qbm.2 CN
    by_cases jh:rs.length+ys.length≤cap
    ·rcases q3 with q3|⟨b,cb,r1,r2,r3,r4⟩
     ·omega
     ·obtain⟨c1,e1,t1,t2,t3,t4⟩:=rows_block r1 hO;simp only[At,t1,qaa]at r3;subst r3;subst r2;obtain⟨w',c',g1,g2,g3,g4,g5,g6,g7,g8,g9⟩:=run_append_room (P:=P) (ty:=o.type) ht hi (by rw[qR];exact iG) jh t1 (by rw[qR];exact r4)
      have key:=dW.lg h bL r1 g5 g6 g7 g8 g9 (ob':=.rows sz (aF.oi rs ys) (bq+1)) (fun z v hz hv=>jY bL z v hz hv) (fun hρ hl=>by
       refine .inr ⟨b,c',e1,r1,g2,?_,?_,?_⟩
       ·rw[g3,r4];simp only[aF,qal];exact qaL _ jh
       ·simp only[aF];exact t3.append (fun r hr=>(eL r hr).1)
       ·simp only[aF];refine bM.append t3 ?_ ?_
        ·obtain⟨vs,j1,j2,j3⟩:=bM.flat t3 (bM.later hl _ t4)
         refine bM.of_flat h bg Cy j1 fun j v hj=>?_
         have xe:=(qat.1 hj).1;rw[qaA,g4,qai (by rw[qR];omega),←qaA j];exact j3 j v hj
        ·refine bM.of_flat h bg Cy (aM.later hl _ Hg) fun j v hj=>?_
         have xe:=(qat.1 hj).1
         rw[qaA,g4,qao (by rw[qR];omega),qR,show rs.length*sz+j-rs.length*sz=j by omega];exact hj)
      refine⟨_,w',γ,S,.inl (bN _ _ (by rw[q1];exact g1)),bg,Cy,key.1,?_⟩;simp only[lF,Ref,St.aq,uQ (bT bL),qax];exact⟨⟨qak _,rfl⟩,fun _=>⟨_,cap,by simp[aF],by simpa[aF]using jh,.inr ⟨b,c',r1,rfl,by simp[At,g2],by rw[g3,r4]⟩⟩⟩
    ·have hold:∃olds:List Value,aM S w rs.flatten olds∧olds.length=rs.length*sz∧(Builtin.firstCells sz rs.length (.slice a1 rs.length cap)).run P w.drew=.ok olds.toArray w.drew:=by
      rcases q3 with q3|⟨b,cb,r1,r2,r3,r4⟩
      ·have:rs=[]:=qa2 (by omega);subst this;exact⟨[],by simp only[qa6,aM],by simp,by cases a1<;>simp[Builtin.firstCells,loadCells,loadCellsFrom]⟩
      ·obtain⟨c1,e1,t1,t2,t3,t4⟩:=rows_block r1 hO;subst r2;obtain⟨vs,j1,j2,j3⟩:=bM.flat t3 t4;exact⟨vs,j1,j2,dh (w:=w.drew) (by show At w b=_;simp[At,t1]) j2 j3⟩
     obtain⟨olds,o1,o2,o3⟩:=hold;obtain⟨cc,nc,g1,g2,g3,g4,g5⟩:=grow rs a1 cap olds news q1 (by omega) fF o1 o2 o3 iG Hg;have key:=dW.renew (dW.drew h) bL (ob:=.rows sz (aF.oi rs ys) (bq+1)) cc e (fun z v hz hv=>jY bL z v hz hv) (fun hρ hl=>.inr ⟨w.heap.size,cc,e,by simp[dp],heap_alloc_new,by rw[g3];simp only[aF,qal];exact qaL _ g2,by simpa only[aF]using g4,by simpa only[aF]using g5 hl⟩)
     refine⟨_,_,_,S,.inl g1,bg,Cy,key,?_⟩;simp only[lF,Ref,St.aq,uQ (bT bL),qax];exact⟨⟨qak _,rfl⟩,fun _=>⟨_,nc,by simp[aF],by simpa[aF]using g2,.inr ⟨w.heap.size,cc,by simp[dp],rfl,ez,g3⟩⟩⟩
 have avp:∀ys,pB aF (st.ev y')=some ys→
   (∀xs,st.ev x'=.full xs→ep P w0 own0 hvs G S0 o a w st kn γ S (.jK (aF.AL (xs.map (·.map .pv)) ys bytes sz∧ys≠[]) (.cg sz (aF.yT (xs.map (·.map .pv)) ys) 0) (.c8 kn 0)))∧
   (∀id bq rs,st.ev x'=.c8 id bq→aj st.mem id=some (.cg sz rs bq)→ep P w0 own0 hvs G S0 o a w st kn γ S (.ix (aF.AL rs ys bytes sz) id (.cg sz (aF.yT rs ys) (bq+1)) (.c8 id (bq+1)))):=by
  intro ys xS
  have grow:∀(xs:List (List AV)) (base:Option Addr) (cap:Nat) (olds news:List Value),a.eval x=.slice base xs.length cap→cap<xs.length+ys.length→aF.AL xs ys bytes sz→
    au S w (Ref γ S w st.mem) xs.flatten olds→olds.length=xs.length*sz→(Builtin.firstCells sz xs.length (.slice base xs.length cap)).run P w.drew=.ok olds.toArray w.drew→
    Src P sz u (a.eval y) ys.length news w→au S w (Ref γ S w st.mem) ys.flatten news→
    ∃(c:Array Value) (nc:Nat),(execOp a.eval o).run P w=.ok (.value (.slice (some ⟨w.heap.size,0,none⟩) (xs.length+ys.length) nc)) (w.drew.alloc (.cells c e))∧xs.length+ys.length≤nc∧c.size=nc*sz∧
     (∀r∈xs++ys,r.length=sz)∧∀{S':Nat→Prop} {w':World} {ρ':AV→Value→Prop},bf S w S' w'→(∀x v,Ref γ S w st.mem x v→ρ' x v)→bU S' w' ρ' (xs++ys) c 0:=by
   intro xs base cap olds news hxv GJ fF Xt H9 hold iG Hg;obtain⟨q1,q2,q3,q4⟩:=fF
   have bS:∀r∈xs++ys,r.length=sz:=fun r hr=>(qav.1 hr).elim (q4 r) (fun h=>(q3 r h).1)
   have Xu:=nextslicecap_le GJ;have x7:=vj (w:=w) (xs.length+ys.length) cap e
   have Ia:Builtin.nextslicecap (xs.length+ys.length) cap*i.bytes≤281474976710656:=by
    rw[LF];have:=qaL bytes Xu
    have e1:(2*(xs.length+ys.length)+512)*bytes=2*((xs.length+ys.length+256)*bytes):=by
     rw[←Nat.mul_assoc,show 2*(xs.length+ys.length+256)=2*(xs.length+ys.length)+512 by omega]
    omega
   have hr:=run_append_grow_src (P:=P) w t u o.type e i zv ht hi EO base xs.length cap olds (by rw[qR];exact hold) (a.eval y) ys.length news (by rw[qR];exact iG) GJ (by omega) Ia;refine⟨_,_,bN _ _ (by rw[hxv];exact hr),x7,?_,bS,fun hl hρ=>?_⟩
   ·have Ib:=iG.newsLen;simp only[qdr,qb9,qal,H9,Ib,Builtin.zeroCells,Array.size_map,qdv,hzc];rw[←qaS,←qaS];congr 1;omega
   ·refine bU.of_flat (vs:=olds++news) (by rw[qbZ];exact au.append (au.later hl hρ _ Xt) (au.later hl hρ _ Hg)) fun j v hj=>?_
    rw[qaA,qb8 (by simpa using (qat.1 hj).1)];simpa using hj
  refine⟨?_,?_⟩
  ·intro xs bZ;have h1:=h1;rw[bZ]at h1;simp only[lF]at h1;obtain⟨a0,hxv,hd⟩:=h1;intro hm bO;rintro⟨fF,MB⟩;have eL:=fF.2.2.1;obtain⟨news,iG,Hg⟩:=A7 (P:=P) (tx:=u) (sz:=sz) xS h2 eL hu
   by_cases CN:ys=[]
   ·exact absurd CN MB
   ·have x8:0<ys.length:=qbm.2 CN
    have hold:∃olds:List Value,au S w (Ref γ S w st.mem) (xs.map (·.map AV.pv)).flatten olds∧olds.length=xs.length*sz∧(Builtin.firstCells sz xs.length (.slice a0 xs.length xs.length)).run P w.drew=.ok olds.toArray w.drew:=by
     rcases hd with hd|⟨b,off,cc,lM,xd,K6,Xv,k1,k2⟩
     ·subst hd;exact⟨[],by simp only[qaF,qa6,au],by simp,by cases a0<;>simp[Builtin.firstCells,loadCells,loadCellsFrom]⟩
     ·subst xd;obtain⟨vs,j1,j2,j3⟩:=bM.flat (sz:=sz) (fun r hr=>by simpa using fF.2.2.2 _ (qbP (f:=fun l=>l.map AV.pv) hr)) k2;exact⟨vs,by rw[map_flatten];exact aM.av j1,j2,dh (w:=w.drew) Xv j2 j3⟩
    obtain⟨olds,o1,o2,o3⟩:=hold;obtain⟨cc,nc,g1,g2,g3,g4,g5⟩:=grow (xs.map (·.map AV.pv)) a0 xs.length olds news (by rw[qap];exact hxv) (by rw[qap];omega) fF o1 (by rw[qap];exact o2) (by rw[qap];exact o3) iG Hg;rw[qap]at g1 g2;have key:=dW.new (dW.drew h) hm bO (.cg sz ((xs.map (·.map AV.pv))++ys) 0) cc e (fun hρ hl=>.inr ⟨w.heap.size,cc,e,by simp[dp],heap_alloc_new,by rw[g3,qal,qap];exact qaL _ g2,g4,g5 hl (fun x v hx=>hρ x v (A8 hx))⟩)
    refine⟨_,_,_,S,.inl g1,bg,Cy,key.1,?_⟩;simp only[lF,Ref,St.aq,uQ bO,qax];exact⟨⟨qak _,rfl⟩,fun _=>⟨_,nc,by simp[aF],by simpa[aF]using g2,.inr ⟨w.heap.size,cc,by simp[dp],rfl,ez,g3⟩⟩⟩
  ·intro id bq rs bZ bL;have h1:=h1;rw[bZ]at h1;simp only[lF,Ref]at h1;simp only[bL]at h1;intro fF;have eL:=fF.2.2.1;obtain⟨news,iG,Hg⟩:=A7 (P:=P) (tx:=u) (sz:=sz) xS h2 eL hu;obtain⟨a1,cap,q1,q2,q3⟩:=h1.2 trivial;have hO:=h.mem id _ bL
   by_cases CN:ys=[]
   ·subst CN
    have vk:news=[]:=by have:=iG.newsLen;simpa using this
    subst vk;have hr:=run_append_nothing (P:=P) w t u o.type e i ht hi a1 rs.length cap q2 (a.eval y) (by rw[qR];exact iG)
    have Df:aF.yT rs []=rs:=by simp[aF]
    refine⟨_,w,γ,S,.inl (bN _ _ (by rw[q1];exact hr)),bg,Cy,dW.setObj h bL (fun z v hz hv=>lj bL z v hz hv) (fun hρ=>?_),?_⟩
    ·rw[Df]at hρ ⊢;exact eK.later (ob:=.cg sz rs bq) (bf.refl S w) hρ rfl (fun _ _=>rfl) hO
    ·simp only[lF,Ref,St.aq,uQ (bT bL),qax,Df];exact⟨⟨qak _,rfl⟩,fun _=>⟨a1,cap,rfl,q2,q3⟩⟩
   ·have x8:0<ys.length:=qbm.2 CN
    by_cases jh:rs.length+ys.length≤cap
    ·rcases q3 with q3|⟨b,cb,r1,r2,r3,r4⟩
     ·omega
     ·obtain⟨c1,e1,t1,t2,t3,t4⟩:=kf r1 hO;simp only[At,t1,qaa]at r3;subst r3;subst r2;obtain⟨w',c',g1,g2,g3,g4,g5,g6,g7,g8,g9⟩:=run_append_room (P:=P) (ty:=o.type) ht hi (by rw[qR];exact iG) jh t1 (by rw[qR];exact r4)
      have key:=dW.lg h bL r1 g5 g6 g7 g8 g9 (ob':=.cg sz (aF.yT rs ys) (bq+1)) (fun z v hz hv=>lj bL z v hz hv) (fun hρ hl=>by
       refine .inr ⟨b,c',e1,r1,g2,?_,?_,?_⟩
       ·rw[g3,r4];simp only[aF,qal];exact qaL _ jh
       ·simp only[aF];exact fun r hr=>(qav.1 hr).elim (t3 r) (fun h=>(eL r h).1)
       ·simp only[aF];refine bU.append t3 ?_ ?_
        ·obtain⟨vs,j1,j2,j3⟩:=bU.flat t3 (bU.later hl hρ t4)
         refine bU.of_flat j1 fun j v hj=>?_
         have xe:=(qat.1 hj).1;rw[qaA,g4,qai (by rw[qR];omega),←qaA j];exact j3 j v hj
        ·refine bU.of_flat (au.later hl hρ _ Hg) fun j v hj=>?_
         have xe:=(qat.1 hj).1
         rw[qaA,g4,qao (by rw[qR];omega),qR,show rs.length*sz+j-rs.length*sz=j by omega];exact hj)
      refine⟨_,w',γ,S,.inl (bN _ _ (by rw[q1];exact g1)),bg,Cy,key.1,?_⟩;simp only[lF,Ref,St.aq,uQ (bT bL),qax];exact⟨⟨qak _,rfl⟩,fun _=>⟨_,cap,by simp[aF],by simpa[aF]using jh,.inr ⟨b,c',r1,rfl,by simp[At,g2],by rw[g3,r4]⟩⟩⟩
    ·have hold:∃olds:List Value,au S w (Ref γ S w st.mem) rs.flatten olds∧olds.length=rs.length*sz∧(Builtin.firstCells sz rs.length (.slice a1 rs.length cap)).run P w.drew=.ok olds.toArray w.drew:=by
      rcases q3 with q3|⟨b,cb,r1,r2,r3,r4⟩
      ·have:rs=[]:=qa2 (by omega);subst this;exact⟨[],by simp only[qa6,au],by simp,by cases a1<;>simp[Builtin.firstCells,loadCells,loadCellsFrom]⟩
      ·obtain⟨c1,e1,t1,t2,t3,t4⟩:=kf r1 hO;subst r2;obtain⟨vs,j1,j2,j3⟩:=bU.flat t3 t4;exact⟨vs,j1,j2,dh (w:=w.drew) (by show At w b=_;simp[At,t1]) j2 j3⟩
     obtain⟨olds,o1,o2,o3⟩:=hold;obtain⟨cc,nc,g1,g2,g3,g4,g5⟩:=grow rs a1 cap olds news q1 (by omega) fF o1 o2 o3 iG Hg;have key:=dW.renew (dW.drew h) bL (ob:=.cg sz (aF.yT rs ys) (bq+1)) cc e (fun z v hz hv=>lj bL z v hz hv) (fun hρ hl=>.inr ⟨w.heap.size,cc,e,by simp[dp],heap_alloc_new,by rw[g3];simp only[aF,qal];exact qaL _ g2,by simpa only[aF]using g4,by simpa only[aF]using g5 hl (fun x v hx=>hρ x v (A8 hx))⟩)
     refine⟨_,_,_,S,.inl g1,bg,Cy,key,?_⟩;simp only[lF,Ref,St.aq,uQ (bT bL),qax];exact⟨⟨qak _,rfl⟩,fun _=>⟨_,nc,by simp[aF],by simpa[aF]using g2,.inr ⟨w.heap.size,cc,by simp[dp],rfl,ez,g3⟩⟩⟩
 simp only[KA,yY];split
 ·rename_i xs bZ
  cases hem:uv xs (st.ev y')with
  |true=>
   have Tx:st.ev y'=.full []:=by
    unfold uv at hem;split at hem
    ·assumption
    ·cases hem
   have xS:gE aF (st.ev y')=some []:=by rw[Tx];rfl
   have LH:=h1;rw[bZ]at h1;simp only[lF]at h1;obtain⟨a0,hxv,hd⟩:=h1;obtain⟨news,iG,Hg⟩:=pJ (P:=P) (tx:=u) (sz:=sz) xS h2 (fun r hr=>by cases hr) hu
   have vk:news=[]:=by have:=iG.newsLen;simpa using this
   subst vk;have hr:=run_append_nothing (P:=P) w t u o.type e i ht hi a0 xs.length xs.length (qak _) (a.eval y) (by rw[qR];exact iG);refine⟨_,w,γ,S,.inl (bN _ _ (by rw[hxv];exact hr)),bg,Cy,h,?_⟩;simp only[lF];exact⟨a0,rfl,hd⟩
  |false=>
   simp only
   cases xS:gE aF (st.ev y')with
   |some ys=>exact(pvp ys xS).1 xs bZ
   |none=>
    simp only;split
    ·rename_i ys Tx;exact(avp ys (by rw[Tx];rfl)).1 xs bZ
    ·trivial
 ·rename_i id bq bZ;intro ob bL
  cases ob with
  |rows lM rs bm=>
   by_cases kQ:sz=lM
   ·subst kQ
    by_cases hv:bq=bm
    ·subst hv;simp only[qau]
     cases xS:gE aF (st.ev y')with
     |some ys=>exact(pvp ys xS).2 id bq rs bZ bL
     |none=>trivial
    ·simp only[qau,qar.2 hv];trivial
   ·simp only[qar.2 kQ];trivial
  |cg lM rs bm=>
   by_cases kQ:sz=lM
   ·subst kQ
    by_cases hv:bq=bm
    ·subst hv;simp only[qau]
     cases xS:pB aF (st.ev y')with
     |some ys=>exact(avp ys xS).2 id bq rs bZ bL
     |none=>trivial
    ·simp only[qau,qar.2 hv];trivial
   ·simp only[qar.2 kQ];trivial
  |_=>trivial
 ·trivial
end
end Go.Am
end
section
namespace Go.Am
def rh (G:Nat→Option (List PV)) (S:Nat→Prop) (w:World):Prop:=∀g row,G g=some row→S g∧∃c,At w g=some c∧dm S w row c 0∧c.size=row.length
def dN (P:Program) (f:FuncId) (args:Array Value) (w:World) (R:Value→World→Prop):Prop:=
 match(callFunc f args).run P w with
 |.ok (.enter f' A9) w'=>Calls P f' A9 w' fun e tA=>∃v,e=.returned v∧R v tA
 |.ok (.value v) w'=>R v w'
 |.ok (.row row A9) w'=>Rows P row A9 w' R
 |_=>False
def bE (P:Program) (G:Nat→Option (List PV)) (f:FuncId) (ps:List PV) (res:PV):Prop:=
 ∀(S:Nat→Prop) (w:World) (vs:List Value),(∀b,S b→b<w.heap.size)→rh G S w→aM S w ps vs→
  dN P f vs.toArray w fun v w'=>RowKit.Below w.heap.size w w'∧aD (fun b=>S b∨(w.heap.size≤b∧b<w'.heap.size)) w' res v
theorem lk {S S':Nat→Prop} {w w':World}:∀{ps:List PV} {vs:List Value},oD ps=true→aM S w ps vs→aM S' w' ps vs
 |[],_,_,h=>by simpa only[aM]using h
 |p::ps,vs,hs,h=>by
  simp only[aM]at h ⊢;obtain⟨v,r,rfl,h1,h2⟩:=h
  cases p with
  |bool b=>exact⟨v,r,rfl,by simpa only[aD]using h1,lk (by simpa only[oD]using hs) h2⟩
  |int k n=>exact⟨v,r,rfl,by simpa only[aD]using h1,lk (by simpa only[oD]using hs) h2⟩
  |str s=>exact⟨v,r,rfl,by simpa only[aD]using h1,lk (by simpa only[oD]using hs) h2⟩
  |_=>simp[oD]at hs
theorem ll {S S':Nat→Prop} {w w':World}:∀{ps:List PV} {vs:List Value},np ps=true→aM S w ps vs→aM S' w' ps vs
 |[],_,_,h=>by simpa only[aM]using h
 |p::ps,vs,hs,h=>by
  simp only[aM]at h ⊢;obtain⟨v,r,rfl,h1,h2⟩:=h
  cases p with
  |bool b=>exact⟨v,r,rfl,by simpa only[aD]using h1,ll (by simpa only[np]using hs) h2⟩
  |int k n=>exact⟨v,r,rfl,by simpa only[aD]using h1,ll (by simpa only[np]using hs) h2⟩
  |str s=>exact⟨v,r,rfl,by simpa only[aD]using h1,ll (by simpa only[np]using hs) h2⟩
  |agg cs=>
   simp only[np]at hs;split at hs
   ·rename_i hc;simp only[aD]at h1;obtain⟨us,rfl,h1⟩:=h1;exact⟨_,r,rfl,by simp only[aD];exact⟨us,rfl,lk hc h1⟩,ll hs h2⟩
   ·cases hs
  |_=>simp[np]at hs
theorem GK {S S':Nat→Prop} {w w':World} {p:PV} {v:Value} (hs:p.jf=true) (h:aD S w p v):aD S' w' p v:=by
 cases p with
 |bool b=>simpa only[aD]using h
 |int k n=>simpa only[aD]using h
 |str s=>simpa only[aD]using h
 |agg cs=>simp only[aD]at h ⊢;obtain⟨us,rfl,h1⟩:=h;exact⟨us,rfl,lk (by simpa only[PV.jf]using hs) h1⟩
 |eN cs=>simp only[aD]at h ⊢;obtain⟨us,rfl,h1⟩:=h;exact⟨us,rfl,ll (by simpa only[PV.jf]using hs) h1⟩
 |_=>simp[PV.jf]at hs
section
variable {P:Program} {w0:World} {own0:Nat→Prop} {hvs:List Value×List Deferred} {G:Nat→Option (List PV)} {S0:Nat→Prop} {accs:List Nat}
 {γ:Nat→Option Nat} {S:Nat→Prop} {st:St} {a:Act} {w:World} {o:Oper} {kn:Nat}
 (h:dW w0 own0 hvs G γ S st a w)
include h
def cV (γ:Nat→Option Nat) (S:Nat→Prop) (b:Bool):Nat→Prop:=fun k=>S k∨(b=true∧∃i,γ i=some k)
omit h in
theorem iW (b b':Bool) (hb:b=true→b'=true):bf (cV γ S b) w (cV γ S b') w:=fun _ hk=>⟨hk.imp (fun h=>h) (fun h=>⟨hb h.1,h.2⟩),rfl,rfl⟩
omit h in
theorem Ty {b b':Bool}:b=true→(match b with|true=>true|false=>b')=true:=by intro h;subst h;rfl
omit h in
theorem Tz {b b':Bool}:b'=true→(match b with|true=>true|false=>b')=true:=by intro h;cases b<;>simp[h]
theorem mT {x:AV} {v:Value} {p:PV} {b:Bool} (hx:mJ st.mem x=some (p,b)) (hr:lF S w (Ref γ S w st.mem) x v):aD (cV γ S b) w p v:=by
 have hl:∀b,bf S w (cV γ S b) w:=fun b k hk=>⟨.inl hk,rfl,rfl⟩
 cases x with
 |pv q=>simp only[mJ,qaa,qas]at hx;obtain⟨rfl,rfl⟩:=hx;simp only[lF]at hr;exact aD.later (hl _) _ hr
 |full rows=>
  simp only[mJ,qaa,qas]at hx;obtain⟨rfl,rfl⟩:=hx;exact aD.later (hl _) _ (fE (γ:=γ) (st:=st) (.full rows) (by simp only[AV.flat]) hr)
 |c8 id bq=>
  simp only[mJ]at hx;simp only[lF,Ref]at hr;split at hx
  ·rename_i sz rs bm hm;simp only[hm]at hr;split at hx
   ·rename_i hv
    have hv:bq=bm:=by simpa using hv
    simp only[qaa,qas]at hx;obtain⟨rfl,rfl⟩:=hx;obtain⟨a1,cap,q1,q2,q3⟩:=hr.2 hv;simp only[aD];refine⟨a1,cap,q1,by simpa using q2,?_⟩
    rcases q3 with q3|⟨k,c,r1,r2,r3,r4⟩
    ·exact .inl ⟨qa2 (by omega),trivial⟩
    ·obtain⟨c1,e1,t1,t2,t3,t4⟩:=rows_block r1 (h.mem id _ hm);exact .inr ⟨k,0,c1,sz,r2,.inr ⟨rfl,id,r1⟩,by simp[At,t1],t3,by simp[aK],bM.later (hl _) _ t4,by simp only[bM]⟩
   ·cases hx
  ·rename_i rs bm hm;simp only[hm]at hr;split at hx
   ·rename_i hv
    have hv:bq=bm:=by simpa using hv
    simp only[qaa,qas]at hx;obtain⟨rfl,rfl⟩:=hx;exact aD.later (hl _) _ (hr.2 hv)
   ·cases hx
  ·cases hx
 |dt id=>
  simp only[mJ]at hx;simp only[lF,Ref]at hr;split at hx
  ·rename_i kg vg kn rows hm;simp only[hm]at hr;simp only[qaa,qas]at hx;obtain⟨rfl,rfl⟩:=hx;obtain⟨k,hk,rfl⟩:=hr;obtain⟨k',es,ck,eR,h1,h2,h3⟩:=h.mem id _ hm;rw[hk]at eR;cases eR;simp only[aD];exact⟨k,es,ck,rfl,.inr ⟨rfl,id,hk⟩,by simp[YB,h1],h2,bV.later (hl _) _ h3⟩
  ·cases hx
 |_=>simp[mJ]at hx
theorem qS:∀{xs:List AV} {vs:List Value} {ps:List PV} {b:Bool},nk st.mem xs=some (ps,b)→au S w (Ref γ S w st.mem) xs vs→aM (cV γ S b) w ps vs
 |[],vs,ps,b,hx,hr=>by
  simp only[nk,qaa,qas]at hx;obtain⟨rfl,rfl⟩:=hx;simpa only[au,aM]using hr
 |x::xs,vs,ps,b,hx,hr=>by
  simp only[au]at hr;obtain⟨v,r,rfl,h1,h2⟩:=hr;simp only[nk]at hx;split at hx
  ·rename_i p b1 hp;split at hx
   ·rename_i qs b2 hq;simp only[qaa,qas]at hx;obtain⟨rfl,rfl⟩:=hx;simp only[aM];exact⟨v,r,rfl,aD.later (iW _ _ Ty) _ (mT h hp h1),aM.later (iW _ _ Tz) _ (qS hq h2)⟩
   ·cases hx
  ·cases hx
theorem jP {x:AV} {v:Value} {p:PV} {b:Bool} (hx:lR st.mem x=some (p,b)) (hr:lF S w (Ref γ S w st.mem) x v):aD (cV γ S b) w p v:=by
 cases x with
 |ptr id off=>
  cases off with
  |zero=>
   simp only[lR]at hx;simp only[lF,Ref]at hr;split at hx
   ·rename_i cs hm;simp only[hm]at hr;split at hx
    ·rename_i qs b2 hq;simp only[qaa,qas]at hx;obtain⟨rfl,rfl⟩:=hx;obtain⟨k,hk,rfl⟩:=hr;obtain⟨k',c,e,eR,hc,dH,WG⟩:=h.mem id _ hm;rw[hk]at eR;cases eR;obtain⟨us,u1,u2,u3⟩:=bB.list WG.1;have hL:=qS h hq u1;simp only[aD];exact⟨k,0,c,rfl,.inr ⟨rfl,id,hk⟩,by simp[At,hc],dm.eD (aM.later (iW _ _ (fun _=>rfl)) _ hL) u3⟩
    ·cases hx
   ·cases hx
  |succ n=>simp[lR,mJ]at hx
 |agg cs=>
  simp only[lR]at hx;split at hx
  ·rename_i qs b2 hq;simp only[qaa,qas]at hx;obtain⟨rfl,rfl⟩:=hx;simp only[lF]at hr;obtain⟨us,rfl,hr⟩:=hr;simp only[aD];exact⟨us,rfl,qS h hq hr⟩
  ·cases hx
 |pv q=>exact mT h (by simpa only[lR]using hx) hr
 |full q=>exact mT h (by simpa only[lR]using hx) hr
 |c8 id bq=>exact mT h (by simpa only[lR]using hx) hr
 |dt id=>exact mT h (by simpa only[lR]using hx) hr
 |_=>simp[lR,mJ]at hx
theorem qT:∀{xs:List AV} {vs:List Value} {ps:List PV} {b:Bool},sL st.mem xs=some (ps,b)→au S w (Ref γ S w st.mem) xs vs→aM (cV γ S b) w ps vs
 |[],vs,ps,b,hx,hr=>by
  simp only[sL,qaa,qas]at hx;obtain⟨rfl,rfl⟩:=hx;simpa only[au,aM]using hr
 |x::xs,vs,ps,b,hx,hr=>by
  simp only[au]at hr;obtain⟨v,r,rfl,h1,h2⟩:=hr;simp only[sL]at hx;split at hx
  ·rename_i p b1 hp;split at hx
   ·rename_i qs b2 hq;simp only[qaa,qas]at hx;obtain⟨rfl,rfl⟩:=hx;simp only[aM];exact⟨v,r,rfl,aD.later (iW _ _ Ty) _ (jP h hp h1),aM.later (iW _ _ Tz) _ (qT hq h2)⟩
   ·cases hx
  ·cases hx
theorem x9 {x:AV} {v:Value} {p:PV} {b:Bool} (hx:lS st.mem x=some (p,b)) (hr:lF S w (Ref γ S w st.mem) x v):aD (cV γ S b) w p v:=by
 cases x with
 |gM f cs=>
  simp only[lS]at hx;split at hx
  ·rename_i qs b2 hq;simp only[qaa,qas]at hx;obtain⟨rfl,rfl⟩:=hx;simp only[lF]at hr;obtain⟨us,rfl,hr⟩:=hr;simp only[aD];exact⟨us,rfl,qT h hq hr⟩
  ·cases hx
 |eN cs=>
  simp only[lS]at hx;split at hx
  ·rename_i qs b2 hq;simp only[qaa,qas]at hx;obtain⟨rfl,rfl⟩:=hx;simp only[lF]at hr;obtain⟨us,rfl,hr⟩:=hr;simp only[aD];exact⟨us,rfl,qT h hq hr⟩
  ·cases hx
 |pv q=>exact jP h (by simpa only[lS]using hx) hr
 |full q=>exact jP h (by simpa only[lS]using hx) hr
 |c8 id bq=>exact jP h (by simpa only[lS]using hx) hr
 |dt id=>exact jP h (by simpa only[lS]using hx) hr
 |agg cs=>exact jP h (by simpa only[lS]using hx) hr
 |ptr id off=>exact jP h (by simpa only[lS]using hx) hr
 |_=>simp[lS,lR,mJ]at hx
theorem ac5:∀{xs:List AV} {vs:List Value} {ps:List PV} {b:Bool},dB st.mem xs=some (ps,b)→au S w (Ref γ S w st.mem) xs vs→aM (cV γ S b) w ps vs
 |[],vs,ps,b,hx,hr=>by
  simp only[dB,qaa,qas]at hx;obtain⟨rfl,rfl⟩:=hx;simpa only[au,aM]using hr
 |x::xs,vs,ps,b,hx,hr=>by
  simp only[au]at hr;obtain⟨v,r,rfl,h1,h2⟩:=hr;simp only[dB]at hx;split at hx
  ·rename_i p b1 hp;split at hx
   ·rename_i qs b2 hq;simp only[qaa,qas]at hx;obtain⟨rfl,rfl⟩:=hx;simp only[aM];exact⟨v,r,rfl,aD.later (iW _ _ Ty) _ (x9 h hp h1),aM.later (iW _ _ Tz) _ (ac5 hq h2)⟩
   ·cases hx
  ·cases hx
theorem ya {args:List AV} {vs:List Value} {f:FuncId} {ps:List PV} {b:Bool} {res:PV} (bg:∀b,S0 b→S b) (Cy:∀b,S b→S0 b∨w0.heap.size≤b∨own0 b)
  (hl:dB st.mem args=some (ps,b)) (hr:au S w (Ref γ S w st.mem) args vs) (hC:bE P G f ps res) (hb:b=true→res.jf=true):
  dN P f vs.toArray w fun v w'=>∃S',(∀b,S0 b→S' b)∧(∀b,S' b→S0 b∨w0.heap.size≤b∨own0 b)∧dW w0 own0 hvs G γ S' st a w'∧lF S' w' (Ref γ S' w' st.mem) (.pv res) v:=by
 have bO:∀k,cV γ S b k→k<w.heap.size:=by
  intro k hk
  rcases hk with hk|⟨_,i,hk⟩
  ·exact h.bound k hk
  ·exact h.eJ i k hk
 have Xw:rh G (cV γ S b) w:=by
  intro g row hg;obtain⟨h1,c,h2,h3,h4⟩:=h.jn g row hg;exact⟨.inl h1,c,h2,dm.later (fun k hk=>⟨.inl hk,rfl,rfl⟩) row h3,h4⟩
 have:=hC (cV γ S b) w vs bO Xw (ac5 h hl hr)
 have key:∀v w',(RowKit.Below w.heap.size w w'∧aD (fun k=>cV γ S b k∨(w.heap.size≤k∧k<w'.heap.size)) w' res v)→
   ∃S',(∀b,S0 b→S' b)∧(∀b,S' b→S0 b∨w0.heap.size≤b∨own0 b)∧dW w0 own0 hvs G γ S' st a w'∧lF S' w' (Ref γ S' w' st.mem) (.pv res) v:=by
  intro v w' ⟨hB,hv⟩;obtain⟨k1,k2,k3⟩:=dW.grow h (w':=w') (S':=fun k=>S k∨(w.heap.size≤k∧k<w'.heap.size)) (fun k hk=>hB.block k hk) hB.size hB.os hB.tape hB.output (fun k hk=>.inl hk) (fun k hk=>hk);refine⟨_,fun k hk=>.inl (bg k hk),fun k hk=>?_,k1,?_⟩
  ·rcases hk with hk|hk
   ·exact Cy k hk
   ·exact .inr (.inl (by have:=h.eY;omega))
  ·simp only[lF]
   cases b with
   |true=>exact GK (hb rfl) hv
   |false=>
    refine aD.later (fun k hk=>⟨?_,rfl,rfl⟩) _ hv
    rcases hk with hk|hk
    ·rcases hk with hk|⟨hk,_⟩
     ·exact .inl hk
     ·cases hk
    ·exact .inr hk
 unfold dN at*
 split at this<;>first
  |exact this.mono fun e tA ⟨v,he,hq⟩=>⟨v,he,key v tA hq⟩
  |exact key _ _ this
  |exact this.mono fun v tA hq=>key v tA hq
  |exact this.elim
end
end Go.Am
end
section
namespace Go.Am
theorem ln:∀{a c b d:List PV},a.length=c.length→JK (a++b) (c++d)=(JK a c&&JK b d)
 |[],[],b,d,_=>by simp[JK]
 |x::a,y::c,b,d,h=>by
  have:=ln (a:=a) (c:=c) (b:=b) (d:=d) (by simpa using h)
  cases x<;>cases y<;>simp[JK,this,Bool.and_assoc]
 |[],_::_,_,_,h=>by simp at h
 |_::_,[],_,_,h=>by simp at h
theorem kJ:∀{t sh:List Nat} {a c b d:List PV},a.length=t.length→c.length=t.length→aR (t++sh) (a++b) (c++d)→aR t a c∧aR sh b d
 |[],_,[],[],_,_,_,_,h=>⟨by simp[aR],h⟩
 |k::t,sh,x::a,y::c,b,d,hl,LI,h=>by
  have ih:=fun h=>kJ (t:=t) (sh:=sh) (a:=a) (c:=c) (b:=b) (d:=d) (by simpa using hl) (by simpa using LI) h
  rcases k with _|_|_|k<;>cases x<;>cases y<;>first|(simp only[qaN,aR]at h;done)|(simp only[qaN,aR]at h ⊢;exact ih h)|(simp only[qaN,aR]at h ⊢;exact⟨⟨h.1,(ih h.2).1⟩,(ih h.2).2⟩)|simp_all [aR]
 |[],_,_::_,_,_,_,h,_,_=>by simp at h
 |[],_,_,_::_,_,_,_,h,_=>by simp at h
 |_::_,_,[],_,_,_,h,_,_=>by simp at h
 |_::_,_,_,[],_,_,_,h,_=>by simp at h
section
variable {P:Program} {S:Nat→Prop} {w:World}
def cG (P:Program) (S:Nat→Prop) (w:World) (t:TypeId) (ps:List PV) (v:Value):Prop:=
 match ey P t with
 |some true=>∃vs:List Value,v=.agg vs.toArray∧aM S w ps vs
 |_=>∃p,ps=[p]∧aD S w p v
theorem aM.take_drop {xs:List PV} {vs:List Value} (k:Nat) (h:aM S w xs vs):aM S w (xs.take k) (vs.take k)∧aM S w (xs.drop k) (vs.drop k):=by
 induction xs generalizing vs k with
 |nil=>simp only[aM]at h;subst h;simp[aM]
 |cons x xs ih=>
  simp only[aM]at h;obtain⟨v,r,rfl,h1,h2⟩:=h
  cases k with
  |zero=>simp only[qbo,qc9,aM];exact⟨trivial,v,r,rfl,h1,h2⟩
  |succ k=>
   obtain⟨i1,i2⟩:=ih k h2;simp only[qbl,List.drop_succ_cons,aM];exact⟨⟨v,_,rfl,h1,i1⟩,i2⟩
theorem lq {t:TypeId} {k off:Nat} {g:Bool} {vs:List Value} {ps:List PV} (hg:ey P t=some g) (hk:dK P t=some k) (oq:g=false→k=1) (hr:aM S w ps vs) (hle:off+k≤ps.length):
  ∃v,(part t vs.toArray off).run P w=.ok v w∧cG P S w t ((ps.drop off).take k) v:=by
 have hl:=aM.length hr;obtain⟨_,hd⟩:=aM.take_drop off hr;obtain⟨ht,_⟩:=aM.take_drop k hd
 cases g with
 |true=>
  refine⟨.agg (vs.toArray.extract off (off+k)),?_,?_⟩
  ·simp only[part,Sem.run_bind,ji hg,Result.andThen_ok,qax,run_sizeOf hk,Sem.run_pure]
  ·simp only[cG,hg];refine⟨_,?_,ht⟩
   congr 1
   simp[qcV]
 |false=>
  have WH:=oq rfl;subst WH
  have bO:off<vs.length:=by omega
  have hv:vs.toArray[off]? =some vs[off]:=by simp[bO]
  refine⟨vs[off],?_,?_⟩
  ·simp only[part,Sem.run_bind,ji hg,Result.andThen_ok,qaP,qaW,hv,Sem.run_pure]
  ·simp only[cG,hg]
   have C2:off<ps.length:=by omega
   have e1:(ps.drop off).take 1=[ps[off]]:=by rw[qbW C2];rfl
   have e2:(vs.drop off).take 1=[vs[off]]:=by rw[qbW bO];rfl
   rw[e1,e2]at ht;simp only[aM]at ht;obtain⟨v,r,he,h1,rfl⟩:=ht;simp only[qbn,qck]at he;exact⟨_,e1,he▸h1⟩
theorem rH {n d:Nat} (ih:∀(t:TypeId) (k:List Nat) (ps qs:List PV) (u v:Value),cQ P n t=some k→cG P S w t ps u→cG P S w t qs v→ps.length=k.length→qs.length=k.length→aR k ps qs→
   (Op.equalIn d t u v).run P w=.ok (JK ps qs) w)
  (Xx:∀t k,cQ P n t=some k→∃g,ey P t=some g∧(g=false→k.length=1))
  {us vs:List Value} {ps qs:List PV} (hu:aM S w ps us) (hv:aM S w qs vs):
  ∀(fs:List Field) (off k:List Nat),cS P (cQ P n) off fs=some k→ps.length=k.length→qs.length=k.length→(∀rest,k=off++rest→aR rest (ps.drop off.length) (qs.drop off.length))→
   (Op.eqFields d us.toArray vs.toArray fs).run P w=.ok (JK (ps.drop off.length) (qs.drop off.length)) w
 |[],off,k,hs,hp,hq,_=>by
  simp only[cS,qaa]at hs;subst hs;simp[Op.eqFields,qcj (Nat.le_of_eq hp),qcj (Nat.le_of_eq hq),JK]
 |f::fs,off,k,hs,hp,hq,hc=>by
  simp only[cS]at hs;split at hs
  ·cases hs
  ·rename_i hn;simp only[not_or,Decidable.not_not,ne_eq]at hn;split at hs
   ·rename_i m hm;split at hs
    ·rename_i dH
     have Xy:∀(fs:List Field) (off k:List Nat),cS P (cQ P n) off fs=some k→∃rest,k=off++rest:=by
      intro fs
      induction fs with
      |nil=>intro off k h;simp only[cS,qaa]at h;exact⟨[],by simp[h]⟩
      |cons f fs Xz=>
       intro off k h;simp only[cS]at h;split at h
       ·cases h
       ·split at h
        ·split at h
         ·obtain⟨rest,hr⟩:=Xz _ _ h;exact⟨_,by rw[hr,qaR]⟩
         ·cases h
        ·cases h
     obtain⟨rest,hk⟩:=Xy fs (off++m) k hs
     have AB:k.length=off.length+m.length+rest.length:=by rw[hk];simp only[qal]
     obtain⟨g,hg,hg1⟩:=Xx f.type m hm;obtain⟨x,LH,hx2⟩:=lq (off:=off.length) hg dH hg1 hu (by omega);obtain⟨y,Zj,hy2⟩:=lq (off:=off.length) hg dH hg1 hv (by omega)
     have e1:ps.drop off.length=(ps.drop off.length).take m.length++ps.drop (off.length+m.length):=by rw[←qdb];exact(qbR _ _).symm
     have e2:qs.drop off.length=(qs.drop off.length).take m.length++qs.drop (off.length+m.length):=by rw[←qdb];exact(qbR _ _).symm
     have l1:((ps.drop off.length).take m.length).length=m.length:=by simp;omega
     have l2:((qs.drop off.length).take m.length).length=m.length:=by simp;omega
     have xP:=hc (m++rest) (by rw[hk,qaR]);rw[e1,e2]at xP;obtain⟨c1,c2⟩:=kJ l1 l2 xP;have bN:=ih f.type m _ _ x y hm hx2 hy2 l1 l2 c1;rw[e1,e2,ln (l1.trans l2.symm)];simp only[Op.eqFields,ne_eq,hn.1,not_false_eq_true,qax,Sem.run_bind,hn.2,LH,Result.andThen_ok,Zj,bN]
     cases Y4:JK ((ps.drop off.length).take m.length) ((qs.drop off.length).take m.length)with
     |false=>simp
     |true=>
      simp only[Bool.not_true,qaP,qaW,qdm]
      have:=rH ih Xx hu hv fs (off++m) k hs hp hq (fun XA ni=>by
       have:XA=rest:=by rw[hk]at ni;exact(List.append_cancel_left ni).symm
       rw[this,qal];exact c2)
      rwa [qal]at this
    ·cases hs
   ·cases hs
theorem tK {n:Nat} {t:TypeId} {k:List Nat} (h:cQ P n t=some k):∃g,ey P t=some g∧(g=false→k.length=1):=by
 cases n with
 |zero=>simp[cQ]at h
 |succ n=>
  simp only[cQ]at h;unfold ey;split at h
  ·rename_i ht;simp only[qaa]at h;rw[ht];exact⟨false,rfl,fun _=>by rw[←h];rfl⟩
  ·rename_i ht;simp only[qaa]at h;rw[ht];exact⟨false,rfl,fun _=>by rw[←h];rfl⟩
  ·rename_i ht;simp only[qaa]at h;rw[ht];exact⟨false,rfl,fun _=>by rw[←h];rfl⟩
  ·rename_i ht;rw[ht];exact⟨true,rfl,fun h=>by cases h⟩
  ·rename_i ht;rw[ht];exact⟨true,rfl,fun h=>by cases h⟩
  ·cases h
theorem xf {k:Nat} {p q:PV} {ps qs:List PV} (h:aR [k] [p] [q]):JK (p::ps) (q::qs)=(JK [p] [q]&&JK ps qs):=ln (a:=[p]) (c:=[q]) rfl
theorem Ba {d k:Nat} {e:TypeId} (ha:ey P e=some false) (hn:dK P e=some 1) {ps qs:List PV} {us vs:List Value} (hu:aM S w ps us) (hv:aM S w qs vs)
  (ih:∀(p q:PV) (u v:Value),aD S w p u→aD S w q v→aR [k] [p] [q]→(Op.equalIn d e u v).run P w=.ok (JK [p] [q]) w):
  ∀(m i:Nat),ps.length=i+m→qs.length=i+m→aR (List.replicate m k) (ps.drop i) (qs.drop i)→
   (Op.eqItems d e 1 us.toArray vs.toArray (List.range' i m)).run P w=.ok (JK (ps.drop i) (qs.drop i)) w:=by
 intro m
 induction m with
 |zero=>
  intro i hp hq hc;rw[qcj (by omega),qcj (by omega)];simp[Op.eqItems,JK]
 |succ m ihm=>
  intro i hp hq hc
  have hip:i<ps.length:=by omega
  have hiq:i<qs.length:=by omega
  have e1:ps.drop i=ps[i]::ps.drop (i+1):=qbW hip;have e2:qs.drop i=qs[i]::qs.drop (i+1):=qbW hiq;rw[e1,e2]at hc ⊢;rw[qcZ]at hc;obtain⟨GD,pH⟩:=kJ (t:=[k]) (sh:=List.replicate m k) (a:=[ps[i]]) (c:=[qs[i]]) (b:=ps.drop (i+1)) (d:=qs.drop (i+1)) rfl rfl hc;obtain⟨x,hx,LJ⟩:=lq (P:=P) (off:=i) ha hn (fun _=>rfl) hu (by omega);obtain⟨y,hy,UN⟩:=lq (P:=P) (off:=i) ha hn (fun _=>rfl) hv (by omega)
  simp only[cG,ha]at LJ UN;obtain⟨p,WI,LJ⟩:=LJ;obtain⟨q,XB,UN⟩:=UN;rw[e1]at WI;rw[e2]at XB;simp only[qbl,qbo,qbn,qck]at WI XB;subst WI;subst XB;have h3:=ih _ _ _ _ LJ UN GD;rw[List.range'_succ];simp only[Op.eqItems,qcL,Sem.run_bind,hx,hy,h3,Result.andThen_ok];rw[xf (ps:=ps.drop (i+1)) (qs:=qs.drop (i+1)) GD]
  cases JK [ps[i]] [qs[i]]with
  |false=>simp only[Bool.not_false,qax,Sem.run_pure,Bool.false_and]
  |true=>
   have:=ihm (i+1) (by omega) (by omega) pH;simp only[Bool.not_true,qaP,qaW,qdm];exact this
theorem lX:∀(n d:Nat),n≤d→∀(t:TypeId) (k:List Nat) (ps qs:List PV) (u v:Value),cQ P n t=some k→cG P S w t ps u→cG P S w t qs v→ps.length=k.length→qs.length=k.length→aR k ps qs→
   (Op.equalIn d t u v).run P w=.ok (JK ps qs) w
 |0,d,_,t,k,ps,qs,u,v,hs,_,_,_,_,_=>by simp[cQ]at hs
 |n+1,0,hd,t,k,ps,qs,u,v,hs,_,_,_,_,_=>by omega
 |n+1,d+1,hd,t,k,ps,qs,u,v,hs,hu,hv,hp,hq,hc=>by
  simp only[cQ]at hs;split at hs
  ·rename_i ht
   have ha:ey P t=some false:=by unfold ey;rw[ht]
   simp only[cG,ha]at hu hv;obtain⟨p,rfl,hu⟩:=hu;obtain⟨q,rfl,hv⟩:=hv;simp only[qaa]at hs;subst hs;unfold aR at hc
   split at hc<;>first|exact hc.elim|skip
   all_goals(rename_i h1 h2 h3;first|cases h1|skip)
   cases h2;cases h3
   simp only[aD]at hu hv;subst hu;subst hv;rw[run_equalIn_bool' w d t _ _ ht];simp[JK]
  ·rename_i kk ht
   have ha:ey P t=some false:=by unfold ey;rw[ht]
   simp only[cG,ha]at hu hv;obtain⟨p,rfl,hu⟩:=hu;obtain⟨q,rfl,hv⟩:=hv;simp only[qaa]at hs;subst hs;unfold aR at hc
   split at hc<;>first|exact hc.elim|skip
   all_goals(rename_i h1 h2 h3;first|cases h1|skip)
   cases h2;cases h3
   obtain⟨rfl,_⟩:=hc;simp only[aD]at hu hv;subst hu;subst hv;rw[run_equalIn_int w d t _ _ _ _ ht];simp[JK]
  ·rename_i ht
   have ha:ey P t=some false:=by unfold ey;rw[ht]
   simp only[cG,ha]at hu hv;obtain⟨p,rfl,hu⟩:=hu;obtain⟨q,rfl,hv⟩:=hv;simp only[qaa]at hs;subst hs;unfold aR at hc
   split at hc<;>first|exact hc.elim|skip
   all_goals(rename_i h1 h2 h3;first|cases h1|skip)
   cases h2;cases h3
   simp only[aD]at hu hv;subst hu;subst hv;rw[run_equalIn_string w d t _ _ ht];simp[JK,kP]
  ·rename_i fs ht
   have ha:ey P t=some true:=by unfold ey;rw[ht]
   simp only[cG,ha]at hu hv;obtain⟨us,rfl,hu⟩:=hu;obtain⟨vs,rfl,hv⟩:=hv;split at hs
   ·cases hs
   ·rename_i yb
    have hfo:P.fieldsOf t=fs:=by unfold Program.fieldsOf;rw[ht]
    rw[run_equalIn_struct w d t _ _ (by rw[hfo];exact ht) (by simpa using yb),hfo];have:=rH (d:=d) (fun t k ps qs u v h1 h2 h3 h4 h5 h6=>lX n d (by omega) t k ps qs u v h1 h2 h3 h4 h5 h6) (fun t k h=>tK h) hu hv fs.toList [] k hs hp hq (fun rest hr=>by simp only[qbi]at hr;subst hr;simpa using hc);simpa using this
  ·rename_i m e ht
   have ha:ey P t=some true:=by unfold ey;rw[ht]
   simp only[cG,ha]at hu hv;obtain⟨us,rfl,hu⟩:=hu;obtain⟨vs,rfl,hv⟩:=hv;split at hs
   ·rename_i kk hk;split at hs
    ·rename_i hae;obtain⟨Ic,dH⟩:=hae;simp only[qaa]at hs;subst hs;simp only[qcn]at hp hq;have kQ:=dH;unfold dK at kQ
     cases hi:P.info? e with
     |none=>simp[hi]at kQ
     |some inf=>
      simp only[hi,qaM,qaa]at kQ
      have hco:P.cellsOf e=1:=by simp[Program.cellsOf,hi,kQ]
      have:=Ba (k:=kk) (d:=d) Ic dH hu hv (fun p q u v h1 h2 h3=>lX n d (by omega) e [kk] [p] [q] u v hk (by simp only[cG,Ic];exact⟨p,rfl,h1⟩) (by simp only[cG,Ic];exact⟨q,rfl,h2⟩) rfl rfl h3) m 0 (by omega) (by omega) (by simpa using hc);rw[run_equalIn_array w d _ _ ht hi,hco,List.range_eq_range'];simpa using this
    ·cases hs
   ·cases hs
  ·cases hs
end
theorem gu:∀{sh:List Nat} {a c:List PV},aR sh a c→a.length=sh.length∧c.length=sh.length
 |[],[],[],_=>⟨rfl,rfl⟩
 |k::sh,x::a,y::c,h=>by
  have ih:=fun h=>gu (sh:=sh) (a:=a) (c:=c) h
  rcases k with _|_|_|k<;>cases x<;>cases y<;>first|(simp only[aR]at h;done)|(simp only[aR]at h;simp[ih h];done)|(simp only[aR]at h;simp[ih h.2];done)|simp_all [aR]
 |[],_::_,_,h=>by simp[aR]at h
 |[],[],_::_,h=>by simp[aR]at h
 |k::_,[],c,h=>by rcases k with _|_|_|k<;>simp[aR]at h
 |k::_,_::_,[],h=>by rcases k with _|_|_|k<;>simp[aR]at h
section
variable {P:Program} {w0:World} {own0:Nat→Prop} {hvs:List Value×List Deferred} {G:Nat→Option (List PV)} {S0:Nat→Prop} {accs:List Nat}
 {γ:Nat→Option Nat} {S:Nat→Prop} {st:St} {a:Act} {w:World} {o:Oper} {kn:Nat}
 (h:dW w0 own0 hvs G γ S st a w) (bg:∀b,S0 b→S b) (Cy:∀b,S b→S0 b∨w0.heap.size≤b∨own0 b)
include h bg Cy
theorem TA {op:BinOp} {t ty:TypeId} {x y:Operand} {x' y':bR} {fs:Array Field} {sh:List Nat} (ho:o.op=.binOp op t x y ty) (ht:P.underlying t=some (.struct fs)) (hg:P.eqGuardType P.depth t=false)
  (ou:cQ P 6 t=some sh) (hx:aZ G x=some x') (hy:aZ G y=some y'):
  cj P w0 own0 hvs G S0 o a w st kn γ S (KA aF kn (.beq op sh x' y') st.ev):=by
 have h1:=h.fR hx;have h2:=h.fR hy;simp only[KA,AO];split
 ·rename_i xs ys hfx hfy;have r1:=fE _ hfx h1;have r2:=fE _ hfy h2;have c1:=r1;have c2:=r2;simp only[aD]at c1 c2;obtain⟨us,e1,c1⟩:=c1;obtain⟨vs,e2,c2⟩:=c2
  have ha:ey P t=some true:=by unfold ey;rw[ht]
  have bN:aR sh xs ys→(Op.equalIn 10000 t (.agg us.toArray) (.agg vs.toArray)).run P w=.ok (JK xs ys) w:=fun hc=>
   lX 6 10000 (by decide) t sh xs ys _ _ ou (by simp only[cG,ha];exact⟨us,rfl,c1⟩) (by simp only[cG,ha];exact⟨vs,rfl,c2⟩) (gu hc).1 (gu hc).2 hc
  split
  ·intro hc;refine aG h bg Cy (u:=.bool (JK xs ys)) ?_ (by simp only[lF,aD,aF]);simp only[execOp,ho,e1,e2,Sem.run_bind,run_eqGuard_agg (hm:=hg),Result.andThen_ok,run_eql_struct,bN hc,Sem.run_pure]
  ·intro hc;refine aG h bg Cy (u:=.bool (!JK xs ys)) ?_ (by simp only[lF,aD,aF]);simp only[execOp,ho,e1,e2,Sem.run_bind,run_eqGuard_agg (hm:=hg),Result.andThen_ok,run_neq_struct,bN hc,Sem.run_pure]
  ·trivial
 ·trivial
theorem vo:∀{l:List Operand} {ps:List bR},dP G l=some ps→au S w (Ref γ S w st.mem) (ps.map st.ev) (l.map a.eval)
 |[],ps,hp=>by simp only[dP,qaa]at hp;subst hp;simp[au]
 |x::r,ps,hp=>by
  simp only[dP]at hp;split at hp
  ·rename_i p WI;split at hp
   ·rename_i qs hp2;simp only[qaa]at hp;subst hp;simp only[qaj,au];exact⟨_,_,rfl,h.fR WI,vo hp2⟩
   ·cases hp
  ·cases hp
theorem UO {c:Call} {f:FuncId} {ps:List bR} (ho:o.op=.call c) (hc:c.callee=.value (.func f)) (ha:dP G c.args.toList=some ps):
  cj P w0 own0 hvs G S0 o a w st kn γ S (KA aF kn (.call f ps) st.ev):=by
 refine⟨c.args.toList.map a.eval,?_,vo h bg Cy ha⟩;simp only[execOp,ho,resolve,hc,Act.eval,Deferred.ofValue,Sem.run_bind,Sem.run_pure,Result.andThen_ok,invoke];rw[show(#[]:Array Value)++c.args.map a.eval++#[]=(c.args.toList.map a.eval).toArray from by apply Array.ext';simp]
theorem LL {c:Call} {x:Operand} {x':bR} {ps:List bR} (ho:o.op=.call c) (hc:c.callee=.value x) (hx:aZ G x=some x') (ha:dP G c.args.toList=some ps):
  cj P w0 own0 hvs G S0 o a w st kn γ S (KA aF kn (.AF x' ps) st.ev):=by
 have h1:=h.fR hx;have h2:=vo h bg Cy ha
 have bN:∀f caps,a.eval x=.func (.func f) #[] (caps:List Value).toArray→(execOp a.eval o).run P w=(callFunc f (c.args.toList.map a.eval++caps).toArray).run P w:=by
  intro f caps hv;simp only[execOp,ho,resolve,hc,hv,Deferred.ofValue,Sem.run_bind,Sem.run_pure,Result.andThen_ok,invoke];rw[show(#[]:Array Value)++c.args.map a.eval++caps.toArray=(c.args.toList.map a.eval++caps).toArray from by apply Array.ext';simp]
 have LM:∀{xs ys:List AV} {us vs:List Value},au S w (Ref γ S w st.mem) xs us→au S w (Ref γ S w st.mem) ys vs→au S w (Ref γ S w st.mem) (xs++ys) (us++vs):=by
  intro xs
  induction xs with
  |nil=>intro ys us vs hu hv;simp only[au]at hu;subst hu;exact hv
  |cons x xs ih=>
   intro ys us vs hu hv;simp only[au]at hu;obtain⟨v,r,rfl,p1,p2⟩:=hu;simp only[qaN,au];exact⟨v,_,rfl,p1,ih p2 hv⟩
 have XC:∀{xs:List PV} {us:List Value},aM S w xs us→au S w (Ref γ S w st.mem) (xs.map .pv) us:=by
  intro xs
  induction xs with
  |nil=>intro us hu;simpa only[aM,qaF,au]using hu
  |cons x xs ih=>
   intro us hu;simp only[aM]at hu;obtain⟨v,r,rfl,p1,p2⟩:=hu;simp only[qaj,au,lF];exact⟨v,r,rfl,p1,ih p2⟩
 simp only[KA];split
 ·rename_i f caps bZ;rw[bZ]at h1;simp only[lF,aD]at h1;obtain⟨vs,hv,h1⟩:=h1;exact⟨_,bN f vs hv,LM h2 (XC h1)⟩
 ·rename_i f caps bZ;rw[bZ]at h1;simp only[lF]at h1;obtain⟨vs,hv,h1⟩:=h1;exact⟨_,bN f vs hv,LM h2 h1⟩
 ·rename_i f first bZ
  rw[bZ]at h1;simp only[lF]at h1;obtain⟨vs,hv,h1⟩:=h1;refine⟨vs++c.args.toList.map a.eval,?_,LM h1 h2⟩;simp only[execOp,ho,resolve,hc,Deferred.ofValue,hv,Sem.run_bind,Sem.run_pure,Result.andThen_ok,invoke]
  have e1:(vs.toArray++Array.map a.eval c.args++#[])=(vs++c.args.toList.map a.eval).toArray:=by
   apply Array.ext';simp
  rw[e1]
 ·trivial
end
end Go.Am
end
