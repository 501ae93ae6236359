import Derived.Deep.AppendSrc
import Derived.Deep.Upon
import Derived.ChangeKeysEq
import Derived.Test.YtfaccbkibjkfjaaGreatDoorT02
set_option linter.all false
set_option maxRecDepth 100000
set_option maxHeartbeats 1000000
section
namespace Go.Am
theorem foldl_push (ns:List Int):∀(s:ByteArray),ns.foldl (fun r n=>r.push (UInt8.ofNat n.toNat)) s=⟨s.data++(ns.map fun n=>UInt8.ofNat n.toNat).toArray⟩:=by
 induction ns with
 |nil=>intro s;simp
 |cons n ns ih=>
  intro s;simp only[List.foldl_cons,ih];apply ByteArray.ext;simp[ByteArray.push]
def dR (rows:List (List PV)):List Int:=rows.map fun r=>match r with|[.int _ n]=>n|_=>0
theorem zr {rows:List (List PV)} (h:aG.rW rows):rows=(dR rows).map fun n=>[.int .u8 n]:=by
 simp only[aG]at h
 induction rows with
 |nil=>rfl
 |cons r rows ih=>
  obtain⟨n,rfl⟩:=h r List.mem_cons_self;simp only[dR,List.map_cons]
  congr 1
  exact ih fun x hx=>h x (List.mem_cons_of_mem _ hx)
theorem s4 (rows:List (List PV)):aG.gB rows=(dR rows).map fun n=>UInt8.ofNat n.toNat:=by
 simp only[aG,dR,List.map_map];apply List.map_congr_left;intro r hr;simp only[Function.comp];split
 ·rfl
 ·rename_i dW;split
  ·rename_i k n;exact absurd rfl (dW k n)
  ·rfl
section
variable {S:Nat→Prop} {w:World}
theorem sf:∀{ns:List Int} {c:Array Value} {o:Nat},bI S w (ns.map fun n=>[.int .u8 n]) c o→∀j v,(ns.map (Value.int .u8))[j]? =some v→c[o+j]? =some v
 |[],_,_,_,j,v,h=>by simp at h
 |n::ns,c,o,h,j,v,hj=>by
  simp only[List.map_cons,bI,b7,aJ]at h;obtain⟨⟨⟨u,hu,rfl⟩,_⟩,h2⟩:=h
  cases j with
  |zero=>simp only[List.map_cons,List.getElem?_cons_zero,Option.some.injEq]at hj;subst hj;exact hu
  |succ j=>
   have:=sf h2 j v (by simpa using hj);rw[show o+(j+1)=o+[PV.int .u8 n].length+j by simp;omega];exact this
end
section
variable {P:Program} {w0:World} {own0:Nat→Prop} {hvs:List Value} {G:Nat→Option (List PV)} {S0:Nat→Prop} {accs:List Nat}
 {γ:Nat→Option Nat} {S:Nat→Prop} {st:St} {a:Act} {w:World} {o:Oper} {kn:Nat}
 (h:dj w0 own0 hvs G γ S st a w) (bm:∀b,S0 b→S b) (bd:∀b,S b→S0 b∨w0.heap.size≤b∨own0 b)
include h bm bd
theorem Um {s d e:TypeId} {x:Operand} {x':bN} (ho:o.op=.convert s d x) (hs:P.underlying s=some (.slice e)) (he:P.underlying e=some (.int .u8)) (hd:P.underlying d=some .string) (hx:a8 G x=some x'):
  cg P w0 own0 hvs G S0 o a w st kn γ S (b6 aG kn (.Ri x') st.ev):=by
 have h1:=h.aj hx
 have bJ:∀a0 n cap v,a.eval x=.slice a0 n cap→(Conv.bytesToString (.slice a0 n cap)).run P w=.ok v w→(execOp a.eval o).run P w=.ok (.value v) w:=by
  intro a0 n cap v hv hr;simp only[execOp,ho,hv,Sem.run_bind,run_convert_bytes_string w s d e a0 n cap hs he hd,hr,Result.andThen_ok,Sem.run_pure]
 have key:∀(rows:List (List PV)) a0 cap,a.eval x=.slice a0 rows.length cap→aG.rW rows→
   (rows=[]∨∃b off c,a0=some ⟨b,off,none⟩∧ag w b=some c∧bI S w rows c off)→pq P w0 own0 hvs G S0 o a w st (.pv (.str (aG.gB rows))):=by
  intro rows a0 cap hv hb hc;have iI:=zr hb
  have hlen:(dR rows).length=rows.length:=by simp[dR]
  cases a0 with
  |none=>
   refine aK h bm bd (bJ _ _ _ (.string .empty) hv rfl) ?_
   rcases hc with hc|⟨b,off,c,hc,_⟩
   ·subst hc;simp only[aq,aJ,aG];rfl
   ·cases hc
  |some ad=>
   have X9:(loadCells ad rows.length).run P w=.ok ((dR rows).map (Value.int .u8)).toArray w:=by
    rcases hc with hc|⟨b,off,c,hc,wL,hr⟩
    ·subst hc;rfl
    ·injection hc with hc;subst hc
     rw[iI]at hr;have:=run_loadCells_list (P:=P) w ⟨b,off,none⟩ ((dR rows).map (Value.int .u8)) (fun j v hj=>by rw[ig,cell_of wL];exact sf hr j v hj);simpa[hlen]using this
   refine aK h bm bd (bJ _ _ _ _ hv (run_bytesToString w ad rows.length cap (dR rows) X9)) ?_;simp only[aq,aJ,s4,foldl_push]
   congr 1
   apply ByteArray.ext;simp
 simp only[b6];split
 ·rename_i rows spare b4;rw[b4]at h1;simp only[aq,aJ]at h1;obtain⟨a0,cap,hv,_,hc⟩:=h1;intro hb;refine key rows a0 cap hv hb ?_
  rcases hc with⟨hc,_⟩|⟨b,off,c,sz,ha,_,wL,_,_,hr,_⟩
  ·exact .inl hc
  ·exact .inr ⟨b,off,c,ha,wL,hr⟩
 ·rename_i rows b4;rw[b4]at h1;simp only[aq]at h1;obtain⟨a0,hv,hc⟩:=h1;intro hb;refine key rows a0 _ hv hb ?_
  rcases hc with hc|⟨b,off,c,sz,ha,_,wL,_,hr⟩
  ·exact .inl hc
  ·exact .inr ⟨b,off,c,ha,wL,hr⟩
 ·rename_i id ver b4;rw[b4]at h1;simp only[aq,Ref]at h1;intro ob bH;simp only[bH]at h1
  cases ob with
  |cells cs=>trivial
  |cf=>trivial
  |map=>trivial
  |iK=>trivial
  |fz=>trivial
  |cH=>trivial
  |er=>trivial
  |rows sz rs bo=>
   by_cases hv:ver=bo
   ·subst hv;simp only[beq_self_eq_true];obtain⟨a0,cap,Er,dQ,I7⟩:=h1.2 rfl;intro hb;refine key rs a0 cap Er hb ?_
    rcases I7 with I7|⟨b,c,gV,ha,hc,_⟩
    ·left;exact List.eq_nil_of_length_eq_zero (by omega)
    ·right
     obtain⟨c1,e1,yD,_,_,hr⟩:=rows_block gV (h.mem id _ bH);exact⟨b,0,c1,ha,by simp[ag,yD],hr⟩
   ·simp only[beq_eq_false_iff_ne.2 hv];trivial
  |eL rs bo=>
   by_cases hv:ver=bo
   ·subst hv;simp only[beq_self_eq_true];have h2:=h1.2 rfl;simp only[aJ]at h2;obtain⟨a0,cap,Er,_,hc⟩:=h2;intro hb;refine key rs a0 cap Er hb ?_
    rcases hc with⟨hc,_⟩|⟨b,off,c,sz,ha,_,wL,_,_,hr,_⟩
    ·exact .inl hc
    ·exact .inr ⟨b,off,c,ha,wL,hr⟩
   ·simp only[beq_eq_false_iff_ne.2 hv];trivial
 ·trivial
theorem JB {x y:Operand} {x' y':bN} {c:Call} {mx:Bool} (ho:o.op=.call c) (hc:c.callee=.builtin (if mx then .max else .min)) (ha:c.args=#[x,y]) (hx:a8 G x=some x') (hy:a8 G y=some y'):
  cg P w0 own0 hvs G S0 o a w st kn γ S (b6 aG kn (.TQ mx x' y') st.ev):=by
 have h1:=h.aj hx;have h2:=h.aj hy;simp only[b6];split
 ·rename_i k n k' m b4 lz;rw[b4]at h1;rw[lz]at h2;simp only[aq,aJ]at h1 h2
  cases mx with
  |true=>
   refine aK h bm bd (u:=.int k (if m>n then m else n)) ?_ (by simp only[aq,aJ,aG]);simp only[execOp,ho,resolve,hc,ha,Sem.run_bind,Sem.run_pure,Result.andThen_ok,invoke,builtin,if_true];simp only[List.map_toArray,List.map_cons,List.map_nil,h1,h2,run_max_int2,Result.andThen_ok]
  |false=>
   refine aK h bm bd (u:=.int k (if m<n then m else n)) ?_ (by simp only[aq,aJ,aG]);simp only[execOp,ho,resolve,hc,ha,Sem.run_bind,Sem.run_pure,Result.andThen_ok,invoke,builtin,Bool.false_eq_true,if_false];simp only[List.map_toArray,List.map_cons,List.map_nil,h1,h2,run_min_int2,Result.andThen_ok]
 ·trivial
theorem JC {z:List Value} (hz:z≠[]) {n k:Nat} (hk:k<n):(((Array.range n).map fun i=>z.toArray[i%z.toArray.size]!))[k]? =some (z.getD (k%z.length) undef):=by
 have hlen:0<z.length:=List.length_pos_iff.2 hz;have:k%z.length<z.length:=Nat.mod_lt _ hlen;simp[hk,List.getD_eq_getElem?_getD,this,getElem!_pos,this]
theorem Un {t e:TypeId} {sz bytes:Nat} {z:List PV} {l c:Operand} {l' c':bN} (ho:o.op=.makeSlice t l c) (ht:P.underlying t=some (.slice e)) (dZ:bZ P e=some sz) (oC:oz P e=some bytes)
  (hz:ic P e=some z) (I9:z.length=sz) (rk:0<sz) (hl:a8 G l=some l') (hc:a8 G c=some c'):
  cg P w0 own0 hvs G S0 o a w st kn γ S (b6 aG kn (.TN sz bytes z l' c') st.ev):=by
 have h1:=h.aj hl;have h2:=h.aj hc;simp only[b6];split
 ·rename_i l c b4 lz;rw[b4]at h1;rw[lz]at h2;simp only[aq,aJ]at h1 h2;intro hm bL hp;obtain⟨p0,p1,p2,p3⟩:=hp;obtain⟨i,zv,hi,F8,F9,sX⟩:=ij (S:=S) (w:=w) hz
  have MO:i.bytes=bytes:=by simpa[oz,hi]using oC
  have sg:i.size=sz:=by simpa[bZ,hi]using dZ
  have hw:∀n:Int,0≤n→n≤2^47→IntKind.i64.wrap n=n:=by
   intro n h0 h1
   have e1:(2:Int)^IntKind.i64.bits=18446744073709551616:=by decide
   have e2:(2:Int)^(IntKind.i64.bits-1)=9223372036854775808:=by decide
   unfold IntKind.wrap;simp only[e1,e2];rw[Int.emod_eq_of_lt h0 (by omega),if_neg (by simp;omega)]
  have Ga:zv.cells.toList.length=sz:=by rw[a7.length F9,I9]
  have hzne:zv.cells.toList≠[]:=by intro e;rw[e]at Ga;simp at Ga;omega
  have bJ:(execOp a.eval o).run P w=.ok (.value (.slice (some ⟨w.heap.size,0,none⟩) l.toNat c.toNat))
    (w.alloc (.cells ((Array.range (c.toNat*sz)).map fun i=>zv.cells[i%zv.cells.size]!) e)):=by
   have c1:((bytes:Int)*c>2^48)=False:=by
    simp only[gt_iff_lt,eq_iff_iff,iff_false,Int.not_lt];have:(bytes:Int)*c=c*bytes:=Int.mul_comm _ _;omega
   have c2:(c<0)=False:=by simp;omega
   have c3:(l<0)=False:=by simp;omega
   have c4:(l>c)=False:=by simp;omega
   simp only[execOp,ho,Instr.makeSlice,Sem.run_bind,run_underlying ht,Result.andThen_ok,h1,h2,asInt,asIntOf,Sem.run_pure,typeInfo,run_program,hi,MO,hw c (by omega) (by omega),hw l p0 (by omega),
    c1,c2,c3,c4,decide_false,Bool.or_false,Bool.false_eq_true,if_false,run_askRoom,run_sizeOf dZ]
   by_cases hn:c.toNat*sz=0
   ·rw[if_pos hn];simp only[Sem.run_pure,Result.andThen_ok,newRow,Sem.run_bind,run_newObj,World.alloc_eq];rw[hn,show Array.range 0=#[] from rfl];simp only[Array.map_empty]
   ·rw[if_neg hn];simp only[Sem.run_bind,sX,Sem.run_pure,Result.andThen_ok,newRow,run_newObj,World.alloc_eq]
  have Ya:((Array.range (c.toNat*sz)).map fun i=>zv.cells[i%zv.cells.size]!).size=c.toNat*sz:=by simp
  have key:=dj.new h hm bL (.rows sz (aG.Ce l z) 0) ((Array.range (c.toNat*sz)).map fun i=>zv.cells[i%zv.cells.size]!) e (fun hρ hl=>by
   have bP:aS sz (aG.Ce l z):=by
    intro r hr;simp only[aG]at hr;rw[(List.mem_replicate.1 hr).2];exact I9
   refine .inr ⟨w.heap.size,_,e,by simp[dw],heap_alloc_new,by rw[Ya];simp only[aG,List.length_replicate];exact Nat.mul_le_mul_right _ (by omega),bP,bI.mV bP fun k hk=>?_⟩;simp only[aG,List.length_replicate]at hk
   have e1:(aG.Ce l z).getD k []=z:=by simp[aG,List.getD_eq_getElem?_getD,hk]
   rw[e1]
   refine b7.eG (a7.later hl _ F9) fun j v hj=>?_
   have vN:j<sz:=by rw[←Ga];exact(List.getElem?_eq_some_iff.1 hj).1
   have MP:k*sz+j<c.toNat*sz:=uo (by omega) vN;have:=JC (h:=h) bm bd hzne MP;rw[Nat.zero_add];simp only[Array.toArray_toList]at this;rw[this,Ga,Nat.add_comm,Nat.add_mul_mod_self_right,Nat.mod_eq_of_lt vN,List.getD_eq_getElem?_getD,hj]
   rfl)
  refine⟨_,_,_,S,.inl bJ,bm,bd,key.1,?_⟩;simp only[aq,Ref,St.aC,aE bL,if_true];refine⟨⟨Nat.le_refl _,rfl⟩,fun _=>⟨_,c.toNat,by simp[aG],by simp[aG];omega,.inr ⟨w.heap.size,_,by simp[dw],rfl,ey,Ya⟩⟩⟩
 ·trivial
end
end Go.Am
end
section
namespace Go.Am
theorem zt (vO:Nat):∀(rounds c M:Nat),c≤M→vO+(vO+768)/4≤M→Builtin.growBy vO rounds c≤M
 |0,c,M,h,_=>h
 |r+1,c,M,h,h'=>by
  unfold Builtin.growBy;split
  ·exact h
  ·exact zt vO r _ M (by omega) h'
theorem nextslicecap_le {vO cap:Nat} (h:cap<vO):Builtin.nextslicecap vO cap≤2*vO+512:=by
 unfold Builtin.nextslicecap;split
 ·omega
 ·split
  ·omega
  ·exact zt vO 4 cap _ (by omega) (by omega)
section
variable {P:Program} {S:Nat→Prop} {w:World}
theorem bI.flat:∀{rs:List (List PV)} {c:Array Value} {o sz:Nat},aS sz rs→bI S w rs c o→
  ∃vs:List Value,a7 S w rs.flatten vs∧vs.length=rs.length*sz∧∀j v,vs[j]? =some v→c[o+j]? =some v
 |[],_,_,_,_,_=>⟨[],by simp only[List.flatten_nil,a7],by simp,by simp⟩
 |r::rs,c,o,sz,hl,h=>by
  simp only[bI]at h;obtain⟨us,h1,h2,h3⟩:=b7.list h.1;obtain⟨vs,h4,h5,h6⟩:=bI.flat (fun x hx=>hl x (List.mem_cons_of_mem _ hx)) h.2;have hr:r.length=sz:=hl r List.mem_cons_self;refine⟨us++vs,by rw[List.flatten_cons];exact a7.append h1 h4,by simp[h2,h5,hr,Nat.add_mul,Nat.add_comm],fun j v hj=>?_⟩
  by_cases bL:j<us.length
  ·rw[List.getElem?_append_left bL]at hj;exact h3 j v hj
  ·rw[List.getElem?_append_right (by omega)]at hj;have:=h6 (j-us.length) v hj;rw[show o+j=o+r.length+(j-us.length) by omega];exact this
theorem bR.flat {ρ:AV→Value→Prop}:∀{rs:List (List AV)} {c:Array Value} {o sz:Nat},(∀r∈rs,r.length=sz)→bR S w ρ rs c o→
  ∃vs:List Value,aF S w ρ rs.flatten vs∧vs.length=rs.length*sz∧∀j v,vs[j]? =some v→c[o+j]? =some v
 |[],_,_,_,_,_=>⟨[],by simp only[List.flatten_nil,aF],by simp,by simp⟩
 |r::rs,c,o,sz,hl,h=>by
  simp only[bR]at h;obtain⟨us,h1,h2,h3⟩:=bz.list h.1;obtain⟨vs,h4,h5,h6⟩:=bR.flat (fun x hx=>hl x (List.mem_cons_of_mem _ hx)) h.2;have hr:r.length=sz:=hl r List.mem_cons_self;refine⟨us++vs,by rw[List.flatten_cons];exact aF.append h1 h4,by simp[h2,h5,hr,Nat.add_mul,Nat.add_comm],fun j v hj=>?_⟩
  by_cases bL:j<us.length
  ·rw[List.getElem?_append_left bL]at hj;exact h3 j v hj
  ·rw[List.getElem?_append_right (by omega)]at hj;have:=h6 (j-us.length) v hj;rw[show o+j=o+r.length+(j-us.length) by omega];exact this
theorem bR.append {ρ:AV→Value→Prop}:∀{xs ys:List (List AV)} {c:Array Value} {o sz:Nat},(∀r∈xs,r.length=sz)→bR S w ρ xs c o→bR S w ρ ys c (o+xs.length*sz)→bR S w ρ (xs++ys) c o
 |[],_,_,_,_,_,_,h=>by rw[List.length_nil,Nat.zero_mul,Nat.add_zero]at h;exact h
 |x::xs,ys,c,o,sz,hl,h,h'=>by
  simp only[bR]at h;simp only[List.cons_append,bR];refine⟨h.1,bR.append (sz:=sz) (fun r hr=>hl r (List.mem_cons_of_mem _ hr)) h.2 ?_⟩;have hx:x.length=sz:=hl x List.mem_cons_self;rw[hx,show o+sz+xs.length*sz=o+(x::xs).length*sz by rw[List.length_cons,Nat.add_mul,Nat.one_mul];omega];exact h'
theorem map_flatten (xs:List (List PV)):(xs.map (·.map AV.pv)).flatten=xs.flatten.map AV.pv:=by
 rw[List.map_flatten]
theorem wP {ρ:AV→Value→Prop} (hρ:wK ρ):∀{rs:List (List AV)} {vs:List Value},(∀r∈rs,fr r=true)→aF S w ρ rs.flatten vs→∀v∈vs,v.oneCell'=true
 |[],vs,_,h=>by simp only[List.flatten_nil,aF]at h;subst h;simp
 |r::rs,vs,ho,h=>by
  rw[List.flatten_cons]at h;obtain⟨u,v,rfl,h1,h2⟩:=aF.split h;intro x hx
  rcases List.mem_append.1 hx with hx|hx
  ·exact pV hρ (ho r List.mem_cons_self) h1 x hx
  ·exact wP hρ (fun r hr=>ho r (List.mem_cons_of_mem _ hr)) h2 x hx
theorem zu {sz:Nat}:∀{rs:List (List PV)} {vs:List Value},cr sz rs→a7 S w rs.flatten vs→∀v∈vs,v.oneCell'=true:=by
 intro rs vs ho hr
 have pw:∀p∈rs.flatten,(AV.pv p).one=true:=by
  intro p hp;obtain⟨r,hr,hpr⟩:=List.mem_flatten.1 hp;exact(ho r hr).2 p hpr
 have key:∀(ps:List PV) (vs:List Value),a7 S w ps vs→(∀p∈ps,(AV.pv p).one=true)→∀v∈vs,v.oneCell'=true:=by
  intro ps
  induction ps with
  |nil=>intro vs h _;simp only[a7]at h;subst h;simp
  |cons p ps ih=>
   intro vs h ho;simp only[a7]at h;obtain⟨v,r,rfl,h1,h2⟩:=h;intro u hu
   rcases List.mem_cons.1 hu with rfl|hu
   ·exact aJ.one (ho p List.mem_cons_self) h1
   ·exact ih r h2 (fun q hq=>ho q (List.mem_cons_of_mem _ hq)) u hu
 exact key _ _ hr pw
theorem df {b off cap n sz:Nat} {c:Array Value} {vs:List Value} (hc:ag w b=some c) (hl:vs.length=n*sz) (hv:∀j v,vs[j]? =some v→c[off+j]? =some v):
  (Builtin.firstCells sz n (.slice (some ⟨b,off,none⟩) n cap)).run P w=.ok vs.toArray w:=by
 have:=run_loadCells_list (P:=P) w ⟨b,off,none⟩ vs (fun j v hj=>by rw[ig,cell_of hc];exact hv j v hj);rw[hl]at this;exact this
theorem Uo (s:List UInt8):aG.bytes s=s.map fun b=>[.int .u8 (b.toNat:Nat)]:=rfl
end
section
variable {P:Program} {w0:World} {own0:Nat→Prop} {hvs:List Value} {G:Nat→Option (List PV)} {S0:Nat→Prop} {accs:List Nat}
 {γ:Nat→Option Nat} {S:Nat→Prop} {st:St} {a:Act} {w:World} {o:Oper} {kn:Nat}
 (h:dj w0 own0 hvs G γ S st a w)
theorem qT {y:AV} {v:Value} {ys:List (List PV)} {sz:Nat} {tx:TypeId} (hy:gU aG y=some ys) (hr:aq S w (Ref γ S w st.mem) y v) (e6:cr sz ys)
  (hk:(∃e',P.underlying tx=some (.slice e'))∨(P.underlying tx=some .string∧sz=1)):
  ∃vs:List Value,Src P sz tx v ys.length vs w∧a7 S w ys.flatten vs:=by
 have bP:aS sz ys:=fun r hr=>(e6 r hr).1
 have wQ:(∃e',P.underlying tx=some (.slice e'))∨P.underlying tx=some .string:=hk.imp (fun h=>h) (fun h=>h.1)
 have Yb:∀a0 cap,Src P sz tx (.slice a0 ([]:List (List PV)).length cap) ([]:List (List PV)).length [] w:=by
  intro a0 cap;refine⟨wQ,fun w'=>rfl,?_,?_,by simp,by simp⟩<;>cases a0<;>simp[Builtin.firstCells,loadCells,loadCellsFrom]
 unfold gU at hy;split at hy
 ·rename_i rows spare;simp only[Option.some.injEq]at hy;subst hy;simp only[aq,aJ]at hr;obtain⟨a0,cap,rfl,_,hd⟩:=hr
  rcases hd with⟨hd,_⟩|⟨b,off,c,mM,ha,hs,hc,h1,_,h3,_⟩
  ·subst hd;exact⟨[],Yb a0 cap,by simp only[List.flatten_nil,a7]⟩
  ·subst ha;obtain⟨vs,k1,k2,k3⟩:=bI.flat bP h3;exact⟨vs,⟨wQ,fun w'=>rfl,df hc k2 k3,df (w:=w.drew) hc k2 k3,k2,zu e6 k1⟩,k1⟩
 ·rename_i rows;simp only[Option.some.injEq]at hy;subst hy;simp only[aq]at hr;obtain⟨a0,rfl,hd⟩:=hr
  rcases hd with hd|⟨b,off,c,mM,ha,hs,hc,h1,h3⟩
  ·subst hd;exact⟨[],Yb a0 _,by simp only[List.flatten_nil,a7]⟩
  ·subst ha;obtain⟨vs,k1,k2,k3⟩:=bI.flat bP h3;exact⟨vs,⟨wQ,fun w'=>rfl,df hc k2 k3,df (w:=w.drew) hc k2 k3,k2,zu e6 k1⟩,k1⟩
 ·rename_i s;simp only[Option.some.injEq]at hy;subst hy;simp only[aq,aJ]at hr;subst hr
  have hlen:(aG.bytes s).length=s.length:=by simp[aG]
  have hz:s=[]∨sz=1:=by
   cases s with
   |nil=>exact .inl rfl
   |cons x s=>right;have:=bP _ (List.mem_cons_self (a:=[PV.int .u8 (x.toNat:Nat)]) (l:=aG.bytes s));simpa using this.symm
  have hf:∀w':World,(Builtin.firstCells sz (aG.bytes s).length (.string ⟨s.toArray⟩)).run P w'=.ok (s.map fun b=>Value.int .u8 (b.toNat:Nat)).toArray w':=by
   intro w';rw[hlen];simp only[Builtin.firstCells,Sem.run_pure,rB];simp
  refine⟨s.map fun b=>.int .u8 (b.toNat:Nat),⟨wQ,fun w'=>by rw[hlen];rfl,hf w,hf w.drew,?_,?_⟩,?_⟩
  ·rw[hlen];rcases hz with hz|hz
   ·subst hz;simp
   ·subst hz;simp
  ·intro v hv;obtain⟨b,_,rfl⟩:=List.mem_map.1 hv;rfl
  ·have e1:∀s:List UInt8,(aG.bytes s).flatten=s.map fun b=>PV.int .u8 (b.toNat:Nat):=by
    intro s;simp only[aG]
    induction s with
    |nil=>rfl
    |cons x s ih=>simp[ih]
   rw[e1]
   have key:∀s:List UInt8,a7 S w (s.map fun b=>PV.int .u8 (b.toNat:Nat)) (s.map fun b=>Value.int .u8 (b.toNat:Nat)):=by
    intro s
    induction s with
    |nil=>simp only[List.map_nil,a7]
    |cons x s ih=>simp only[List.map_cons,a7,aJ];exact⟨_,_,rfl,rfl,ih⟩
   exact key s
 ·cases hy
theorem Cu {y:AV} {v:Value} {ys:List (List AV)} {sz:Nat} {tx:TypeId} (hy:qM aG y=some ys) (hr:aq S w (Ref γ S w st.mem) y v) (e6:∀r∈ys,r.length=sz∧fr r=true)
  (hk:(∃e',P.underlying tx=some (.slice e'))∨(P.underlying tx=some .string∧sz=1)):
  ∃vs:List Value,Src P sz tx v ys.length vs w∧aF S w (Ref γ S w st.mem) ys.flatten vs:=by
 have wQ:(∃e',P.underlying tx=some (.slice e'))∨P.underlying tx=some .string:=hk.imp (fun h=>h) (fun h=>h.1)
 have Up:∀rows,gU aG y=some rows→ys=rows.map (·.map .pv)→∃vs:List Value,Src P sz tx v ys.length vs w∧aF S w (Ref γ S w st.mem) ys.flatten vs:=by
  intro rows iI he;subst he
  have hok':cr sz rows:=by
   intro r hr;obtain⟨h1,h2⟩:=e6 _ (List.mem_map_of_mem (f:=fun l=>l.map AV.pv) hr);refine⟨by simpa using h1,?_⟩
   have key:∀(l:List PV),fr (l.map AV.pv)=true→∀p∈l,(AV.pv p).one=true:=by
    intro l
    induction l with
    |nil=>intro _ p hp;simp at hp
    |cons x l ih=>
     intro ho p hp;simp only[List.map_cons,fr]at ho;split at ho
     ·rename_i hx
      rcases List.mem_cons.1 hp with rfl|hp
      ·exact hx
      ·exact ih ho p hp
     ·cases ho
   exact key r h2
  obtain⟨vs,h1,h2⟩:=qT (P:=P) (tx:=tx) (sz:=sz) iI hr hok' hk;exact⟨vs,by rw[List.length_map];exact h1,by rw[map_flatten];exact a7.av h2⟩
 unfold qM at hy;split at hy
 ·rename_i rows;simp only[Option.some.injEq]at hy;subst hy;simp only[aq]at hr;obtain⟨a0,rfl,hd⟩:=hr
  rcases hd with hd|⟨b,off,c,mM,ha,hs,hc,h1,h3⟩
  ·subst hd;refine⟨[],⟨wQ,fun w'=>rfl,?_,?_,by simp,by simp⟩,by simp only[List.flatten_nil,aF]⟩<;>cases a0<;>simp[Builtin.firstCells,loadCells,loadCellsFrom]
  ·subst ha;obtain⟨vs,k1,k2,k3⟩:=bR.flat (fun r hr=>(e6 r hr).1) h3;exact⟨vs,⟨wQ,fun w'=>rfl,df hc k2 k3,df (w:=w.drew) hc k2 k3,k2,wP (kN γ st.mem) (fun r hr=>(e6 r hr).2) k1⟩,k1⟩
 ·split at hy
  ·rename_i rows iI;simp only[Option.some.injEq]at hy;exact Up rows iI hy.symm
  ·cases hy
theorem dj.drew (h:dj w0 own0 hvs G γ S st a w):dj w0 own0 hvs G γ S st a w.drew:=
 (dj.grow h (w':=w.drew) (S':=S) (fun _ _=>rfl) (Nat.le_refl _) rfl rfl rfl (fun _ hb=>hb) (fun _ hb=>.inl hb)).1
theorem run_append_room {t u ty e:TypeId} {i:TypeInfo} {n cap k:Nat} {yv:Value} {b:Nat} {c:Array Value} {ee:TypeId} {vs:List Value}
  (ht:P.underlying t=some (.slice e)) (hi:P.info? e=some i) (hs:Src P i.size u yv k vs w)
  (jD:n+k≤cap) (hb:w.heap[b]? =some (.cells c ee (0,0))) (hc:c.size=cap*i.size):
  ∃(w':World) (c':Array Value),(Builtin.append_ #[t,u] ty #[.slice (some ⟨b,0,none⟩) n cap,yv]).run P w=.ok (.slice (some ⟨b,0,none⟩) (n+k) cap) w'∧w'.heap[b]? =some (.cells c' ee (0,0))∧c'.size=c.size∧
   (∀j,c'[j]? =if n*i.size≤j∧j<n*i.size+vs.length then vs[j-n*i.size]? else c[j]?)∧
   (∀k,k≠b→w'.heap[k]? =w.heap[k]?)∧w'.heap.size=w.heap.size∧w'.os=w.os∧w'.tape=w.tape∧w'.output=w.output:=by
 have hle:n*i.size+0+vs.length≤c.size:=by
  rw[hs.newsLen,hc,Nat.add_zero,←Nat.add_mul];exact Nat.mul_le_mul_right _ jD
 obtain⟨w',c',h1,h2,h3,h4,h5⟩:=pU (P:=P) (e:=ee) vs 0 (n*i.size) c w hb hle hs.one;refine⟨w',c',?_,h2,h3,fun j=>by simpa using h4 j,h5⟩
 have ha:(Addr.mk b 0 none).add (n*i.size)=⟨b,n*i.size,none⟩:=by rw[ig,Nat.zero_add]
 rcases hs.kind with⟨e',hk⟩|hk<;>simp[Builtin.append_,run_underlying ht,run_underlying hk,sizeOf,typeInfo,hi,hs.len,jD,hs.cells,ha,h1]
end
end Go.Am
end
section
namespace Go.Am
section
variable {P:Program} {w0:World} {own0:Nat→Prop} {hvs:List Value} {G:Nat→Option (List PV)} {S0:Nat→Prop} {accs:List Nat}
 {γ:Nat→Option Nat} {S:Nat→Prop} {st:St} {a:Act} {w:World} {o:Oper} {kn:Nat}
 (h:dj w0 own0 hvs G γ S st a w)
include h
theorem dj.setObj {id:Nat} {ob ob':Obj} (hid:aA st.mem id=some ob)
  (hR:∀x v,bD x=some id→Ref γ S w st.mem x v→Ref γ S w (st.aC id ob').mem x v)
  (hO:(∀x v,Ref γ S w st.mem x v→Ref γ S w (st.aC id ob').mem x v)→fU γ S w (Ref γ S w (st.aC id ob').mem) id ob'):
  dj w0 own0 hvs G γ S (st.aC id ob') a w:=by
 have bL:=bQ hid;have hl:=cA.refl S w
 have hρ:∀x v,Ref γ S w st.mem x v→Ref γ S w (st.aC id ob').mem x v:=by
  intro x v hx
  by_cases hi:bD x=some id
  ·exact hR x v hi hx
  ·refine Ref.um hl x v (fun pH HX hr hg=>?_) hx
   have dW:pH≠id:=fun e=>hi (e▸hr)
   exact⟨by simp only[St.aC,aE bL,if_neg dW,hg],rfl,fun _ _=>⟨rfl,rfl⟩⟩
 exact{h with
     slot:=fun i=>aq.later hl hρ _ (h.slot i),held:=aF.later hl hρ _ h.held
     mem:=fun pH HX hg=>by
      by_cases hi:pH=id
      ·subst hi;simp only[St.aC,aE bL,if_true,Option.some.injEq]at hg;subst hg;exact hO hρ
      ·simp only[St.aC,aE bL,if_neg hi]at hg;exact fU.later hl hρ rfl (fun _ _=>rfl) (h.mem pH HX hg)
     qQ:=fun i b' hg=>by
      simp only[St.aC,aE bL]
      by_cases hi:i=id
      ·simp[hi]
      ·simp only[if_neg hi];exact h.qQ i b' hg}
theorem dj.renew {id:Nat} {Uq ob:Obj} (hid:aA st.mem id=some Uq) (c:Array Value) (e:TypeId)
  (hR:∀x v,bD x=some id→Ref γ S w st.mem x v→Ref (dw γ id (some w.heap.size)) S (w.alloc (.cells c e)) (st.aC id ob).mem x v)
  (ho:(∀x v,Ref γ S w st.mem x v→Ref (dw γ id (some w.heap.size)) S (w.alloc (.cells c e)) (st.aC id ob).mem x v)→cA S w S (w.alloc (.cells c e))→
   fU (dw γ id (some w.heap.size)) S (w.alloc (.cells c e)) (Ref (dw γ id (some w.heap.size)) S (w.alloc (.cells c e)) (st.aC id ob).mem) id ob):
  dj w0 own0 hvs G (dw γ id (some w.heap.size)) S (st.aC id ob) a (w.alloc (.cells c e)):=by
 have hl:=u7 h (.cells c e);have bL:=bQ hid
 have hb:∀i b,γ i=some b→(w.alloc (.cells c e)).heap[b]? =w.heap[b]?:=fun i b hb=>fK (h.dx i b hb)
 have hρ:∀x v,Ref γ S w st.mem x v→Ref (dw γ id (some w.heap.size)) S (w.alloc (.cells c e)) (st.aC id ob).mem x v:=by
  intro x v hx
  by_cases hi:bD x=some id
  ·exact hR x v hi hx
  ·refine Ref.um hl x v (fun pH HX hr hg=>?_) hx
   have dW:pH≠id:=fun e=>hi (e▸hr)
   exact⟨by simp only[St.aC,aE bL,if_neg dW,hg],by simp only[dw,if_neg dW],fun b' gV=>eI (hb pH b' gV)⟩
 exact{
     size:=h.size,slot:=fun i=>aq.later hl hρ _ (h.slot i),held:=aF.later hl hρ _ h.held,defers:=h.defers
     mem:=fun pH ob' hg=>by
      by_cases hi:pH=id
      ·subst hi;simp only[St.aC,aE bL,if_true,Option.some.injEq]at hg;subst hg;exact ho hρ hl
      ·simp only[St.aC,aE bL,if_neg hi]at hg;exact fU.later hl hρ (by simp only[dw,if_neg hi]) (hb pH) (h.mem pH ob' hg)
     qQ:=fun i b hg=>by
      simp only[St.aC,aE bL]
      by_cases hi:i=id
      ·simp[hi]
      ·simp only[dw,if_neg hi]at hg ⊢;exact h.qQ i b hg
     inj:=fun i j b hi hj=>by
      simp only[dw]at hi hj;split at hi<;>split at hj
      ·rename_i e1 e2;rw[e1,e2]
      ·simp only[Option.some.injEq]at hi;subst hi;have:=h.dx j _ hj;omega
      ·simp only[Option.some.injEq]at hj;subst hj;have:=h.dx i _ hi;omega
      ·exact h.inj i j b hi hj
     own:=fun i b hi=>by
      simp only[dw]at hi;split at hi
      ·simp only[Option.some.injEq]at hi;subst hi;exact⟨fun hS=>by have:=h.bound _ hS;omega,.inl h.eF⟩
      ·exact h.own i b hi
     bound:=fun b hb=>by simp;have:=h.bound b hb;omega
     dx:=fun i b hi=>by
      simp only[dw]at hi;simp only[World.size_alloc];split at hi
      ·simp only[Option.some.injEq]at hi;omega
      ·have:=h.dx i b hi;omega
     nR:=fun g row hg=>by
      obtain⟨h1,c,h2,h3,h4⟩:=h.nR g row hg;exact⟨h1,c,((hl g h1).2.1).trans h2,b7.later hl row h3,h4⟩
     kept:=fun b hb hn=>(fK (by have:=h.eF;omega)).trans (h.kept b hb hn)
     os:=h.os,tape:=h.tape,output:=h.output
     eF:=by simp;have:=h.eF;omega}
omit h in
theorem kO {γ':Nat→Option Nat} {S':Nat→Prop} {w':World} {id sz ver:Nat} {rs rs':List (List PV)} (hid:aA st.mem id=some (.rows sz rs ver)) (x:AV) (v:Value) (hx:bD x=some id)
  (hr:Ref γ S w st.mem x v):Ref γ' S' w' (st.aC id (.rows sz rs' (ver+1))).mem x v:=by
 have bL:=bQ hid
 cases x with
 |dB i2 v2=>
  simp only[bD,Option.some.injEq]at hx;subst hx;simp only[Ref,hid]at hr;simp only[Ref,St.aC,aE bL,if_true];exact⟨⟨by omega,hr.1.2⟩,fun e=>by omega⟩
 |cW i2 v2 j2 o2=>
  simp only[bD,Option.some.injEq]at hx;subst hx;simp only[Ref,hid]at hr;simp only[Ref,St.aC,aE bL,if_true];exact⟨⟨by omega,hr.1.2⟩,fun e=>by omega⟩
 |ptr i2 o2=>
  simp only[bD,Option.some.injEq]at hx;subst hx;simp only[Ref,hid]at hr
 |dt i2=>
  simp only[bD,Option.some.injEq]at hx;subst hx;simp only[Ref,hid]at hr
 |eR i2 o2=>
  simp only[bD,Option.some.injEq]at hx;subst hx;simp only[Ref,hid]at hr
 |_=>simp[bD]at hx
omit h in
theorem l7 {γ':Nat→Option Nat} {S':Nat→Prop} {w':World} {id sz ver:Nat} {rs rs':List (List AV)} (hid:aA st.mem id=some (.cf sz rs ver)) (x:AV) (v:Value) (hx:bD x=some id)
  (hr:Ref γ S w st.mem x v):Ref γ' S' w' (st.aC id (.cf sz rs' (ver+1))).mem x v:=by
 have bL:=bQ hid
 cases x with
 |dB i2 v2=>
  simp only[bD,Option.some.injEq]at hx;subst hx;simp only[Ref,hid]at hr;simp only[Ref,St.aC,aE bL,if_true];exact⟨⟨by omega,hr.1.2⟩,fun e=>by omega⟩
 |cW i2 v2 j2 o2=>
  simp only[bD,Option.some.injEq]at hx;subst hx;simp only[Ref,hid]at hr;simp only[Ref,St.aC,aE bL,if_true];exact⟨⟨by omega,hr.1.2⟩,fun e=>by omega⟩
 |ptr i2 o2=>
  simp only[bD,Option.some.injEq]at hx;subst hx;simp only[Ref,hid]at hr
 |dt i2=>
  simp only[bD,Option.some.injEq]at hx;subst hx;simp only[Ref,hid]at hr
 |eR i2 o2=>
  simp only[bD,Option.some.injEq]at hx;subst hx;simp only[Ref,hid]at hr
 |_=>simp[bD]at hx
omit h in
theorem Cv {mem:List (Option Obj)} {x:AV} {v:Value} (hr:Ref γ S w mem x v):Ref γ S w.drew mem x v:=
 Ref.later (γ:=γ) (γ':=γ) (S:=S) (S':=S) (w:=w) (w':=w.drew) (mem:=mem) (mem':=mem) (fun b hb=>⟨hb,rfl,rfl⟩) (fun id ob hm=>⟨hm,rfl,fun b _=>⟨rfl,rfl⟩⟩) x v hr
omit h in
theorem wR (vO old:Nat) (e:TypeId):vO≤grownCap w vO old e:=by
 unfold grownCap Question.cut;exact Nat.le_add_right _ _
variable (bm:∀b,S0 b→S b) (bd:∀b,S b→S0 b∨w0.heap.size≤b∨own0 b)
include bm bd
theorem JD {t u e:TypeId} {sz bytes:Nat} {z:List PV} {x y:Operand} {x' y':bN} {c:Call} (ho:o.op=.call c) (hc:c.callee=.builtin .append) (ha:c.args=#[x,y]) (nV:c.argTypes=#[t,u])
  (ht:P.underlying t=some (.slice e)) (dZ:bZ P e=some sz) (oC:oz P e=some bytes) (hzt:ic P e=some z) (I9:z.length=sz)
  (hu:(∃e',P.underlying u=some (.slice e'))∨(P.underlying u=some .string∧sz=1)) (hx:a8 G x=some x') (hy:a8 G y=some y'):
  cg P w0 own0 hvs G S0 o a w st kn γ S (b6 aG kn (.app sz bytes x' y') st.ev):=by
 have h1:=h.aj hx;have h2:=h.aj hy;obtain⟨i,zv,hi,F8,F9,_⟩:=ij (S:=S) (w:=w) hzt
 have MO:i.bytes=bytes:=by simpa[oz,hi]using oC
 have sg:i.size=sz:=by simpa[bZ,hi]using dZ
 have hzc:zv.cells.size=sz:=by rw[←I9,←a7.length F9];simp
 have bJ:∀v w',(Builtin.append_ #[t,u] o.type #[a.eval x,a.eval y]).run P w=.ok v w'→(execOp a.eval o).run P w=.ok (.value v) w':=by
  intro v w' hv;simp only[execOp,ho,resolve,hc,ha,nV,Sem.run_bind,Sem.run_pure,Result.andThen_ok,invoke,builtin];simp only[List.map_toArray,List.map_cons,List.map_nil,hv,Result.andThen_ok]
 have pvp:∀ys,gU aG (st.ev y')=some ys→
   (∀xs,st.ev x'=.full xs→ek P w0 own0 hvs G S0 o a w st kn γ S (.km (aG.po xs ys bytes sz∧aG.Rk xs ys) (.rows sz (aG.re xs ys) 0) (.dB kn 0)))∧
   (∀id ver rs,st.ev x'=.dB id ver→aA st.mem id=some (.rows sz rs ver)→ek P w0 own0 hvs G S0 o a w st kn γ S (.iL (aG.po rs ys bytes sz) id (.rows sz (aG.re rs ys) (ver+1)) (.dB id (ver+1)))):=by
  intro ys zm
  have grow:∀(xs:List (List PV)) (base:Option Addr) (cap:Nat) (olds news:List Value),a.eval x=.slice base xs.length cap→cap<xs.length+ys.length→aG.po xs ys bytes sz→
    a7 S w xs.flatten olds→olds.length=xs.length*sz→(Builtin.firstCells sz xs.length (.slice base xs.length cap)).run P w.drew=.ok olds.toArray w.drew→
    Src P sz u (a.eval y) ys.length news w→a7 S w ys.flatten news→
    ∃(c:Array Value) (nc:Nat),(execOp a.eval o).run P w=.ok (.value (.slice (some ⟨w.heap.size,0,none⟩) (xs.length+ys.length) nc)) (w.drew.alloc (.cells c e))∧xs.length+ys.length≤nc∧c.size=nc*sz∧
     aS sz (xs++ys)∧∀{S':Nat→Prop} {w':World},cA S w S' w'→bI S' w' (xs++ys) c 0:=by
   intro xs base cap olds news zw H2 dQ Yc JE hold iZ yE;obtain⟨q1,q2,q3,q4⟩:=dQ;have bP:aS sz (xs++ys):=q4.append (fun r hr=>(q3 r hr).1);have Ur:=nextslicecap_le H2;have B7:=wR (w:=w) (xs.length+ys.length) cap e
   have JF:Builtin.nextslicecap (xs.length+ys.length) cap*i.bytes≤281474976710656:=by
    rw[MO];have:=Nat.mul_le_mul_right bytes Ur
    have e1:(2*(xs.length+ys.length)+512)*bytes=2*((xs.length+ys.length+256)*bytes):=by
     rw[←Nat.mul_assoc,show 2*(xs.length+ys.length+256)=2*(xs.length+ys.length)+512 by omega]
    omega
   have hr:=run_append_grow_src (P:=P) w t u o.type e i zv ht hi F8 base xs.length cap olds (by rw[sg];exact hold) (a.eval y) ys.length news (by rw[sg];exact iZ) H2 (by omega) JF;refine⟨_,_,bJ _ _ (by rw[zw];exact hr),B7,?_,bP,fun hl=>?_⟩
   ·have JG:=iZ.newsLen;simp only[Array.size_append,List.size_toArray,List.length_append,JE,JG,Builtin.zeroCells,Array.size_map,Array.size_range,hzc];rw[←Nat.add_mul,←Nat.add_mul];congr 1;omega
   ·refine bI.of_flat (w:=_) h bm bd (vs:=olds++news) (by rw[List.flatten_append];exact a7.append (a7.later hl _ Yc) (a7.later hl _ yE)) fun j v hj=>?_
    rw[Nat.zero_add,Array.getElem?_append_left (by simpa using (List.getElem?_eq_some_iff.1 hj).1)];simpa using hj
  refine⟨?_,?_⟩
  ·intro xs b4;have h1:=h1;rw[b4]at h1;simp only[aq]at h1;obtain⟨a0,zw,hd⟩:=h1;intro hm bL;rintro⟨dQ,dW⟩;have e6:=dQ.2.2.1;obtain⟨news,iZ,yE⟩:=qT (P:=P) (tx:=u) (sz:=sz) zm h2 e6 hu
   by_cases DW:ys=[]
   ·have hxn:xs=[]:=by
     rcases dW with dW|dW
     ·exact dW
     ·exact absurd DW dW
    subst DW;subst hxn
    have wT:news=[]:=by have:=iZ.newsLen;simpa using this
    subst wT;have hr:=run_append_nothing (P:=P) w t u o.type e i ht hi a0 0 0 (Nat.le_refl _) (a.eval y) (by rw[sg];exact iZ);refine⟨_,w,γ,S,.inl (bJ _ _ (by rw[zw];exact hr)),bm,bd,dj.Ek h hm bL sz 0,?_⟩;simp only[aq,Ref,St.aC,aE bL,if_true];exact⟨⟨Nat.le_refl _,rfl⟩,fun _=>⟨a0,0,rfl,by simp[aG],.inl rfl⟩⟩
   ·have zx:0<ys.length:=List.length_pos_iff.2 DW
    have hold:∃olds:List Value,a7 S w xs.flatten olds∧olds.length=xs.length*sz∧(Builtin.firstCells sz xs.length (.slice a0 xs.length xs.length)).run P w.drew=.ok olds.toArray w.drew:=by
     rcases hd with hd|⟨b,off,cc,mM,Ja,H3,MQ,k1,k2⟩
     ·subst hd;exact⟨[],by simp only[List.flatten_nil,a7],by simp,by cases a0<;>simp[Builtin.firstCells,loadCells,loadCellsFrom]⟩
     ·subst Ja;obtain⟨vs,j1,j2,j3⟩:=bI.flat dQ.2.2.2 k2;exact⟨vs,j1,j2,df (w:=w.drew) MQ j2 j3⟩
    obtain⟨olds,o1,o2,o3⟩:=hold;obtain⟨cc,nc,g1,g2,g3,g4,g5⟩:=grow xs a0 xs.length olds news zw (by omega) dQ o1 o2 o3 iZ yE;have key:=dj.new (dj.drew h) hm bL (.rows sz (xs++ys) 0) cc e (fun hρ hl=>.inr ⟨w.heap.size,cc,e,by simp[dw],heap_alloc_new,by rw[g3,List.length_append];exact Nat.mul_le_mul_right _ g2,g4,g5 hl⟩);refine⟨_,_,_,S,.inl g1,bm,bd,key.1,?_⟩;simp only[aq,Ref,St.aC,aE bL,if_true];exact⟨⟨Nat.le_refl _,rfl⟩,fun _=>⟨_,nc,by simp[aG],by simpa[aG]using g2,.inr ⟨w.heap.size,cc,by simp[dw],rfl,ey,g3⟩⟩⟩
  ·intro id ver rs b4 bH;have h1:=h1;rw[b4]at h1;simp only[aq,Ref]at h1;simp only[bH]at h1;intro dQ;have e6:=dQ.2.2.1;obtain⟨news,iZ,yE⟩:=qT (P:=P) (tx:=u) (sz:=sz) zm h2 e6 hu;obtain⟨a1,cap,q1,q2,q3⟩:=h1.2 trivial;have hO:=h.mem id _ bH
   by_cases DW:ys=[]
   ·subst DW
    have wT:news=[]:=by have:=iZ.newsLen;simpa using this
    subst wT;have hr:=run_append_nothing (P:=P) w t u o.type e i ht hi a1 rs.length cap q2 (a.eval y) (by rw[sg];exact iZ)
    have Es:aG.re rs []=rs:=by simp[aG]
    refine⟨_,w,γ,S,.inl (bJ _ _ (by rw[q1];exact hr)),bm,bd,dj.setObj h bH (fun z v hz hv=>kO bH z v hz hv) (fun hρ=>?_),?_⟩
    ·rw[Es];exact fU.later (ob:=.rows sz rs ver) (cA.refl S w) hρ rfl (fun _ _=>rfl) hO
    ·simp only[aq,Ref,St.aC,aE (bQ bH),if_true,Es];exact⟨⟨Nat.le_refl _,rfl⟩,fun _=>⟨a1,cap,rfl,q2,q3⟩⟩
   ·have zx:0<ys.length:=List.length_pos_iff.2 DW
    by_cases jD:rs.length+ys.length≤cap
    ·rcases q3 with q3|⟨b,cb,r1,r2,r3,r4⟩
     ·omega
     ·obtain⟨c1,e1,t1,t2,t3,t4⟩:=rows_block r1 hO;simp only[ag,t1,Option.some.injEq]at r3;subst r3;subst r2;obtain⟨w',c',g1,g2,g3,g4,g5,g6,g7,g8,g9⟩:=run_append_room (P:=P) (ty:=o.type) ht hi (by rw[sg];exact iZ) jD t1 (by rw[sg];exact r4)
      have key:=dj.l5 h bH r1 g5 g6 g7 g8 g9 (ob':=.rows sz (aG.re rs ys) (ver+1)) (fun z v hz hv=>kO bH z v hz hv) (fun hρ hl=>by
       refine .inr ⟨b,c',e1,r1,g2,?_,?_,?_⟩
       ·rw[g3,r4];simp only[aG,List.length_append];exact Nat.mul_le_mul_right _ jD
       ·simp only[aG];exact t3.append (fun r hr=>(e6 r hr).1)
       ·simp only[aG];refine bI.append t3 ?_ ?_
        ·obtain⟨vs,j1,j2,j3⟩:=bI.flat t3 (bI.later hl _ t4)
         refine bI.of_flat h bm bd j1 fun j v hj=>?_
         have vP:=(List.getElem?_eq_some_iff.1 hj).1;rw[Nat.zero_add,g4,if_neg (by rw[sg];omega),←Nat.zero_add j];exact j3 j v hj
        ·refine bI.of_flat h bm bd (a7.later hl _ yE) fun j v hj=>?_
         have vP:=(List.getElem?_eq_some_iff.1 hj).1
         rw[Nat.zero_add,g4,if_pos (by rw[sg];omega),sg,show rs.length*sz+j-rs.length*sz=j by omega];exact hj)
      refine⟨_,w',γ,S,.inl (bJ _ _ (by rw[q1];exact g1)),bm,bd,key.1,?_⟩;simp only[aq,Ref,St.aC,aE (bQ bH),if_true];exact⟨⟨Nat.le_refl _,rfl⟩,fun _=>⟨_,cap,by simp[aG],by simpa[aG]using jD,.inr ⟨b,c',r1,rfl,by simp[ag,g2],by rw[g3,r4]⟩⟩⟩
    ·have hold:∃olds:List Value,a7 S w rs.flatten olds∧olds.length=rs.length*sz∧(Builtin.firstCells sz rs.length (.slice a1 rs.length cap)).run P w.drew=.ok olds.toArray w.drew:=by
      rcases q3 with q3|⟨b,cb,r1,r2,r3,r4⟩
      ·have:rs=[]:=List.eq_nil_of_length_eq_zero (by omega);subst this;exact⟨[],by simp only[List.flatten_nil,a7],by simp,by cases a1<;>simp[Builtin.firstCells,loadCells,loadCellsFrom]⟩
      ·obtain⟨c1,e1,t1,t2,t3,t4⟩:=rows_block r1 hO;subst r2;obtain⟨vs,j1,j2,j3⟩:=bI.flat t3 t4;exact⟨vs,j1,j2,df (w:=w.drew) (by show ag w b=_;simp[ag,t1]) j2 j3⟩
     obtain⟨olds,o1,o2,o3⟩:=hold;obtain⟨cc,nc,g1,g2,g3,g4,g5⟩:=grow rs a1 cap olds news q1 (by omega) dQ o1 o2 o3 iZ yE;have key:=dj.renew (dj.drew h) bH (ob:=.rows sz (aG.re rs ys) (ver+1)) cc e (fun z v hz hv=>kO bH z v hz hv) (fun hρ hl=>.inr ⟨w.heap.size,cc,e,by simp[dw],heap_alloc_new,by rw[g3];simp only[aG,List.length_append];exact Nat.mul_le_mul_right _ g2,by simpa only[aG]using g4,by simpa only[aG]using g5 hl⟩)
     refine⟨_,_,_,S,.inl g1,bm,bd,key,?_⟩;simp only[aq,Ref,St.aC,aE (bQ bH),if_true];exact⟨⟨Nat.le_refl _,rfl⟩,fun _=>⟨_,nc,by simp[aG],by simpa[aG]using g2,.inr ⟨w.heap.size,cc,by simp[dw],rfl,ey,g3⟩⟩⟩
 have avp:∀ys,qM aG (st.ev y')=some ys→
   (∀xs,st.ev x'=.full xs→ek P w0 own0 hvs G S0 o a w st kn γ S (.km (aG.Cf (xs.map (·.map .pv)) ys bytes sz∧ys≠[]) (.cf sz (aG.Au (xs.map (·.map .pv)) ys) 0) (.dB kn 0)))∧
   (∀id ver rs,st.ev x'=.dB id ver→aA st.mem id=some (.cf sz rs ver)→ek P w0 own0 hvs G S0 o a w st kn γ S (.iL (aG.Cf rs ys bytes sz) id (.cf sz (aG.Au rs ys) (ver+1)) (.dB id (ver+1)))):=by
  intro ys zm
  have grow:∀(xs:List (List AV)) (base:Option Addr) (cap:Nat) (olds news:List Value),a.eval x=.slice base xs.length cap→cap<xs.length+ys.length→aG.Cf xs ys bytes sz→
    aF S w (Ref γ S w st.mem) xs.flatten olds→olds.length=xs.length*sz→(Builtin.firstCells sz xs.length (.slice base xs.length cap)).run P w.drew=.ok olds.toArray w.drew→
    Src P sz u (a.eval y) ys.length news w→aF S w (Ref γ S w st.mem) ys.flatten news→
    ∃(c:Array Value) (nc:Nat),(execOp a.eval o).run P w=.ok (.value (.slice (some ⟨w.heap.size,0,none⟩) (xs.length+ys.length) nc)) (w.drew.alloc (.cells c e))∧xs.length+ys.length≤nc∧c.size=nc*sz∧
     (∀r∈xs++ys,r.length=sz)∧∀{S':Nat→Prop} {w':World} {ρ':AV→Value→Prop},cA S w S' w'→(∀x v,Ref γ S w st.mem x v→ρ' x v)→bR S' w' ρ' (xs++ys) c 0:=by
   intro xs base cap olds news zw H2 dQ Yc JE hold iZ yE;obtain⟨q1,q2,q3,q4⟩:=dQ
   have bP:∀r∈xs++ys,r.length=sz:=fun r hr=>(List.mem_append.1 hr).elim (q4 r) (fun h=>(q3 r h).1)
   have Ur:=nextslicecap_le H2;have B7:=wR (w:=w) (xs.length+ys.length) cap e
   have JF:Builtin.nextslicecap (xs.length+ys.length) cap*i.bytes≤281474976710656:=by
    rw[MO];have:=Nat.mul_le_mul_right bytes Ur
    have e1:(2*(xs.length+ys.length)+512)*bytes=2*((xs.length+ys.length+256)*bytes):=by
     rw[←Nat.mul_assoc,show 2*(xs.length+ys.length+256)=2*(xs.length+ys.length)+512 by omega]
    omega
   have hr:=run_append_grow_src (P:=P) w t u o.type e i zv ht hi F8 base xs.length cap olds (by rw[sg];exact hold) (a.eval y) ys.length news (by rw[sg];exact iZ) H2 (by omega) JF;refine⟨_,_,bJ _ _ (by rw[zw];exact hr),B7,?_,bP,fun hl hρ=>?_⟩
   ·have JG:=iZ.newsLen;simp only[Array.size_append,List.size_toArray,List.length_append,JE,JG,Builtin.zeroCells,Array.size_map,Array.size_range,hzc];rw[←Nat.add_mul,←Nat.add_mul];congr 1;omega
   ·refine bR.of_flat (vs:=olds++news) (by rw[List.flatten_append];exact aF.append (aF.later hl hρ _ Yc) (aF.later hl hρ _ yE)) fun j v hj=>?_
    rw[Nat.zero_add,Array.getElem?_append_left (by simpa using (List.getElem?_eq_some_iff.1 hj).1)];simpa using hj
  refine⟨?_,?_⟩
  ·intro xs b4;have h1:=h1;rw[b4]at h1;simp only[aq]at h1;obtain⟨a0,zw,hd⟩:=h1;intro hm bL;rintro⟨dQ,dW⟩;have e6:=dQ.2.2.1;obtain⟨news,iZ,yE⟩:=Cu (P:=P) (tx:=u) (sz:=sz) zm h2 e6 hu
   by_cases DW:ys=[]
   ·exact absurd DW dW
   ·have zx:0<ys.length:=List.length_pos_iff.2 DW
    have hold:∃olds:List Value,aF S w (Ref γ S w st.mem) (xs.map (·.map AV.pv)).flatten olds∧olds.length=xs.length*sz∧(Builtin.firstCells sz xs.length (.slice a0 xs.length xs.length)).run P w.drew=.ok olds.toArray w.drew:=by
     rcases hd with hd|⟨b,off,cc,mM,Ja,H3,MQ,k1,k2⟩
     ·subst hd;exact⟨[],by simp only[List.map_nil,List.flatten_nil,aF],by simp,by cases a0<;>simp[Builtin.firstCells,loadCells,loadCellsFrom]⟩
     ·subst Ja;obtain⟨vs,j1,j2,j3⟩:=bI.flat (sz:=sz) (fun r hr=>by simpa using dQ.2.2.2 _ (List.mem_map_of_mem (f:=fun l=>l.map AV.pv) hr)) k2;exact⟨vs,by rw[map_flatten];exact a7.av j1,j2,df (w:=w.drew) MQ j2 j3⟩
    obtain⟨olds,o1,o2,o3⟩:=hold;obtain⟨cc,nc,g1,g2,g3,g4,g5⟩:=grow (xs.map (·.map AV.pv)) a0 xs.length olds news (by rw[List.length_map];exact zw) (by rw[List.length_map];omega) dQ o1 (by rw[List.length_map];exact o2) (by rw[List.length_map];exact o3) iZ yE;rw[List.length_map]at g1 g2;have key:=dj.new (dj.drew h) hm bL (.cf sz ((xs.map (·.map AV.pv))++ys) 0) cc e (fun hρ hl=>.inr ⟨w.heap.size,cc,e,by simp[dw],heap_alloc_new,by rw[g3,List.length_append,List.length_map];exact Nat.mul_le_mul_right _ g2,g4,g5 hl (fun x v hx=>hρ x v (Cv hx))⟩)
    refine⟨_,_,_,S,.inl g1,bm,bd,key.1,?_⟩;simp only[aq,Ref,St.aC,aE bL,if_true];exact⟨⟨Nat.le_refl _,rfl⟩,fun _=>⟨_,nc,by simp[aG],by simpa[aG]using g2,.inr ⟨w.heap.size,cc,by simp[dw],rfl,ey,g3⟩⟩⟩
  ·intro id ver rs b4 bH;have h1:=h1;rw[b4]at h1;simp only[aq,Ref]at h1;simp only[bH]at h1;intro dQ;have e6:=dQ.2.2.1;obtain⟨news,iZ,yE⟩:=Cu (P:=P) (tx:=u) (sz:=sz) zm h2 e6 hu;obtain⟨a1,cap,q1,q2,q3⟩:=h1.2 trivial;have hO:=h.mem id _ bH
   by_cases DW:ys=[]
   ·subst DW
    have wT:news=[]:=by have:=iZ.newsLen;simpa using this
    subst wT;have hr:=run_append_nothing (P:=P) w t u o.type e i ht hi a1 rs.length cap q2 (a.eval y) (by rw[sg];exact iZ)
    have Es:aG.Au rs []=rs:=by simp[aG]
    refine⟨_,w,γ,S,.inl (bJ _ _ (by rw[q1];exact hr)),bm,bd,dj.setObj h bH (fun z v hz hv=>l7 bH z v hz hv) (fun hρ=>?_),?_⟩
    ·rw[Es]at hρ ⊢;exact fU.later (ob:=.cf sz rs ver) (cA.refl S w) hρ rfl (fun _ _=>rfl) hO
    ·simp only[aq,Ref,St.aC,aE (bQ bH),if_true,Es];exact⟨⟨Nat.le_refl _,rfl⟩,fun _=>⟨a1,cap,rfl,q2,q3⟩⟩
   ·have zx:0<ys.length:=List.length_pos_iff.2 DW
    by_cases jD:rs.length+ys.length≤cap
    ·rcases q3 with q3|⟨b,cb,r1,r2,r3,r4⟩
     ·omega
     ·obtain⟨c1,e1,t1,t2,t3,t4⟩:=kY r1 hO;simp only[ag,t1,Option.some.injEq]at r3;subst r3;subst r2;obtain⟨w',c',g1,g2,g3,g4,g5,g6,g7,g8,g9⟩:=run_append_room (P:=P) (ty:=o.type) ht hi (by rw[sg];exact iZ) jD t1 (by rw[sg];exact r4)
      have key:=dj.l5 h bH r1 g5 g6 g7 g8 g9 (ob':=.cf sz (aG.Au rs ys) (ver+1)) (fun z v hz hv=>l7 bH z v hz hv) (fun hρ hl=>by
       refine .inr ⟨b,c',e1,r1,g2,?_,?_,?_⟩
       ·rw[g3,r4];simp only[aG,List.length_append];exact Nat.mul_le_mul_right _ jD
       ·simp only[aG];exact fun r hr=>(List.mem_append.1 hr).elim (t3 r) (fun h=>(e6 r h).1)
       ·simp only[aG];refine bR.append t3 ?_ ?_
        ·obtain⟨vs,j1,j2,j3⟩:=bR.flat t3 (bR.later hl hρ t4)
         refine bR.of_flat j1 fun j v hj=>?_
         have vP:=(List.getElem?_eq_some_iff.1 hj).1;rw[Nat.zero_add,g4,if_neg (by rw[sg];omega),←Nat.zero_add j];exact j3 j v hj
        ·refine bR.of_flat (aF.later hl hρ _ yE) fun j v hj=>?_
         have vP:=(List.getElem?_eq_some_iff.1 hj).1
         rw[Nat.zero_add,g4,if_pos (by rw[sg];omega),sg,show rs.length*sz+j-rs.length*sz=j by omega];exact hj)
      refine⟨_,w',γ,S,.inl (bJ _ _ (by rw[q1];exact g1)),bm,bd,key.1,?_⟩;simp only[aq,Ref,St.aC,aE (bQ bH),if_true];exact⟨⟨Nat.le_refl _,rfl⟩,fun _=>⟨_,cap,by simp[aG],by simpa[aG]using jD,.inr ⟨b,c',r1,rfl,by simp[ag,g2],by rw[g3,r4]⟩⟩⟩
    ·have hold:∃olds:List Value,aF S w (Ref γ S w st.mem) rs.flatten olds∧olds.length=rs.length*sz∧(Builtin.firstCells sz rs.length (.slice a1 rs.length cap)).run P w.drew=.ok olds.toArray w.drew:=by
      rcases q3 with q3|⟨b,cb,r1,r2,r3,r4⟩
      ·have:rs=[]:=List.eq_nil_of_length_eq_zero (by omega);subst this;exact⟨[],by simp only[List.flatten_nil,aF],by simp,by cases a1<;>simp[Builtin.firstCells,loadCells,loadCellsFrom]⟩
      ·obtain⟨c1,e1,t1,t2,t3,t4⟩:=kY r1 hO;subst r2;obtain⟨vs,j1,j2,j3⟩:=bR.flat t3 t4;exact⟨vs,j1,j2,df (w:=w.drew) (by show ag w b=_;simp[ag,t1]) j2 j3⟩
     obtain⟨olds,o1,o2,o3⟩:=hold;obtain⟨cc,nc,g1,g2,g3,g4,g5⟩:=grow rs a1 cap olds news q1 (by omega) dQ o1 o2 o3 iZ yE;have key:=dj.renew (dj.drew h) bH (ob:=.cf sz (aG.Au rs ys) (ver+1)) cc e (fun z v hz hv=>l7 bH z v hz hv) (fun hρ hl=>.inr ⟨w.heap.size,cc,e,by simp[dw],heap_alloc_new,by rw[g3];simp only[aG,List.length_append];exact Nat.mul_le_mul_right _ g2,by simpa only[aG]using g4,by simpa only[aG]using g5 hl (fun x v hx=>hρ x v (Cv hx))⟩)
     refine⟨_,_,_,S,.inl g1,bm,bd,key,?_⟩;simp only[aq,Ref,St.aC,aE (bQ bH),if_true];exact⟨⟨Nat.le_refl _,rfl⟩,fun _=>⟨_,nc,by simp[aG],by simpa[aG]using g2,.inr ⟨w.heap.size,cc,by simp[dw],rfl,ey,g3⟩⟩⟩
 simp only[b6,Az];split
 ·rename_i xs b4
  cases hem:vV xs (st.ev y')with
  |true=>
   have Us:st.ev y'=.full []:=by
    unfold vV at hem;split at hem
    ·assumption
    ·cases hem
   have zm:gU aG (st.ev y')=some []:=by rw[Us];rfl
   have Yd:=h1;rw[b4]at h1;simp only[aq]at h1;obtain⟨a0,zw,hd⟩:=h1;obtain⟨news,iZ,yE⟩:=qT (P:=P) (tx:=u) (sz:=sz) zm h2 (fun r hr=>by cases hr) hu
   have wT:news=[]:=by have:=iZ.newsLen;simpa using this
   subst wT;have hr:=run_append_nothing (P:=P) w t u o.type e i ht hi a0 xs.length xs.length (Nat.le_refl _) (a.eval y) (by rw[sg];exact iZ);refine⟨_,w,γ,S,.inl (bJ _ _ (by rw[zw];exact hr)),bm,bd,h,?_⟩;simp only[aq];exact⟨a0,rfl,hd⟩
  |false=>
   simp only
   cases zm:gU aG (st.ev y')with
   |some ys=>exact(pvp ys zm).1 xs b4
   |none=>
    simp only;split
    ·rename_i ys Us;exact(avp ys (by rw[Us];rfl)).1 xs b4
    ·trivial
 ·rename_i id ver b4;intro ob bH
  cases ob with
  |rows mM rs bo=>
   by_cases lK:sz=mM
   ·subst lK
    by_cases hv:ver=bo
    ·subst hv;simp only[beq_self_eq_true]
     cases zm:gU aG (st.ev y')with
     |some ys=>exact(pvp ys zm).2 id ver rs b4 bH
     |none=>trivial
    ·simp only[beq_self_eq_true,beq_eq_false_iff_ne.2 hv];trivial
   ·simp only[beq_eq_false_iff_ne.2 lK];trivial
  |cf mM rs bo=>
   by_cases lK:sz=mM
   ·subst lK
    by_cases hv:ver=bo
    ·subst hv;simp only[beq_self_eq_true]
     cases zm:qM aG (st.ev y')with
     |some ys=>exact(avp ys zm).2 id ver rs b4 bH
     |none=>trivial
    ·simp only[beq_self_eq_true,beq_eq_false_iff_ne.2 hv];trivial
   ·simp only[beq_eq_false_iff_ne.2 lK];trivial
  |_=>trivial
 ·trivial
end
end Go.Am
end
section
namespace Go.Am
def uq (G:Nat→Option (List PV)) (S:Nat→Prop) (w:World):Prop:=∀g row,G g=some row→S g∧∃c,ag w g=some c∧b7 S w row c 0∧c.size=row.length
def fM (P:Program) (f:FuncId) (args:Array Value) (w:World) (R:Value→World→Prop):Prop:=
 match(callFunc f args).run P w with
 |.ok (.enter f' Cw) w'=>Calls P f' Cw w' fun e DV=>∃v,e=.returned v∧R v DV
 |.ok (.value v) w'=>R v w'
 |.ok (.row row Cw) w'=>Rows P row Cw w' R
 |_=>False
def ar (P:Program) (G:Nat→Option (List PV)) (f:FuncId) (ps:List PV) (res:PV):Prop:=
 ∀(S:Nat→Prop) (w:World) (vs:List Value),(∀b,S b→b<w.heap.size)→uq G S w→a7 S w ps vs→
  fM P f vs.toArray w fun v w'=>RowKit.Below w.heap.size w w'∧aJ (fun b=>S b∨(w.heap.size≤b∧b<w'.heap.size)) w' res v
theorem l8 {S S':Nat→Prop} {w w':World}:∀{ps:List PV} {vs:List Value},pL ps=true→a7 S w ps vs→a7 S' w' ps vs
 |[],_,_,h=>by simpa only[a7]using h
 |p::ps,vs,hs,h=>by
  simp only[a7]at h ⊢;obtain⟨v,r,rfl,h1,h2⟩:=h
  cases p with
  |bool b=>exact⟨v,r,rfl,by simpa only[aJ]using h1,l8 (by simpa only[pL]using hs) h2⟩
  |int k n=>exact⟨v,r,rfl,by simpa only[aJ]using h1,l8 (by simpa only[pL]using hs) h2⟩
  |str s=>exact⟨v,r,rfl,by simpa only[aJ]using h1,l8 (by simpa only[pL]using hs) h2⟩
  |_=>simp[pL]at hs
theorem l9 {S S':Nat→Prop} {w w':World}:∀{ps:List PV} {vs:List Value},ov ps=true→a7 S w ps vs→a7 S' w' ps vs
 |[],_,_,h=>by simpa only[a7]using h
 |p::ps,vs,hs,h=>by
  simp only[a7]at h ⊢;obtain⟨v,r,rfl,h1,h2⟩:=h
  cases p with
  |bool b=>exact⟨v,r,rfl,by simpa only[aJ]using h1,l9 (by simpa only[ov]using hs) h2⟩
  |int k n=>exact⟨v,r,rfl,by simpa only[aJ]using h1,l9 (by simpa only[ov]using hs) h2⟩
  |str s=>exact⟨v,r,rfl,by simpa only[aJ]using h1,l9 (by simpa only[ov]using hs) h2⟩
  |agg cs=>
   simp only[ov]at hs;split at hs
   ·rename_i hc;simp only[aJ]at h1;obtain⟨us,rfl,h1⟩:=h1;exact⟨_,r,rfl,by simp only[aJ];exact⟨us,rfl,l8 hc h1⟩,l9 hs h2⟩
   ·cases hs
  |_=>simp[ov]at hs
theorem H4 {S S':Nat→Prop} {w w':World} {p:PV} {v:Value} (hs:p.jB=true) (h:aJ S w p v):aJ S' w' p v:=by
 cases p with
 |bool b=>simpa only[aJ]using h
 |int k n=>simpa only[aJ]using h
 |str s=>simpa only[aJ]using h
 |agg cs=>simp only[aJ]at h ⊢;obtain⟨us,rfl,h1⟩:=h;exact⟨us,rfl,l8 (by simpa only[PV.jB]using hs) h1⟩
 |ep cs=>simp only[aJ]at h ⊢;obtain⟨us,rfl,h1⟩:=h;exact⟨us,rfl,l9 (by simpa only[PV.jB]using hs) h1⟩
 |_=>simp[PV.jB]at hs
section
variable {P:Program} {w0:World} {own0:Nat→Prop} {hvs:List Value} {G:Nat→Option (List PV)} {S0:Nat→Prop} {accs:List Nat}
 {γ:Nat→Option Nat} {S:Nat→Prop} {st:St} {a:Act} {w:World} {o:Oper} {kn:Nat}
 (h:dj w0 own0 hvs G γ S st a w)
include h
def gF (γ:Nat→Option Nat) (S:Nat→Prop) (b:Bool):Nat→Prop:=fun k=>S k∨(b=true∧∃i,γ i=some k)
omit h in
theorem jq (b b':Bool) (hb:b=true→b'=true):cA (gF γ S b) w (gF γ S b') w:=fun _ hk=>⟨hk.imp (fun h=>h) (fun h=>⟨hb h.1,h.2⟩),rfl,rfl⟩
omit h in
theorem Ut {b b':Bool}:b=true→(match b with|true=>true|false=>b')=true:=by intro h;subst h;rfl
omit h in
theorem Uu {b b':Bool}:b'=true→(match b with|true=>true|false=>b')=true:=by intro h;cases b<;>simp[h]
theorem nW {x:AV} {v:Value} {p:PV} {b:Bool} (hx:nL st.mem x=some (p,b)) (hr:aq S w (Ref γ S w st.mem) x v):aJ (gF γ S b) w p v:=by
 have hl:∀b,cA S w (gF γ S b) w:=fun b k hk=>⟨.inl hk,rfl,rfl⟩
 cases x with
 |pv q=>simp only[nL,Option.some.injEq,Prod.mk.injEq]at hx;obtain⟨rfl,rfl⟩:=hx;simp only[aq]at hr;exact aJ.later (hl _) _ hr
 |full rows=>
  simp only[nL,Option.some.injEq,Prod.mk.injEq]at hx;obtain⟨rfl,rfl⟩:=hx;exact aJ.later (hl _) _ (fD (γ:=γ) (st:=st) (.full rows) (by simp only[AV.flat]) hr)
 |dB id ver=>
  simp only[nL]at hx;simp only[aq,Ref]at hr;split at hx
  ·rename_i sz rs bo hm;simp only[hm]at hr;split at hx
   ·rename_i hv
    have hv:ver=bo:=by simpa using hv
    simp only[Option.some.injEq,Prod.mk.injEq]at hx;obtain⟨rfl,rfl⟩:=hx;obtain⟨a1,cap,q1,q2,q3⟩:=hr.2 hv;simp only[aJ];refine⟨a1,cap,q1,by simpa using q2,?_⟩
    rcases q3 with q3|⟨k,c,r1,r2,r3,r4⟩
    ·exact .inl ⟨List.eq_nil_of_length_eq_zero (by omega),trivial⟩
    ·obtain⟨c1,e1,t1,t2,t3,t4⟩:=rows_block r1 (h.mem id _ hm);exact .inr ⟨k,0,c1,sz,r2,.inr ⟨rfl,id,r1⟩,by simp[ag,t1],t3,by simp[aS],bI.later (hl _) _ t4,by simp only[bI]⟩
   ·cases hx
  ·rename_i rs bo hm;simp only[hm]at hr;split at hx
   ·rename_i hv
    have hv:ver=bo:=by simpa using hv
    simp only[Option.some.injEq,Prod.mk.injEq]at hx;obtain⟨rfl,rfl⟩:=hx;exact aJ.later (hl _) _ (hr.2 hv)
   ·cases hx
  ·cases hx
 |dt id=>
  simp only[nL]at hx;simp only[aq,Ref]at hr;split at hx
  ·rename_i kg vg kn rows hm;simp only[hm]at hr;simp only[Option.some.injEq,Prod.mk.injEq]at hx;obtain⟨rfl,rfl⟩:=hx;obtain⟨k,hk,rfl⟩:=hr;obtain⟨k',es,ck,eZ,h1,h2,h3⟩:=h.mem id _ hm;rw[hk]at eZ;cases eZ;simp only[aJ];exact⟨k,es,ck,rfl,.inr ⟨rfl,id,hk⟩,by simp[fc,h1],h2,bU.later (hl _) _ h3⟩
  ·cases hx
 |_=>simp[nL]at hx
theorem sk:∀{xs:List AV} {vs:List Value} {ps:List PV} {b:Bool},ou st.mem xs=some (ps,b)→aF S w (Ref γ S w st.mem) xs vs→a7 (gF γ S b) w ps vs
 |[],vs,ps,b,hx,hr=>by
  simp only[ou,Option.some.injEq,Prod.mk.injEq]at hx;obtain⟨rfl,rfl⟩:=hx;simpa only[aF,a7]using hr
 |x::xs,vs,ps,b,hx,hr=>by
  simp only[aF]at hr;obtain⟨v,r,rfl,h1,h2⟩:=hr;simp only[ou]at hx;split at hx
  ·rename_i p b1 hp;split at hx
   ·rename_i qs b2 hq;simp only[Option.some.injEq,Prod.mk.injEq]at hx;obtain⟨rfl,rfl⟩:=hx;simp only[a7];exact⟨v,r,rfl,aJ.later (jq _ _ Ut) _ (nW h hp h1),a7.later (jq _ _ Uu) _ (sk hq h2)⟩
   ·cases hx
  ·cases hx
theorem kq {x:AV} {v:Value} {p:PV} {b:Bool} (hx:mS st.mem x=some (p,b)) (hr:aq S w (Ref γ S w st.mem) x v):aJ (gF γ S b) w p v:=by
 cases x with
 |ptr id off=>
  cases off with
  |zero=>
   simp only[mS]at hx;simp only[aq,Ref]at hr;split at hx
   ·rename_i cs hm;simp only[hm]at hr;split at hx
    ·rename_i qs b2 hq;simp only[Option.some.injEq,Prod.mk.injEq]at hx;obtain⟨rfl,rfl⟩:=hx;obtain⟨k,hk,rfl⟩:=hr;obtain⟨k',c,e,eZ,hc,dZ,Xu⟩:=h.mem id _ hm;rw[hk]at eZ;cases eZ;obtain⟨us,u1,u2,u3⟩:=bz.list Xu.1;have hL:=sk h hq u1;simp only[aJ];exact⟨k,0,c,rfl,.inr ⟨rfl,id,hk⟩,by simp[ag,hc],b7.eG (a7.later (jq _ _ (fun _=>rfl)) _ hL) u3⟩
    ·cases hx
   ·cases hx
  |succ n=>simp[mS,nL]at hx
 |agg cs=>
  simp only[mS]at hx;split at hx
  ·rename_i qs b2 hq;simp only[Option.some.injEq,Prod.mk.injEq]at hx;obtain⟨rfl,rfl⟩:=hx;simp only[aq]at hr;obtain⟨us,rfl,hr⟩:=hr;simp only[aJ];exact⟨us,rfl,sk h hq hr⟩
  ·cases hx
 |pv q=>exact nW h (by simpa only[mS]using hx) hr
 |full q=>exact nW h (by simpa only[mS]using hx) hr
 |dB id ver=>exact nW h (by simpa only[mS]using hx) hr
 |dt id=>exact nW h (by simpa only[mS]using hx) hr
 |_=>simp[mS,nL]at hx
theorem so:∀{xs:List AV} {vs:List Value} {ps:List PV} {b:Bool},uh st.mem xs=some (ps,b)→aF S w (Ref γ S w st.mem) xs vs→a7 (gF γ S b) w ps vs
 |[],vs,ps,b,hx,hr=>by
  simp only[uh,Option.some.injEq,Prod.mk.injEq]at hx;obtain⟨rfl,rfl⟩:=hx;simpa only[aF,a7]using hr
 |x::xs,vs,ps,b,hx,hr=>by
  simp only[aF]at hr;obtain⟨v,r,rfl,h1,h2⟩:=hr;simp only[uh]at hx;split at hx
  ·rename_i p b1 hp;split at hx
   ·rename_i qs b2 hq;simp only[Option.some.injEq,Prod.mk.injEq]at hx;obtain⟨rfl,rfl⟩:=hx;simp only[a7];exact⟨v,r,rfl,aJ.later (jq _ _ Ut) _ (kq h hp h1),a7.later (jq _ _ Uu) _ (so hq h2)⟩
   ·cases hx
  ·cases hx
theorem zy {x:AV} {v:Value} {p:PV} {b:Bool} (hx:mT st.mem x=some (p,b)) (hr:aq S w (Ref γ S w st.mem) x v):aJ (gF γ S b) w p v:=by
 cases x with
 |gZ f cs=>
  simp only[mT]at hx;split at hx
  ·rename_i qs b2 hq;simp only[Option.some.injEq,Prod.mk.injEq]at hx;obtain⟨rfl,rfl⟩:=hx;simp only[aq]at hr;obtain⟨us,rfl,hr⟩:=hr;simp only[aJ];exact⟨us,rfl,so h hq hr⟩
  ·cases hx
 |ep cs=>
  simp only[mT]at hx;split at hx
  ·rename_i qs b2 hq;simp only[Option.some.injEq,Prod.mk.injEq]at hx;obtain⟨rfl,rfl⟩:=hx;simp only[aq]at hr;obtain⟨us,rfl,hr⟩:=hr;simp only[aJ];exact⟨us,rfl,so h hq hr⟩
  ·cases hx
 |pv q=>exact kq h (by simpa only[mT]using hx) hr
 |full q=>exact kq h (by simpa only[mT]using hx) hr
 |dB id ver=>exact kq h (by simpa only[mT]using hx) hr
 |dt id=>exact kq h (by simpa only[mT]using hx) hr
 |agg cs=>exact kq h (by simpa only[mT]using hx) hr
 |ptr id off=>exact kq h (by simpa only[mT]using hx) hr
 |_=>simp[mT,mS,nL]at hx
theorem wU:∀{xs:List AV} {vs:List Value} {ps:List PV} {b:Bool},et st.mem xs=some (ps,b)→aF S w (Ref γ S w st.mem) xs vs→a7 (gF γ S b) w ps vs
 |[],vs,ps,b,hx,hr=>by
  simp only[et,Option.some.injEq,Prod.mk.injEq]at hx;obtain⟨rfl,rfl⟩:=hx;simpa only[aF,a7]using hr
 |x::xs,vs,ps,b,hx,hr=>by
  simp only[aF]at hr;obtain⟨v,r,rfl,h1,h2⟩:=hr;simp only[et]at hx;split at hx
  ·rename_i p b1 hp;split at hx
   ·rename_i qs b2 hq;simp only[Option.some.injEq,Prod.mk.injEq]at hx;obtain⟨rfl,rfl⟩:=hx;simp only[a7];exact⟨v,r,rfl,aJ.later (jq _ _ Ut) _ (zy h hp h1),a7.later (jq _ _ Uu) _ (wU hq h2)⟩
   ·cases hx
  ·cases hx
theorem zz {args:List AV} {vs:List Value} {f:FuncId} {ps:List PV} {b:Bool} {res:PV} (bm:∀b,S0 b→S b) (bd:∀b,S b→S0 b∨w0.heap.size≤b∨own0 b)
  (hl:et st.mem args=some (ps,b)) (hr:aF S w (Ref γ S w st.mem) args vs) (hC:ar P G f ps res) (hb:b=true→res.jB=true):
  fM P f vs.toArray w fun v w'=>∃S',(∀b,S0 b→S' b)∧(∀b,S' b→S0 b∨w0.heap.size≤b∨own0 b)∧dj w0 own0 hvs G γ S' st a w'∧aq S' w' (Ref γ S' w' st.mem) (.pv res) v:=by
 have bL:∀k,gF γ S b k→k<w.heap.size:=by
  intro k hk
  rcases hk with hk|⟨_,i,hk⟩
  ·exact h.bound k hk
  ·exact h.dx i k hk
 have Ye:uq G (gF γ S b) w:=by
  intro g row hg;obtain⟨h1,c,h2,h3,h4⟩:=h.nR g row hg;exact⟨.inl h1,c,h2,b7.later (fun k hk=>⟨.inl hk,rfl,rfl⟩) row h3,h4⟩
 have:=hC (gF γ S b) w vs bL Ye (wU h hl hr)
 have key:∀v w',(RowKit.Below w.heap.size w w'∧aJ (fun k=>gF γ S b k∨(w.heap.size≤k∧k<w'.heap.size)) w' res v)→
   ∃S',(∀b,S0 b→S' b)∧(∀b,S' b→S0 b∨w0.heap.size≤b∨own0 b)∧dj w0 own0 hvs G γ S' st a w'∧aq S' w' (Ref γ S' w' st.mem) (.pv res) v:=by
  intro v w' ⟨hB,hv⟩;obtain⟨k1,k2,k3⟩:=dj.grow h (w':=w') (S':=fun k=>S k∨(w.heap.size≤k∧k<w'.heap.size)) (fun k hk=>hB.block k hk) hB.size hB.os hB.tape hB.output (fun k hk=>.inl hk) (fun k hk=>hk);refine⟨_,fun k hk=>.inl (bm k hk),fun k hk=>?_,k1,?_⟩
  ·rcases hk with hk|hk
   ·exact bd k hk
   ·exact .inr (.inl (by have:=h.eF;omega))
  ·simp only[aq]
   cases b with
   |true=>exact H4 (hb rfl) hv
   |false=>
    refine aJ.later (fun k hk=>⟨?_,rfl,rfl⟩) _ hv
    rcases hk with hk|hk
    ·rcases hk with hk|⟨hk,_⟩
     ·exact .inl hk
     ·cases hk
    ·exact .inr hk
 unfold fM at*
 split at this<;>first
  |exact this.mono fun e DV ⟨v,he,hq⟩=>⟨v,he,key v DV hq⟩
  |exact key _ _ this
  |exact this.mono fun v DV hq=>key v DV hq
  |exact this.elim
end
end Go.Am
end
section
namespace Go.Am
theorem ma:∀{a c b d:List PV},a.length=c.length→bw (a++b) (c++d)=(bw a c&&bw b d)
 |[],[],b,d,_=>by simp[bw]
 |x::a,y::c,b,d,h=>by
  have:=ma (a:=a) (c:=c) (b:=b) (d:=d) (by simpa using h)
  cases x<;>cases y<;>simp[bw,this,Bool.and_assoc]
 |[],_::_,_,_,h=>by simp at h
 |_::_,[],_,_,h=>by simp at h
theorem lC:∀{t sh:List Nat} {a c b d:List PV},a.length=t.length→c.length=t.length→aX (t++sh) (a++b) (c++d)→aX t a c∧aX sh b d
 |[],_,[],[],_,_,_,_,h=>⟨by simp[aX],h⟩
 |k::t,sh,x::a,y::c,b,d,hl,Mb,h=>by
  have ih:=fun h=>lC (t:=t) (sh:=sh) (a:=a) (c:=c) (b:=b) (d:=d) (by simpa using hl) (by simpa using Mb) h
  rcases k with _|_|_|k<;>cases x<;>cases y<;>first|(simp only[List.cons_append,aX]at h;done)|(simp only[List.cons_append,aX]at h ⊢;exact ih h)|(simp only[List.cons_append,aX]at h ⊢;exact⟨⟨h.1,(ih h.2).1⟩,(ih h.2).2⟩)|simp_all [aX]
 |[],_,_::_,_,_,_,h,_,_=>by simp at h
 |[],_,_,_::_,_,_,_,h,_=>by simp at h
 |_::_,_,[],_,_,_,h,_,_=>by simp at h
 |_::_,_,_,[],_,_,_,h,_=>by simp at h
section
variable {P:Program} {S:Nat→Prop} {w:World}
def cD (P:Program) (S:Nat→Prop) (w:World) (t:TypeId) (ps:List PV) (v:Value):Prop:=
 match eu P t with
 |some true=>∃vs:List Value,v=.agg vs.toArray∧a7 S w ps vs
 |_=>∃p,ps=[p]∧aJ S w p v
theorem a7.take_drop {xs:List PV} {vs:List Value} (k:Nat) (h:a7 S w xs vs):a7 S w (xs.take k) (vs.take k)∧a7 S w (xs.drop k) (vs.drop k):=by
 induction xs generalizing vs k with
 |nil=>simp only[a7]at h;subst h;simp[a7]
 |cons x xs ih=>
  simp only[a7]at h;obtain⟨v,r,rfl,h1,h2⟩:=h
  cases k with
  |zero=>simp only[List.take_zero,List.drop_zero,a7];exact⟨trivial,v,r,rfl,h1,h2⟩
  |succ k=>
   obtain⟨i1,i2⟩:=ih k h2;simp only[List.take_succ_cons,List.drop_succ_cons,a7];exact⟨⟨v,_,rfl,h1,i1⟩,i2⟩
theorem mc {t:TypeId} {k off:Nat} {g:Bool} {vs:List Value} {ps:List PV} (hg:eu P t=some g) (hk:bZ P t=some k) (pw:g=false→k=1) (hr:a7 S w ps vs) (hle:off+k≤ps.length):
  ∃v,(part t vs.toArray off).run P w=.ok v w∧cD P S w t ((ps.drop off).take k) v:=by
 have hl:=a7.length hr;obtain⟨_,hd⟩:=a7.take_drop off hr;obtain⟨ht,_⟩:=a7.take_drop k hd
 cases g with
 |true=>
  refine⟨.agg (vs.toArray.extract off (off+k)),?_,?_⟩
  ·simp only[part,Sem.run_bind,jE hg,Result.andThen_ok,if_true,run_sizeOf hk,Sem.run_pure]
  ·simp only[cD,hg];refine⟨_,?_,ht⟩
   congr 1
   simp[List.extract_toArray]
 |false=>
  have Uv:=pw rfl;subst Uv
  have bL:off<vs.length:=by omega
  have hv:vs.toArray[off]? =some vs[off]:=by simp[bL]
  refine⟨vs[off],?_,?_⟩
  ·simp only[part,Sem.run_bind,jE hg,Result.andThen_ok,Bool.false_eq_true,if_false,hv,Sem.run_pure]
  ·simp only[cD,hg]
   have Jt:off<ps.length:=by omega
   have e1:(ps.drop off).take 1=[ps[off]]:=by rw[List.drop_eq_getElem_cons Jt];rfl
   have e2:(vs.drop off).take 1=[vs[off]]:=by rw[List.drop_eq_getElem_cons bL];rfl
   rw[e1,e2]at ht;simp only[a7]at ht;obtain⟨v,r,he,h1,rfl⟩:=ht;simp only[List.cons.injEq,and_true]at he;exact⟨_,e1,he▸h1⟩
theorem s5 {n d:Nat} (ih:∀(t:TypeId) (k:List Nat) (ps qs:List PV) (u v:Value),cV P n t=some k→cD P S w t ps u→cD P S w t qs v→ps.length=k.length→qs.length=k.length→aX k ps qs→
   (Op.equalIn d t u v).run P w=.ok (bw ps qs) w)
  (Yf:∀t k,cV P n t=some k→∃g,eu P t=some g∧(g=false→k.length=1))
  {us vs:List Value} {ps qs:List PV} (hu:a7 S w ps us) (hv:a7 S w qs vs):
  ∀(fs:List Field) (off k:List Nat),cX P (cV P n) off fs=some k→ps.length=k.length→qs.length=k.length→(∀rest,k=off++rest→aX rest (ps.drop off.length) (qs.drop off.length))→
   (Op.eqFields d us.toArray vs.toArray fs).run P w=.ok (bw (ps.drop off.length) (qs.drop off.length)) w
 |[],off,k,hs,hp,hq,_=>by
  simp only[cX,Option.some.injEq]at hs;subst hs;simp[Op.eqFields,List.drop_eq_nil_of_le (Nat.le_of_eq hp),List.drop_eq_nil_of_le (Nat.le_of_eq hq),bw]
 |f::fs,off,k,hs,hp,hq,hc=>by
  simp only[cX]at hs;split at hs
  ·cases hs
  ·rename_i hn;simp only[not_or,Decidable.not_not,ne_eq]at hn;split at hs
   ·rename_i m hm;split at hs
    ·rename_i dZ
     have Yg:∀(fs:List Field) (off k:List Nat),cX P (cV P n) off fs=some k→∃rest,k=off++rest:=by
      intro fs
      induction fs with
      |nil=>intro off k h;simp only[cX,Option.some.injEq]at h;exact⟨[],by simp[h]⟩
      |cons f fs Yh=>
       intro off k h;simp only[cX]at h;split at h
       ·cases h
       ·split at h
        ·split at h
         ·obtain⟨rest,hr⟩:=Yh _ _ h;exact⟨_,by rw[hr,List.append_assoc]⟩
         ·cases h
        ·cases h
     obtain⟨rest,hk⟩:=Yg fs (off++m) k hs
     have Xv:k.length=off.length+m.length+rest.length:=by rw[hk];simp only[List.length_append]
     obtain⟨g,hg,hg1⟩:=Yf f.type m hm;obtain⟨x,Yd,hx2⟩:=mc (off:=off.length) hg dZ hg1 hu (by omega);obtain⟨y,hy1,hy2⟩:=mc (off:=off.length) hg dZ hg1 hv (by omega)
     have e1:ps.drop off.length=(ps.drop off.length).take m.length++ps.drop (off.length+m.length):=by rw[←List.drop_drop];exact(List.take_append_drop _ _).symm
     have e2:qs.drop off.length=(qs.drop off.length).take m.length++qs.drop (off.length+m.length):=by rw[←List.drop_drop];exact(List.take_append_drop _ _).symm
     have l1:((ps.drop off.length).take m.length).length=m.length:=by simp;omega
     have l2:((qs.drop off.length).take m.length).length=m.length:=by simp;omega
     have wL:=hc (m++rest) (by rw[hk,List.append_assoc]);rw[e1,e2]at wL;obtain⟨c1,c2⟩:=lC l1 l2 wL;have bJ:=ih f.type m _ _ x y hm hx2 hy2 l1 l2 c1;rw[e1,e2,ma (l1.trans l2.symm)];simp only[Op.eqFields,ne_eq,hn.1,not_false_eq_true,if_true,Sem.run_bind,hn.2,Yd,Result.andThen_ok,hy1,bJ]
     cases hq2:bw ((ps.drop off.length).take m.length) ((qs.drop off.length).take m.length)with
     |false=>simp
     |true=>
      simp only[Bool.not_true,Bool.false_eq_true,if_false,Bool.true_and]
      have:=s5 ih Yf hu hv fs (off++m) k hs hp hq (fun Yi ri=>by
       have:Yi=rest:=by rw[hk]at ri;exact(List.append_cancel_left ri).symm
       rw[this,List.length_append];exact c2)
      rwa [List.length_append]at this
    ·cases hs
   ·cases hs
theorem vh {n:Nat} {t:TypeId} {k:List Nat} (h:cV P n t=some k):∃g,eu P t=some g∧(g=false→k.length=1):=by
 cases n with
 |zero=>simp[cV]at h
 |succ n=>
  simp only[cV]at h;unfold eu;split at h
  ·rename_i ht;simp only[Option.some.injEq]at h;rw[ht];exact⟨false,rfl,fun _=>by rw[←h];rfl⟩
  ·rename_i ht;simp only[Option.some.injEq]at h;rw[ht];exact⟨false,rfl,fun _=>by rw[←h];rfl⟩
  ·rename_i ht;simp only[Option.some.injEq]at h;rw[ht];exact⟨false,rfl,fun _=>by rw[←h];rfl⟩
  ·rename_i ht;rw[ht];exact⟨true,rfl,fun h=>by cases h⟩
  ·rename_i ht;rw[ht];exact⟨true,rfl,fun h=>by cases h⟩
  ·cases h
theorem yK {k:Nat} {p q:PV} {ps qs:List PV} (h:aX [k] [p] [q]):bw (p::ps) (q::qs)=(bw [p] [q]&&bw ps qs):=ma (a:=[p]) (c:=[q]) rfl
theorem Cx {d k:Nat} {e:TypeId} (ha:eu P e=some false) (hn:bZ P e=some 1) {ps qs:List PV} {us vs:List Value} (hu:a7 S w ps us) (hv:a7 S w qs vs)
  (ih:∀(p q:PV) (u v:Value),aJ S w p u→aJ S w q v→aX [k] [p] [q]→(Op.equalIn d e u v).run P w=.ok (bw [p] [q]) w):
  ∀(m i:Nat),ps.length=i+m→qs.length=i+m→aX (List.replicate m k) (ps.drop i) (qs.drop i)→
   (Op.eqItems d e 1 us.toArray vs.toArray (List.range' i m)).run P w=.ok (bw (ps.drop i) (qs.drop i)) w:=by
 intro m
 induction m with
 |zero=>
  intro i hp hq hc;rw[List.drop_eq_nil_of_le (by omega),List.drop_eq_nil_of_le (by omega)];simp[Op.eqItems,bw]
 |succ m ihm=>
  intro i hp hq hc
  have hip:i<ps.length:=by omega
  have hiq:i<qs.length:=by omega
  have e1:ps.drop i=ps[i]::ps.drop (i+1):=List.drop_eq_getElem_cons hip;have e2:qs.drop i=qs[i]::qs.drop (i+1):=List.drop_eq_getElem_cons hiq;rw[e1,e2]at hc ⊢;rw[List.replicate_succ]at hc;obtain⟨yD,vY⟩:=lC (t:=[k]) (sh:=List.replicate m k) (a:=[ps[i]]) (c:=[qs[i]]) (b:=ps.drop (i+1)) (d:=qs.drop (i+1)) rfl rfl hc;obtain⟨x,hx,MR⟩:=mc (P:=P) (off:=i) ha hn (fun _=>rfl) hu (by omega);obtain⟨y,hy,hyr⟩:=mc (P:=P) (off:=i) ha hn (fun _=>rfl) hv (by omega)
  simp only[cD,ha]at MR hyr;obtain⟨p,Xw,MR⟩:=MR;obtain⟨q,hq1,hyr⟩:=hyr;rw[e1]at Xw;rw[e2]at hq1;simp only[List.take_succ_cons,List.take_zero,List.cons.injEq,and_true]at Xw hq1;subst Xw;subst hq1;have h3:=ih _ _ _ _ MR hyr yD;rw[List.range'_succ];simp only[Op.eqItems,Nat.mul_one,Sem.run_bind,hx,hy,h3,Result.andThen_ok];rw[yK (ps:=ps.drop (i+1)) (qs:=qs.drop (i+1)) yD]
  cases bw [ps[i]] [qs[i]]with
  |false=>simp only[Bool.not_false,if_true,Sem.run_pure,Bool.false_and]
  |true=>
   have:=ihm (i+1) (by omega) (by omega) vY;simp only[Bool.not_true,Bool.false_eq_true,if_false,Bool.true_and];exact this
theorem mX:∀(n d:Nat),n≤d→∀(t:TypeId) (k:List Nat) (ps qs:List PV) (u v:Value),cV P n t=some k→cD P S w t ps u→cD P S w t qs v→ps.length=k.length→qs.length=k.length→aX k ps qs→
   (Op.equalIn d t u v).run P w=.ok (bw ps qs) w
 |0,d,_,t,k,ps,qs,u,v,hs,_,_,_,_,_=>by simp[cV]at hs
 |n+1,0,hd,t,k,ps,qs,u,v,hs,_,_,_,_,_=>by omega
 |n+1,d+1,hd,t,k,ps,qs,u,v,hs,hu,hv,hp,hq,hc=>by
  simp only[cV]at hs;split at hs
  ·rename_i ht
   have ha:eu P t=some false:=by unfold eu;rw[ht]
   simp only[cD,ha]at hu hv;obtain⟨p,rfl,hu⟩:=hu;obtain⟨q,rfl,hv⟩:=hv;simp only[Option.some.injEq]at hs;subst hs;unfold aX at hc
   split at hc<;>first|exact hc.elim|skip
   all_goals(rename_i h1 h2 h3;first|cases h1|skip)
   cases h2;cases h3
   simp only[aJ]at hu hv;subst hu;subst hv;rw[run_equalIn_bool' w d t _ _ ht];simp[bw]
  ·rename_i kk ht
   have ha:eu P t=some false:=by unfold eu;rw[ht]
   simp only[cD,ha]at hu hv;obtain⟨p,rfl,hu⟩:=hu;obtain⟨q,rfl,hv⟩:=hv;simp only[Option.some.injEq]at hs;subst hs;unfold aX at hc
   split at hc<;>first|exact hc.elim|skip
   all_goals(rename_i h1 h2 h3;first|cases h1|skip)
   cases h2;cases h3
   obtain⟨rfl,_⟩:=hc;simp only[aJ]at hu hv;subst hu;subst hv;rw[run_equalIn_int w d t _ _ _ _ ht];simp[bw]
  ·rename_i ht
   have ha:eu P t=some false:=by unfold eu;rw[ht]
   simp only[cD,ha]at hu hv;obtain⟨p,rfl,hu⟩:=hu;obtain⟨q,rfl,hv⟩:=hv;simp only[Option.some.injEq]at hs;subst hs;unfold aX at hc
   split at hc<;>first|exact hc.elim|skip
   all_goals(rename_i h1 h2 h3;first|cases h1|skip)
   cases h2;cases h3
   simp only[aJ]at hu hv;subst hu;subst hv;rw[run_equalIn_string w d t _ _ ht];simp[bw,lJ]
  ·rename_i fs ht
   have ha:eu P t=some true:=by unfold eu;rw[ht]
   simp only[cD,ha]at hu hv;obtain⟨us,rfl,hu⟩:=hu;obtain⟨vs,rfl,hv⟩:=hv;split at hs
   ·cases hs
   ·rename_i Yj
    have hfo:P.fieldsOf t=fs:=by unfold Program.fieldsOf;rw[ht]
    rw[run_equalIn_struct w d t _ _ (by rw[hfo];exact ht) (by simpa using Yj),hfo];have:=s5 (d:=d) (fun t k ps qs u v h1 h2 h3 h4 h5 h6=>mX n d (by omega) t k ps qs u v h1 h2 h3 h4 h5 h6) (fun t k h=>vh h) hu hv fs.toList [] k hs hp hq (fun rest hr=>by simp only[List.nil_append]at hr;subst hr;simpa using hc);simpa using this
  ·rename_i m e ht
   have ha:eu P t=some true:=by unfold eu;rw[ht]
   simp only[cD,ha]at hu hv;obtain⟨us,rfl,hu⟩:=hu;obtain⟨vs,rfl,hv⟩:=hv;split at hs
   ·rename_i kk hk;split at hs
    ·rename_i hae;obtain⟨JH,dZ⟩:=hae;simp only[Option.some.injEq]at hs;subst hs;simp only[List.length_replicate]at hp hq;have lK:=dZ;unfold bZ at lK
     cases hi:P.info? e with
     |none=>simp[hi]at lK
     |some inf=>
      simp only[hi,Option.map_some,Option.some.injEq]at lK
      have hco:P.cellsOf e=1:=by simp[Program.cellsOf,hi,lK]
      have:=Cx (k:=kk) (d:=d) JH dZ hu hv (fun p q u v h1 h2 h3=>mX n d (by omega) e [kk] [p] [q] u v hk (by simp only[cD,JH];exact⟨p,rfl,h1⟩) (by simp only[cD,JH];exact⟨q,rfl,h2⟩) rfl rfl h3) m 0 (by omega) (by omega) (by simpa using hc);rw[run_equalIn_array w d _ _ ht hi,hco,List.range_eq_range'];simpa using this
    ·cases hs
   ·cases hs
  ·cases hs
end
theorem gJ:∀{sh:List Nat} {a c:List PV},aX sh a c→a.length=sh.length∧c.length=sh.length
 |[],[],[],_=>⟨rfl,rfl⟩
 |k::sh,x::a,y::c,h=>by
  have ih:=fun h=>gJ (sh:=sh) (a:=a) (c:=c) h
  rcases k with _|_|_|k<;>cases x<;>cases y<;>first|(simp only[aX]at h;done)|(simp only[aX]at h;simp[ih h];done)|(simp only[aX]at h;simp[ih h.2];done)|simp_all [aX]
 |[],_::_,_,h=>by simp[aX]at h
 |[],[],_::_,h=>by simp[aX]at h
 |k::_,[],c,h=>by rcases k with _|_|_|k<;>simp[aX]at h
 |k::_,_::_,[],h=>by rcases k with _|_|_|k<;>simp[aX]at h
section
variable {P:Program} {w0:World} {own0:Nat→Prop} {hvs:List Value} {G:Nat→Option (List PV)} {S0:Nat→Prop} {accs:List Nat}
 {γ:Nat→Option Nat} {S:Nat→Prop} {st:St} {a:Act} {w:World} {o:Oper} {kn:Nat}
 (h:dj w0 own0 hvs G γ S st a w) (bm:∀b,S0 b→S b) (bd:∀b,S b→S0 b∨w0.heap.size≤b∨own0 b)
include h bm bd
theorem Uw {op:BinOp} {t ty:TypeId} {x y:Operand} {x' y':bN} {fs:Array Field} {sh:List Nat} (ho:o.op=.binOp op t x y ty) (ht:P.underlying t=some (.struct fs)) (hg:P.eqGuardType P.depth t=false)
  (py:cV P 6 t=some sh) (hx:a8 G x=some x') (hy:a8 G y=some y'):
  cg P w0 own0 hvs G S0 o a w st kn γ S (b6 aG kn (.beq op sh x' y') st.ev):=by
 have h1:=h.aj hx;have h2:=h.aj hy;simp only[b6,Ch];split
 ·rename_i xs ys hfx hfy;have r1:=fD _ hfx h1;have r2:=fD _ hfy h2;have c1:=r1;have c2:=r2;simp only[aJ]at c1 c2;obtain⟨us,e1,c1⟩:=c1;obtain⟨vs,e2,c2⟩:=c2
  have ha:eu P t=some true:=by unfold eu;rw[ht]
  have bJ:aX sh xs ys→(Op.equalIn 10000 t (.agg us.toArray) (.agg vs.toArray)).run P w=.ok (bw xs ys) w:=fun hc=>
   mX 6 10000 (by decide) t sh xs ys _ _ py (by simp only[cD,ha];exact⟨us,rfl,c1⟩) (by simp only[cD,ha];exact⟨vs,rfl,c2⟩) (gJ hc).1 (gJ hc).2 hc
  split
  ·intro hc;refine aK h bm bd (u:=.bool (bw xs ys)) ?_ (by simp only[aq,aJ,aG]);simp only[execOp,ho,e1,e2,Sem.run_bind,run_eqGuard_agg (hm:=hg),Result.andThen_ok,run_eql_struct,bJ hc,Sem.run_pure]
  ·intro hc;refine aK h bm bd (u:=.bool (!bw xs ys)) ?_ (by simp only[aq,aJ,aG]);simp only[execOp,ho,e1,e2,Sem.run_bind,run_eqGuard_agg (hm:=hg),Result.andThen_ok,run_neq_struct,bJ hc,Sem.run_pure]
  ·trivial
 ·trivial
theorem wV:∀{l:List Operand} {ps:List bN},dO G l=some ps→aF S w (Ref γ S w st.mem) (ps.map st.ev) (l.map a.eval)
 |[],ps,hp=>by simp only[dO,Option.some.injEq]at hp;subst hp;simp[aF]
 |x::r,ps,hp=>by
  simp only[dO]at hp;split at hp
  ·rename_i p Xw;split at hp
   ·rename_i qs hp2;simp only[Option.some.injEq]at hp;subst hp;simp only[List.map_cons,aF];exact⟨_,_,rfl,h.aj Xw,wV hp2⟩
   ·cases hp
  ·cases hp
theorem MS {c:Call} {f:FuncId} {ps:List bN} (ho:o.op=.call c) (hc:c.callee=.value (.func f)) (ha:dO G c.args.toList=some ps):
  cg P w0 own0 hvs G S0 o a w st kn γ S (b6 aG kn (.call f ps) st.ev):=by
 refine⟨c.args.toList.map a.eval,?_,wV h bm bd ha⟩;simp only[execOp,ho,resolve,hc,Act.eval,Deferred.ofValue,Sem.run_bind,Sem.run_pure,Result.andThen_ok,invoke];rw[show(#[]:Array Value)++c.args.map a.eval++#[]=(c.args.toList.map a.eval).toArray from by apply Array.ext';simp]
theorem MT {c:Call} {x:Operand} {x':bN} {ps:List bN} (ho:o.op=.call c) (hc:c.callee=.value x) (hx:a8 G x=some x') (ha:dO G c.args.toList=some ps):
  cg P w0 own0 hvs G S0 o a w st kn γ S (b6 aG kn (.Ca x' ps) st.ev):=by
 have h1:=h.aj hx;have h2:=wV h bm bd ha
 have bJ:∀f fW,a.eval x=.func (.func f) #[] (fW:List Value).toArray→(execOp a.eval o).run P w=(callFunc f (c.args.toList.map a.eval++fW).toArray).run P w:=by
  intro f fW hv;simp only[execOp,ho,resolve,hc,hv,Deferred.ofValue,Sem.run_bind,Sem.run_pure,Result.andThen_ok,invoke];rw[show(#[]:Array Value)++c.args.map a.eval++fW.toArray=(c.args.toList.map a.eval++fW).toArray from by apply Array.ext';simp]
 have MU:∀{xs ys:List AV} {us vs:List Value},aF S w (Ref γ S w st.mem) xs us→aF S w (Ref γ S w st.mem) ys vs→aF S w (Ref γ S w st.mem) (xs++ys) (us++vs):=by
  intro xs
  induction xs with
  |nil=>intro ys us vs hu hv;simp only[aF]at hu;subst hu;exact hv
  |cons x xs ih=>
   intro ys us vs hu hv;simp only[aF]at hu;obtain⟨v,r,rfl,p1,p2⟩:=hu;simp only[List.cons_append,aF];exact⟨v,_,rfl,p1,ih p2 hv⟩
 have Yk:∀{xs:List PV} {us:List Value},a7 S w xs us→aF S w (Ref γ S w st.mem) (xs.map .pv) us:=by
  intro xs
  induction xs with
  |nil=>intro us hu;simpa only[a7,List.map_nil,aF]using hu
  |cons x xs ih=>
   intro us hu;simp only[a7]at hu;obtain⟨v,r,rfl,p1,p2⟩:=hu;simp only[List.map_cons,aF,aq];exact⟨v,r,rfl,p1,ih p2⟩
 simp only[b6];split
 ·rename_i f fW b4;rw[b4]at h1;simp only[aq,aJ]at h1;obtain⟨vs,hv,h1⟩:=h1;exact⟨_,bJ f vs hv,MU h2 (Yk h1)⟩
 ·rename_i f fW b4;rw[b4]at h1;simp only[aq]at h1;obtain⟨vs,hv,h1⟩:=h1;exact⟨_,bJ f vs hv,MU h2 h1⟩
 ·rename_i f first b4
  rw[b4]at h1;simp only[aq]at h1;obtain⟨vs,hv,h1⟩:=h1;refine⟨vs++c.args.toList.map a.eval,?_,MU h1 h2⟩;simp only[execOp,ho,resolve,hc,Deferred.ofValue,hv,Sem.run_bind,Sem.run_pure,Result.andThen_ok,invoke]
  have e1:(vs.toArray++Array.map a.eval c.args++#[])=(vs++c.args.toList.map a.eval).toArray:=by
   apply Array.ext';simp
  rw[e1]
 ·trivial
end
end Go.Am
end
