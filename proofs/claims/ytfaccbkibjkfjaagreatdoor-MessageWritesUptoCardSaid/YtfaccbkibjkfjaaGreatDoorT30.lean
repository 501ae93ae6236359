import Derived.Test.YtfaccbkibjkfjaaGreatDoorT29
import Derived.Test.YtfaccbkibjkfjaaGreatDoorT07
set_option linter.all false
set_option maxRecDepth 100000
set_option maxHeartbeats 1000000
section
namespace Go.Am
structure OpI where
 ckf:List (Option Obj)→(bN→AV)→Bool
 ef:Ar→Nat→(bN→AV)→tZ
 hv:Bool
 al:Bool
noncomputable def PR (op:yB):OpI:=yB.rec (motive:=fun _=>OpI)
 (fun x=>⟨fun _ _=>true,
  fun A d ρ=>.pure (.val (ρ x)),false,false⟩)
 (fun c a b=>⟨fun _ _=>true,
  fun A d ρ=>match ρ c with
  |.pv (.bool true)=>.pure (.val (ρ a))
  |.pv (.bool false)=>.pure (.val (ρ b))
  |_=>.pure .bad,false,false⟩)
 (fun z=>⟨fun _ _=>true,
  fun A d ρ=>.pure (.new (.cells (z.map PV.laid)) (.ptr d 0)),false,true⟩)
 (fun x n=>⟨fun _ _=>true,
  fun A d ρ=>match fr (ρ x).cells with
  |true=>match(ρ x).cells.length==n with|true=>.pure (.new (.cells (ρ x).cells) (.ptr d 0))|false=>.pure .bad
  |false=>.pure .bad,false,true⟩)
 (fun z parts=>⟨fun _ _=>true,
  fun A d ρ=>match jQ ρ parts (z.map PV.laid)with|some cs=>.pure (.val (.agg cs))|none=>.pure .bad,false,false⟩)
 (fun sz parts=>⟨fun _ _=>true,
  fun A d ρ=>match rX sz ρ parts with
  |some rows=>.pure (.val (.full rows))
  |none=>match fB sz ρ parts with|some rows=>.pure (.val (.lF rows))|none=>.pure .bad,false,false⟩)
 (fun sz parts=>⟨fun _ _=>true,
  fun A d ρ=>match fA sz ρ parts with|some rows=>.pure (.new (.rows sz rows 0) (.dB d 0))|none=>.pure .bad,false,true⟩)
 (fun x n=>⟨fun _ _=>true,
  fun A d ρ=>vT A (ρ x) n,false,false⟩)
 (fun x y n=>⟨fun _ _=>true,
  fun A d ρ=>sS A (ρ x) (ρ y) n,false,false⟩)
 (fun x=>⟨fun _ _=>true,
  fun A d ρ=>match ρ x with
  |.ptr id off=>.pure (.val (.ptr id off))
  |.fX r o=>.pure (.val (.fX r o))
  |.gZ f c=>.pure (.val (.gZ f c))
  |.pv (.gZ f c)=>.pure (.val (.pv (.gZ f c)))
  |.pv (.ptr c)=>.pure (.val (.pv (.ptr c)))
  |.B0 f c=>.pure (.val (.B0 f c))
  |.cW id ver j off=>.rd id fun ob=>match ob with
   |.rows _ _ bo=>match ver==bo with|true=>.val (.cW id ver j off)|false=>.bad
   |.cf _ _ bo=>match ver==bo with|true=>.val (.cW id ver j off)|false=>.bad
   |_=>.bad
  |_=>.pure .bad,false,false⟩)
 (fun op x y=>⟨fun mem ρ=>match ρ x,ρ y with
  |.pv (.int _ _),.pv (.int _ b)=>match op with
   |.quo|.rem=> !decide (b=0)
   |.shl|.shr=>decide (0≤b)
   |_=>true
  |.pv (.str a),.pv (.str b)=>match op with
   |.add=>Nat.ble (a.length+b.length) 9223372036854775807
   |_=>true
  |_,_=>true,
  fun A d ρ=>.pure (zc A op (ρ x) (ρ y)),true,false⟩)
 (fun op sh x y=>⟨(fun(XU:BinOp) (sh:List Nat) (x:bN) (y:bN) (mem:List (Option Obj)) (ρ:bN→AV)=>(match(ρ x).flat,(ρ y).flat with
  |some (.agg xs),some (.agg ys)=>iH sh xs ys
  |_,_=>true:Bool)) op sh x y,
  fun A d ρ=>.pure (Ch A op sh (ρ x) (ρ y)),false,false⟩)
 (fun op x y=>⟨fun _ _=>true,
  fun A d ρ=>.pure (Aw op (ρ x) (ρ y)),false,false⟩)
 (fun op x y=>⟨fun _ _=>true,
  fun A d ρ=>.pure (F1 op (ρ x) (ρ y)),false,false⟩)
 (fun op x=>⟨fun _ _=>true,
  fun A d ρ=>.pure (ME A op (ρ x)),false,false⟩)
 (fun k x=>⟨fun _ _=>true,
  fun A d ρ=>match ρ x with
  |.pv (.int _ n)=>.pure (.val (.pv (.int k (A.wrap k n))))
  |_=>.pure .bad,false,false⟩)
 (fun x=>⟨fun _ _=>true,
  fun A d ρ=>match ρ x with
  |.pv (.str s)=>.pure (.val (.pv (.sl (A.bytes s) [])))
  |_=>.pure .bad,true,false⟩)
 (fun x=>⟨fun _ _=>true,
  fun A d ρ=>match ρ x with
  |.pv (.str s)=>.pure (.val (.pv (.str s)))
  |_=>.pure .bad,false,false⟩)
 (fun x=>⟨fun mem ρ=>match ρ x with
  |.pv (.sl rows _)=>tT rows
  |.full rows=>tT rows
  |.dB id _=>jO mem id tT fun _=>true
  |_=>true,
  fun A d ρ=>match ρ x with
  |.pv (.sl rows _)=>.pure (.dH (A.rW rows) (.pv (.str (A.gB rows))))
  |.full rows=>.pure (.dH (A.rW rows) (.pv (.str (A.gB rows))))
  |.dB id ver=>.rd id fun o=>match o with
   |.rows _ rs bo=>match ver==bo with|true=>.dH (A.rW rs) (.pv (.str (A.gB rs)))|false=>.bad
   |.eL rs bo=>match ver==bo with|true=>.dH (A.rW rs) (.pv (.str (A.gB rs)))|false=>.bad
   |_=>.bad
  |_=>.pure .bad,true,false⟩)
 (fun t x=>⟨fun _ _=>true,
  fun A d ρ=>match(ρ x).flat with
  |some p=>.pure (.val (.pv (.iface t p)))
  |none=>.pure .bad,false,false⟩)
 (fun f fW=>⟨fun _ _=>true,
  fun A d ρ=>.pure (.val (.gZ f (fW.map ρ))),false,false⟩)
 (fun sz bytes z l c=>⟨(fun(XU:Nat) (bytes:Nat) (u2_:List PV) (l:bN) (c:bN) (mem:List (Option Obj)) (ρ:bN→AV)=>(match ρ l,ρ c with
  |.pv (.int .i64 l),.pv (.int .i64 c)=>PM l c bytes
  |_,_=>true:Bool)) sz bytes z l c,
  fun A d ρ=>match ρ l,ρ c with
  |.pv (.int .i64 l),.pv (.int .i64 c)=>.pure (.km (A.Xt l c bytes) (.rows sz (A.Ce l z) 0) (.dB d 0))
  |_,_=>.pure .bad,false,true⟩)
 (fun sz x lo hi=>⟨fun mem ρ=>match da ρ lo,da ρ hi with
  |some l,some h=>wq mem sz (ρ x) l h
  |_,_=>true,
  fun A d ρ=>match da ρ lo,da ρ hi with
  |some l,some h=>nK A sz (ρ x) l h
  |_,_=>.pure .bad,true,false⟩)
 (fun x lo hi=>⟨fun mem ρ=>match da ρ lo,da ρ hi with
  |some l,some h=>match ρ x with
   |.pv (.str s)=>decide (0≤l.getD 0)&&(decide (l.getD 0≤h.getD s.length)&&decide (h.getD s.length≤s.length))
   |_=>true
  |_,_=>true,
  fun A d ρ=>match da ρ lo,da ρ hi with
  |some l,some h=>.pure (pJ A (ρ x) l h)
  |_,_=>.pure .bad,true,false⟩)
 (fun x off=>⟨fun _ _=>true,
  fun A d ρ=>match ρ x with
  |.ptr id o=>.pure (.val (.ptr id (o+off)))
  |.fX row o=>.pure (.val (.fX row (o+off)))
  |.cW id ver j o=>.rd id fun ob=>match ob with
   |.rows _ _ bo=>match ver==bo with|true=>.val (.cW id ver j (o+off))|false=>.bad
   |.eL _ bo=>match ver==bo with|true=>.val (.cW id ver j (o+off))|false=>.bad
   |.cf _ _ bo=>match ver==bo with|true=>.val (.cW id ver j (o+off))|false=>.bad
   |_=>.bad
  |.pv (.ptr row)=>.pure (.val (.fX row off))
  |_=>.pure .bad,false,false⟩)
 (fun x i sz=>⟨fun mem ρ=>match ρ i with
  |.pv (.int _ j)=>match ρ x with
   |.pv (.sl rows _)=>y5 j rows sz
   |.full rows=>y5 j rows sz
   |.dB id _=>jO mem id (fun rs=>y5 j rs sz) (fun rs=>PJ j rs sz)
   |_=>true
  |_=>true,
  fun A d ρ=>match ρ i with
  |.pv (.int _ j)=>Ax A (ρ x) j sz
  |_=>.pure .bad,false,false⟩)
 (fun x i n sz=>⟨(fun(XU:bN) (i:bN) (n:Nat) (u3_:Nat) (mem:List (Option Obj)) (ρ:bN→AV)=>(match ρ i with
  |.pv (.int _ j)=>IJ j n
  |_=>true:Bool)) x i n sz,
  fun A d ρ=>match ρ x,ρ i with
  |.ptr id o,.pv (.int _ j)=>.pure (.dH (A.Ji j n) (.ptr id (o+A.off j sz)))
  |.fX row o,.pv (.int _ j)=>.pure (.dH (A.Ji j n) (.fX row (o+A.off j sz)))
  |_,_=>.pure .bad,false,false⟩)
 (fun x i=>⟨fun mem ρ=>match ρ x,ρ i with
  |.pv (.str s),.pv (.int _ j)=>decide (0≤j)&&decide (j<s.length)
  |_,_=>true,
  fun A d ρ=>match ρ x,ρ i with
  |.pv (.str s),.pv (.int _ j)=>.pure (.dH (A.sin j s) (.pv (.int .u8 (A.sat s j))))
  |_,_=>.pure .bad,false,false⟩)
 (fun x i=>⟨fun _ _=>true,
  fun A d ρ=>match ρ x with
  |.pv (.ep vs)=>match vs[i]? with|some v=>.pure (.val (.pv v))|none=>.pure .bad
  |.ep vs=>match vs[i]? with|some v=>.pure (.val v)|none=>.pure .bad
  |_=>.pure .bad,false,false⟩)
 (fun f args=>⟨fun _ _=>true,
  fun A d ρ=>.pure (.call f (args.map ρ)),false,false⟩)
 (fun x args=>⟨fun _ _=>true,
  fun A d ρ=>match ρ x with
  |.pv (.gZ f fW)=>.pure (.call f (args.map ρ++fW.map .pv))
  |.gZ f fW=>.pure (.call f (args.map ρ++fW))
  |.B0 f first=>.pure (.call f (first++args.map ρ))
  |_=>.pure .bad,false,false⟩)
 (fun x=>⟨fun _ _=>true,
  fun A d ρ=>Ay A (ρ x),false,false⟩)
 (fun x=>⟨fun _ _=>true,
  fun A d ρ=>match ρ x with|.pv (.str s)=>.pure (.val (.pv (.int .i64 (A.yH s))))|_=>.pure .bad,false,false⟩)
 (fun sz bytes x y=>⟨fun mem ρ=>LH mem sz bytes (ρ x) (ρ y),
  fun A d ρ=>Az A d sz bytes (ρ x) (ρ y),false,true⟩)
 (fun mx x y=>⟨fun _ _=>true,
  fun A d ρ=>match ρ x,ρ y with
  |.pv (.int k n),.pv (.int _ m)=>.pure (.val (.pv (.int k (match mx with|true=>A.max n m|false=>A.min n m))))
  |_,_=>.pure .bad,false,false⟩)
 (fun f first=>⟨fun _ _=>true,
  fun A d ρ=>.pure (.val (.B0 f (first.map ρ))),false,false⟩)
 (fun sz parts=>⟨fun _ _=>true,
  fun A d ρ=>match fB sz ρ parts with|some rows=>.pure (.new (.cf sz rows 0) (.dB d 0))|none=>.pure .bad,false,true⟩)
 (fun sz x hi=>⟨fun mem ρ=>match ρ hi with
  |.pv (.int _ h)=>match ρ x with
   |.dB id _=>jO mem id (fun rs=>tS 0 h rs sz) fun _=>true
   |_=>true
  |_=>true,
  fun A d ρ=>match ρ hi with
  |.pv (.int _ h)=>sT A sz (ρ x) h
  |_=>.pure .bad,true,false⟩)
 (fun x=>⟨fun _ _=>true,
  fun A d ρ=>match ρ x with
  |.pv (.sl _ _)|.full _=>.pure (.val (.full []))
  |.dB id ver=>.rd id fun ob=>match ob with
   |.rows _ _ bo=>match ver==bo with|true=>.val (.full [])|false=>.bad
   |.eL _ bo=>match ver==bo with|true=>.val (.full [])|false=>.bad
   |_=>.bad
  |_=>.pure .bad,false,false⟩)
 (fun x n=>⟨fun _ _=>true,
  fun A d ρ=>match ρ x with
  |.fX row off=>match Nat.ble (off+n) row.length with
   |true=>.pure (.val (.full (((row.drop off).take n).map fun p=>[p])))
   |false=>.pure .bad
  |_=>.pure .bad,true,false⟩)
 (fun x i n=>⟨(fun(XU:bN) (i:bN) (n:Nat) (mem:List (Option Obj)) (ρ:bN→AV)=>(match ρ i with
  |.pv (.int _ j)=>IJ j n
  |_=>true:Bool)) x i n,
  fun A d ρ=>match ρ x,ρ i with
  |.agg cs,.pv (.int _ j)=>match cs.length==n with
   |true=>.pure (.dH (A.Ji j n) (cs.getD (A.off j 1) .dead))
   |false=>.pure .bad
  |.pv (.agg ps),.pv (.int _ j)=>match ps.length==n with
   |true=>.pure (.dH (A.Ji j n) (.pv (ps.getD (A.off j 1) .nj)))
   |false=>.pure .bad
  |_,_=>.pure .bad,false,false⟩)
 (fun fn op x y=>⟨fun _ _=>true,
  fun A d ρ=>.pure (F2 fn op (ρ x) (ρ y)),false,false⟩)
 (fun x off n=>⟨fun _ _=>true,
  fun A d ρ=>match ρ x with
  |.agg cs=>.pure (jP cs off n)
  |.pv (.agg ps)=>.pure (iB ps off n)
  |_=>.pure .bad,false,false⟩)
 (fun kg vg kn=>⟨fun _ _=>true,
  fun A d ρ=>.pure (.new (.map kg vg kn []) (.dt d)),false,true⟩)
 (⟨fun _ _=>true,
  fun A d ρ=>.pure (.new (.iK []) (.dt d)),false,true⟩)
 (fun kg sh n m k v=>⟨(fun(kg:Bool) (sh:List Nat) (u2_:Nat) (m:bN) (k:bN) (u5_:bN) (mem:List (Option Obj)) (ρ:bN→AV)=>(match ρ m with
  |.dt id=>match aA mem id with
   |some (.map _ _ kn rows)=>match keyOf kg kn (ρ k)with|some kc=>vS sh kn rows kc|none=>true
   |some (.iK rows)=>match pK kg sh (ρ k)with|some s=>DJ s rows|none=>true
   |_=>true
  |_=>true:Bool)) kg sh n m k v,
  fun A d ρ=>F3 A kg sh n (ρ m) (ρ k) (ρ v),false,false⟩)
 (fun kg sh z m k=>⟨(fun(kg:Bool) (sh:List Nat) (u2_:PV) (m:bN) (k:bN) (mem:List (Option Obj)) (ρ:bN→AV)=>(match ρ m with
  |.dt id=>match aA mem id with
   |some (.map _ _ kn rows)=>match keyOf kg kn (ρ k)with|some kc=>vS sh kn rows kc|none=>true
   |_=>true
  |_=>true:Bool)) kg sh z m k,
  fun A d ρ=>wD A kg sh z (ρ m) (ρ k),false,false⟩)
 (fun n m s v=>⟨(fun(XU:Nat) (m:bN) (s:bN) (u3_:bN) (mem:List (Option Obj)) (ρ:bN→AV)=>(match ρ m,ρ s with
  |.dt id,.eR _ i=>match aA mem id with
   |some (.map _ _ _ rows)=>decide (0≤i)&&decide (i<rows.length)
   |_=>true
  |_,_=>true:Bool)) n m s v,
  fun A d ρ=>AA A n (ρ m) (ρ s) (ρ v),false,false⟩)
 (fun kg sh z ok m k=>⟨(fun(kg:Bool) (sh:List Nat) (u2_:PV) (u3_:Bool) (m:bN) (k:bN) (mem:List (Option Obj)) (ρ:bN→AV)=>(match ρ m with
  |.pv .pn=>match keyOf kg sh.length (ρ k)with|some kc=>vS sh sh.length [] kc|none=>true
  |.pv (.mp _ _ kn rows)=>match keyOf kg kn (ρ k)with|some kc=>vS sh kn rows kc|none=>true
  |.dt id=>match aA mem id with
   |some (.map _ _ kn rows)=>match keyOf kg kn (ρ k)with|some kc=>vS sh kn rows kc|none=>true
   |_=>true
  |_=>true:Bool)) kg sh z ok m k,
  fun A d ρ=>wC A kg sh z ok (ρ m) (ρ k),false,false⟩)
 (fun m=>⟨fun _ _=>true,
  fun A d ρ=>vW A (ρ m),false,false⟩)
 (fun x=>⟨fun _ _=>true,
  fun A d ρ=>match ρ x with
  |.pv (.str s)=>.pure (.new (.fz s 0) (.ptr d 0))
  |_=>.pure .bad,false,true⟩)
 (fun x=>⟨fun _ _=>true,
  fun A d ρ=>AB A (ρ x),false,false⟩)
 (fun x=>⟨fun _ _=>true,
  fun A d ρ=>match ρ x with
  |.pv (.mp kg vg kn rows)=>.pure (.new (.er (.mp kg vg kn rows) []) (.ptr d 0))
  |.pv .pn=>.pure (.new (.er .pn []) (.ptr d 0))
  |_=>.pure .bad,false,true⟩)
 (fun x=>⟨fun _ _=>true,
  fun A d ρ=>AD A (ρ x),false,false⟩)
 (fun x=>⟨fun _ _=>true,
  fun A d ρ=>vX A (ρ x),false,false⟩)
 (fun x=>⟨fun mem ρ=>match ρ x with
  |.pv (.sl rows _)=> !kb rows
  |_=>true,
  fun A d ρ=>match ρ x with
  |.pv (.sl rows _)=>.pure (.dH (A.Rk [[]] rows) (.pv (.bool false)))
  |_=>.pure .bad,false,false⟩)
 (fun t z=>⟨fun _ _=>true,
  fun A d ρ=>match z with
  |.nj::r=>.pure (.new (.cells (.iJ t::r.map PV.laid)) (.ptr d 0))
  |_=>.pure .bad,false,true⟩)
 (fun x=>⟨fun _ _=>true,
  fun A d ρ=>match ρ x with
  |.ptr id off=>.rd id fun o=>match o with
   |.cells cs=>match Nat.ble (off+1) cs.length with
    |true=>.val (.ptr id off)
    |false=>.bad
   |_=>.bad
  |_=>.pure .bad,false,false⟩)
 (fun t n x=>⟨fun _ _=>true,
  fun A d ρ=>match ρ x with
  |.ptr id 0=>.rd id fun o=>match o with
   |.cells (.iJ t'::r)=>match t==t' with
    |true=>match(r.length+1)==n with
     |true=>.val (.ptr id 0)
     |false=>.bad
    |false=>.bad
   |_=>.bad
  |_=>.pure .bad,false,false⟩)
 (fun op x y=>⟨fun _ _=>true,
  fun A d ρ=>match ρ x with
  |.ptr i o=>match ρ y with
   |.ptr j q=>match i==j with
    |true=>match o==q with
     |true=>.pure (nJ op true)
     |false=>.pure .bad
    |false=>.pure .bad
   |_=>.pure .bad
  |_=>.pure .bad,false,false⟩)
 (fun x=>⟨fun mem ρ=>match ρ x with
  |.dB id _=>jO mem id (fun rs=>y5 0 rs 1) fun _=>true
  |_=>true,
  fun A d ρ=>match ρ x with
  |.dB id ver=>.rd id fun o=>match o with
   |.cH _ rs bo=>match ver==bo with
    |true=>.dH (A.wx 0 rs 1) (.cW id ver 0 0)
    |false=>.bad
   |_=>.bad
  |_=>.pure .bad,false,false⟩)
 (fun t x n=>⟨(fun(XU:TypeId) (x:bN) (n:bN) (mem:List (Option Obj)) (ρ:bN→AV)=>(match ρ n,ρ x with
  |.pv (.int _ n),.cW id _ j _=>jO mem id (fun rs=>tT rs&&(decide (n=rs.length)&&(decide (j=0)&&rU rs [] 1 1))) fun _=>true
  |_,_=>true:Bool)) t x n,
  fun A d ρ=>match ρ n with
  |.pv (.int k n)=>match k with
   |.i64=>match ρ x with
    |.cW id ver j 0=>.rd id fun o=>match o with
     |.cH t' rs bo=>match t==t' with
      |true=>match ver==bo with
       |true=>.iL (A.rW rs∧n=A.nk rs∧j=0∧A.po rs [] 1 1) id (.eL rs ver) (.pv (.str (A.gB rs)))
       |false=>.bad
      |false=>.bad
     |_=>.bad
    |_=>.pure .bad
   |_=>.pure .bad
  |_=>.pure .bad,false,false⟩)
 (fun t x y=>⟨(fun(XU:TypeId) (x:bN) (y:bN) (mem:List (Option Obj)) (ρ:bN→AV)=>(match gU aG (ρ y)with
  |some ys=>match ρ x with
   |.full []=>rU [] ys 1 1&& !kb ys
   |.dB id _=>jO mem id (fun rs=>rU rs ys 1 1&& !kb ys) fun _=>true
   |_=>true
  |none=>true:Bool)) t x y,
  fun A d ρ=>match gU A (ρ y)with
  |some ys=>match ρ x with
   |.full []=>.pure (.km (A.po [] ys 1 1∧ys≠[]) (.cH t ys 0) (.dB d 0))
   |.dB id ver=>.rd id fun o=>match o with
    |.cH t' rs bo=>match t==t' with
     |true=>match ver==bo with
      |true=>.iL (A.po rs ys 1 1∧ys≠[]) id (.cH t (A.re rs ys) (ver+1)) (.dB id (ver+1))
      |false=>.bad
     |false=>.bad
    |_=>.bad
   |_=>.pure .bad
  |none=>.pure .bad,false,true⟩)
 op
theorem WI (op:yB) (mem:List (Option Obj)) (ρ:bN→AV):(PR op).ckf mem ρ=ck mem op ρ:=by cases op<;>rfl
theorem HC (op:yB) (A:Ar) (d:Nat) (ρ:bN→AV):(PR op).ef A d ρ=b6 A d op ρ:=by cases op<;>rfl
theorem opI_hv (op:yB):(PR op).hv=o6 op:=by cases op<;>rfl
section
variable {R:Type}
noncomputable def pvR (p:PV):Bool→(PV→R)→R:=match p with
 |.bool b=>fun _ k=>Hw b fun b=>k (.bool b)
 |.int t n=>fun _ k=>DM n fun n=>k (.int t n)
 |.str s=>fun rV k=>match rV with
  |true=>yw s fun s=>k (.str s)
  |false=>k (.str s)
 |.sl rows spare=>fun rV k=>match rV with
  |true=>ra rows fun rows=>k (.sl rows spare)
  |false=>k (.sl rows spare)
 |p=>fun _ k=>k p
theorem WJ (h:Bool) (p:PV) (k:PV→R):pvR p h k=k p:=by
 cases p<;>simp only[pvR,yu,q9]<;>cases h<;>simp only[uR,jA]
noncomputable def avR (v:AV):Bool→(AV→R)→R:=match v with
 |.pv p=>fun rV k=>pvR p rV fun p=>k (.pv p)
 |.dB id ver=>fun _ k=>iW id fun id=>iW ver fun ver=>k (.dB id ver)
 |.ptr id off=>fun _ k=>iW id fun id=>iW off fun off=>k (.ptr id off)
 |.cW id ver j off=>fun _ k=>iW id fun id=>iW ver fun ver=>DM j fun j=>iW off fun off=>k (.cW id ver j off)
 |.fX row off=>fun _ k=>iW off fun off=>k (.fX row off)
 |.full rows=>fun _ k=>ra rows fun rows=>k (.full rows)
 |.agg cs=>fun _ k=>ra cs fun cs=>k (.agg cs)
 |.ep vs=>fun _ k=>ra vs fun vs=>k (.ep vs)
 |v=>fun _ k=>k v
theorem qK (h:Bool) (v:AV) (k:AV→R):avR v h k=k v:=by
 cases v<;>simp only[avR,WJ,jl,q9,jA]
noncomputable def WK (o:Obj):(Obj→R)→R:=match o with
 |.cells cs=>fun k=>ra cs fun cs=>k (.cells cs)
 |.rows sz rs ver=>fun k=>ra rs fun rs=>iW ver fun ver=>k (.rows sz rs ver)
 |.eL rs ver=>fun k=>k (.eL rs ver)
 |.cf sz rs ver=>fun k=>ra rs fun rs=>iW ver fun ver=>k (.cf sz rs ver)
 |.map a b c rows=>fun k=>ra rows fun rows=>k (.map a b c rows)
 |.iK rows=>fun k=>ra rows fun rows=>k (.iK rows)
 |.fz s pos=>fun k=>DM pos fun pos=>k (.fz s pos)
 |.er src seen=>fun k=>k (.er src seen)
 |.cH t rs ver=>fun k=>ra rs fun rs=>iW ver fun ver=>k (.cH t rs ver)
theorem PS (o:Obj) (k:Obj→R):WK o k=k o:=by
 cases o<;>simp only[WK,jl,q9,jA]
noncomputable def uU {α:Type} (l:List α):Nat:=List.rec (motive:=fun _=>Nat→Nat) (fun n=>n) (fun _ _ ih n=>ih (Nat.succ n)) l 0
theorem HD {α:Type}:∀(l:List α) (n:Nat),(List.rec (motive:=fun _=>Nat→Nat) (fun n=>n) (fun _ _ ih n=>ih (Nat.succ n)) l:Nat→Nat) n=l.length+n
 |[],n=>by simp
 |x::r,n=>(HD r (n+1)).trans (by simp;omega)
theorem kS {α:Type} (l:List α):uU l=l.length:=HD l 0
noncomputable def PT (st:St) (id:Nat) (o:Obj) (k:St→R):R:=match st with
 |⟨s,h,b,m⟩=>WK o fun o=>match Nat.ble (id+1) (uU m)with
  |true=>PO m id (some o) fun m=>k ⟨s,h,b,m⟩
  |false=>ra (m++[some o]) fun m=>k ⟨s,h,b,m⟩
theorem wv (st:St) (id:Nat) (o:Obj) (k:St→R):PT st id o k=k (st.aC id o):=by
 cases st with
 |mk s h b m=>
  simp only[PT,PS,St.aC,rY,wu,jA,kS];split<;>rename_i hb<;>simp only[hb]
end
noncomputable def FK (st:St) (x:AI):Nat:=match st with
 |⟨_,_,b,m⟩=>match BR m (b+x.d.getD 0)with
  |none=>match Nat.ble (b+x.d.getD 0+1) (uU m)with
   |true=>b+x.d.getD 0
   |false=>uU m
  |some _=>uU m
theorem IV (st:St) (x:AI):FK st x=st.fresh x:=by
 cases st;simp only[FK,St.fresh,o5,kS];rfl
section
variable {R α:Type}
noncomputable def spl (l:List α):Nat→(List α→List α→R)→R:=
 List.rec (motive:=fun _=>Nat→(List α→List α→R)→R) (fun _ k=>k [] []) (fun x r ih n k=>Nat.rec (motive:=fun _=>R) (k [] (x::r)) (fun m _=>ih m fun a b=>k (x::a) b) n) l
theorem LR:∀(l:List α) (n:Nat) (k:List α→List α→R),spl l n k=k (l.take n) (l.drop n)
 |[],n,k=>by simp[spl]
 |x::r,0,k=>rfl
 |x::r,m+1,k=>(LR r m fun a b=>k (x::a) b).trans (by simp)
noncomputable def PU (l:List α):List α→(List α→R)→R:=
 List.rec (motive:=fun _=>List α→(List α→R)→R) (fun t k=>k t) (fun x _ ih t k=>ih t fun r=>k (x::r)) l
theorem HE:∀(l t:List α) (k:List α→R),PU l t k=k (l++t)
 |[],t,k=>rfl
 |x::r,t,k=>HE r t fun r'=>k (x::r')
noncomputable def WL (n:Nat) (z:α) (k:List α→R):R:=Nat.rec (motive:=fun _=>List α→R) (fun acc=>k acc) (fun _ ih acc=>ih (z::acc)) n []
theorem HF (z:α) (k:List α→R):∀(n:Nat) (acc:List α),(Nat.rec (motive:=fun _=>List α→R) (fun acc=>k acc) (fun _ ih acc=>ih (z::acc)) n:List α→R) acc=k (List.replicate n z++acc)
 |0,acc=>rfl
 |n+1,acc=>(HF z k n (z::acc)).trans (by rw[List.replicate_succ',List.append_assoc];rfl)
theorem PW (n:Nat) (z:α) (k:List α→R):WL n z k=k (List.replicate n z):=(HF z k n []).trans (by rw[List.append_nil])
end
noncomputable def ab5 (m:List (Option Obj)):Bool:=List.rec (motive:=fun _=>Bool) true (fun x _ ih=>match x with|none=>ih|some _=>false) m
theorem HG:∀(m:List (Option Obj)),ab5 m=qN m
 |[]=>rfl
 |none::r=>HG r
 |some x::r=>rfl
noncomputable def BW {R:Type} (n base:Nat) (st:St) (k:St→R):R:=match st with
 |⟨_,h,b,m⟩=>spl h n fun s' h'=>spl m b fun a d=>match ab5 d with
  |true=>k ⟨s',h',base,a⟩
  |false=>k ⟨s',h',base,m⟩
theorem Ap {R:Type} (n base:Nat) (st:St) (k:St→R):BW n base st k=k (leave n base st):=by
 cases st
 simp only[BW,LR,leave,Cj,HG];split<;>rename_i h<;>rw[h]
noncomputable def FL {R:Type} (nt:Nat) (args:List AV) (st:St) (k:St→R):R:=match st with
 |⟨s,h,_,m⟩=>iW (uU m) fun l=>iW (uU args) fun la=>WL (nt-la) .dead fun d=>PU args d fun s'=>PU s h fun h'=>WL nt none fun e=>PU m e fun m'=>k ⟨s',h',l,m'⟩
theorem IW {R:Type} (nt:Nat) (args:List AV) (st:St) (k:St→R):FL nt args st k=k (enter nt args st):=by
 cases st;simp only[FL,jl,PW,HE,kS,enter]
noncomputable def FN {R:Type} (st:St) (k:St→R):R:=match st with
 |⟨s,h,b,m⟩=>match Nat.ble (uU m) (b+uU s+120)with
  |true=>k ⟨s,h,b,m⟩
  |false=>uS ⟨s,h,b,m⟩ k
theorem IX {R:Type} (st:St) (k:St→R):FN st k=uS st k:=by
 cases st
 simp only[FN,kS];split
 ·rename_i h;unfold uS;simp only[h]
 ·rfl
structure CE where
 T:yC
 B:BI
 pF:FuncId→Bool
 pf:FuncId→Bool
 hs:FuncId→Bool
noncomputable def y8 (E:CE) (x:AI) (v:AV) (is:List Item) (go:List Item→St→RC) (st:St):RC:=avR v (PR x.op).hv fun v=>nF st x.d v (go is)
noncomputable def ab6 (E:CE) (dr:Bool) (x:AI) (st:St) (is gC:List Item) (go:List Item→St→RC) (f:FuncId) (args:List AV):RC:=
 match et st.mem args with
 |some (ps,b)=>match E.B f ps with
  |some res=>match(match b with|true=>res.jB|false=>true)with
   |true=>nF st x.d (.pv res) (go is)
   |false=>.stop (some x) f args st gC 5
  |none=>.stop (some x) f args st gC 6
 |none=>.stop (some x) f args st gC 7
noncomputable def Te (E:CE) (dr:Bool) (x:AI) (st:St) (is gC:List Item) (go:List Item→St→RC) (f:FuncId) (args:List AV):RC:=
 match(match dr with|true=>none|false=>match E.pf f with|true=>none|false=>E.T f)with
 |some (ac,cN,nt)=>iW (uU st.cY) fun ls=>FL nt args st (go (.code ac::.frame cN ls st.base x.d::is))
 |none=>match(match dr with|true=>false|false=>E.pF f)with
  |true=>match args with
   |[a]=>nF st x.d a (go is)
   |_=>.stop (some x) f args st gC 4
  |false=>ab6 E dr x st is gC go f args
noncomputable def PX (E:CE) (dr:Bool) (x:AI) (st:St) (is gC:List Item) (go:List Item→St→RC) (id:Nat) (o:Obj) (v:AV):RC:=
 match(match dr with|true=>Nat.ble (id+1) (uU st.mem)|false=>true)with
 |true=>PT st id o (y8 E x v is go)
 |false=>.stop (some x) 0 [] st gC 1
noncomputable def PY (E:CE) (dr:Bool) (x:AI) (m:Nat) (st:St) (is gC:List Item) (go:List Item→St→RC) (o:Obj) (v:AV):RC:=
 match BR st.mem m with
 |none=>match Nat.ble (r5 dr m) (uU st.mem)with
  |true=>PT st m o (y8 E x v is go)
  |false=>.stop (some x) 0 [] st gC 2
 |some _=>.stop (some x) 0 [] st gC 3
noncomputable def y9 (o:Out):CE→Bool→AI→Nat→St→List Item→List Item→(List Item→St→RC)→RC:=match o with
 |.bad=>fun E dr x m st is gC go=>.stop (some x) 0 [] st gC 0
 |.val v=>fun E dr x m st is gC go=>y8 E x v is go st
 |.dH _ v=>fun E dr x m st is gC go=>y8 E x v is go st
 |.dw id o v=>fun E dr x m st is gC go=>PX E dr x st is gC go id o v
 |.iL _ id o v=>fun E dr x m st is gC go=>PX E dr x st is gC go id o v
 |.new o v=>fun E dr x m st is gC go=>PY E dr x m st is gC go o v
 |.km _ o v=>fun E dr x m st is gC go=>PY E dr x m st is gC go o v
 |.call f args=>fun E dr x m st is gC go=>Te E dr x st is gC go f args
 |.all ..=>fun E dr x m st is gC go=>.stop (some x) 0 [] st gC 8
theorem HH (E:CE) (dr:Bool) (x:AI) (m:Nat) (st:St) (is gC:List Item) (go:List Item→St→RC) (o:Out):y9 o E dr x m st is gC go=pG E.T E.B E.pF E.pf dr x m st is gC go o:=by
 cases o with
 |dw id o v=>
  simp only[y9,pG,PX,y8,wv,ni,qK,iX,gI,kS];rfl
 |iL p id o v=>
  simp only[y9,pG,PX,y8,wv,ni,qK,iX,gI,kS];rfl
 |new o v=>
  simp only[y9,pG,PY,y8,wv,ni,qK,iX,gI,kS];rfl
 |km p o v=>
  simp only[y9,pG,PY,y8,wv,ni,qK,iX,gI,kS];rfl
 |call f args=>simp only[y9,pG,Te,jl,IW,mK,kS];rfl
 |val v=>simp only[y9,pG,y8,qK,iX]
 |dH p v=>simp only[y9,pG,y8,qK,iX]
 |bad=>rfl
 |all p id o v=>rfl
noncomputable def ab7 (e:tZ):CE→Bool→AI→Nat→St→List Item→List Item→(List Item→St→RC)→RC:=match e with
 |.pure o=>y9 o
 |.rd id f=>fun E dr x m st is gC go=>match BR st.mem id with
  |some ob=>y9 (f ob) E dr x m st is gC go
  |none=>.stop (some x) 0 [] st gC 9
noncomputable def DO (E:CE) (dr:Bool) (x:AI) (m:Nat) (st:St) (is gC:List Item) (go:List Item→St→RC):RC:=
 match(PR x.op).ckf st.mem (LI st)with
 |true=>ab7 ((PR x.op).ef aG m (LI st)) E dr x m st is gC go
 |false=>.stop (some x) 0 [] st gC 10
theorem DP (E:CE) (dr:Bool) (x:AI) (m:Nat) (st:St) (is gC:List Item) (go:List Item→St→RC):DO E dr x m st is gC go=IP E.T E.B E.pF E.pf dr x m st is gC go:=by
 unfold DO IP;rw[WI,HC]
 cases hc:ck st.mem x.op (LI st)with
 |false=>rfl
 |true=>
  cases he:b6 aG m x.op (LI st)with
  |pure o=>exact HH ..
  |rd id f=>
   simp only[ab7]
   cases hm:BR st.mem id with
   |none=>rfl
   |some ob=>exact HH ..
noncomputable def PZ {R:Type} (o:Option Nat) (k:Option Nat→R):R:=match o with
 |none=>k none
 |some n=>iW n fun n=>k (some n)
theorem P0 {R:Type} (o:Option Nat) (k:Option Nat→R):PZ o k=k o:=by cases o<;>simp only[PZ,jl]
noncomputable def LS {R:Type} (f:eM) (k:eM→R):R:=match f with
 |⟨a,b,c⟩=>PZ a fun a=>PZ b fun b=>Hw c fun c=>k ⟨a,b,c⟩
theorem LU {R:Type} (f:eM) (k:eM→R):LS f k=k f:=by cases f;simp only[LS,P0,yu]
noncomputable def LV (e:tZ):Nat→St→eM:=match e with
 |.pure o=>fun k st=>kM k none o
 |.rd id f=>fun k st=>match BR st.mem id with
  |some ob=>kM k (some id) (f ob)
  |none=>⟨some id,none,false⟩
theorem LW (e:tZ) (k:Nat) (st:St):LV e k st=eE k st e:=by
 cases e with
 |pure o=>rfl
 |rd id f=>simp only[LV,eE,o5];rfl
noncomputable def LX (E:CE) (x:AI) (xs:List AI) (lt:List (List Nat)) (cC:List eM) (r:List Item) (go:List Item→St→RC) (st:St):RC:=
 iW (st.base+x.d.getD 0) fun kn=>LS (LV ((PR x.op).ef aG kn (LI st)) kn st) fun f=>match iM (lt.headD []) f 0 cC with
 |true=>ra (cC++[f]) fun ab8=>ra lt.tail fun lt'=>DO E true x kn st (.fC xs lt' ab8::r) (.fC (x::xs) lt cC::r) go
 |false=>.stop (some x) 0 [] st (.fC (x::xs) lt cC::r) 11
theorem LY (E:CE) (x:AI) (xs:List AI) (lt:List (List Nat)) (cC:List eM) (r:List Item) (go:List Item→St→RC) (st:St):LX E x xs lt cC r go st=HA E.T E.B E.pF E.pf x xs lt cC r st go:=by
 unfold LX HA;simp only[jl,LU,LW,HC,jA,DP,uQ];rfl
noncomputable def ab9 (l:List AI):CE→List Item→(List Item→St→RC)→St→RC:=match l with
 |[]=>fun E r go st=>go r st
 |x::xs=>fun E r go st=>match y7 st x.g with
  |some true=>match(PR x.op).al with
   |true=>iW (FK st x) fun m=>DO E false x m st (.ops xs::r) (.ops (x::xs)::r) go
   |false=>DO E false x (st.fresh x) st (.ops xs::r) (.ops (x::xs)::r) go
  |some false=>nF st x.d uZ (go (.ops xs::r))
  |none=>.stop (some x) 0 [] st (.ops (x::xs)::r) 14
noncomputable def Tf (l:List AI):CE→List (List Nat)→List eM→List Item→(List Item→St→RC)→St→RC:=match l with
 |[]=>fun E lt cC r go st=>go r st
 |x::xs=>fun E lt cC r go st=>match y7 st x.g with
  |some true=>LX E x xs lt cC r go st
  |some false=>nF st x.d uZ (go (.fC xs lt.tail (cC++[ib])::r))
  |none=>.stop (some x) 0 [] st (.ops (x::xs)::r) 14
noncomputable def aca (E:CE) (ops:List AI) (lt:List (List Nat)) (r:List Item) (go:List Item→St→RC) (st:St):RC:=
 match pk E.hs 0 ops with
 |none=>match pk (fun f=>E.hs (f+1000000)) 0 ops with
  |none=>go (.fC ops lt []::r) st
  |some _=>ra (dA 0 st.mem) fun l=>nG l st fun st=>go (.fC ops lt []::r) st
 |some (c,x)=>match Hz E.T E.B go c x ops lt st with
  |some s1=>Jg s1 (go r)
  |none=>.stop (some x) 0 [] st (.code (.vJ ops (some lt))::r) 18
noncomputable def acb (r:List Item) (go:List Item→St→RC) (st:St):RC:=
 match kW r with
 |some ((cN,m,base,d),r')=>match mU cN st with
  |some v=>BW m base st fun st'=>avR v false fun v=>nF st' d v (go r')
  |none=>.stop none 0 [] st r 17
 |none=>.fin .ret st
noncomputable def acd (E:CE) (ops:List AI) (r:List Item) (go:List Item→St→RC) (st:St):RC:=
 match pk (fun f=>E.hs (f+3000000)) 0 ops with
 |none=>go (.ops ops::r) st
 |some _=>ra (dA 0 st.mem) fun l=>nG l st fun st=>nG l st fun st=>nG l st fun st=>go (.ops ops::r) st
noncomputable def DQ (c:cT):CE→List Item→(List Item→St→RC)→St→RC:=match c with
 |.skip=>fun E r go st=>go r st
 |.vJ ops lt=>match lt with
  |none=>fun E r go st=>match E.hs 2000000 with
   |false=>go (.ops ops::r) st
   |true=>acd E ops r go st
  |some lt=>fun E r go st=>aca E ops lt r go st
 |.seq a b=>fun E r go st=>go (.code a::.code b::r) st
 |.cond c a b=>fun E r go st=>match LI st c with
  |.pv (.bool t)=>match t with|true=>go (.code a::r) st|false=>go (.code b::r) st
  |_=>.stop none 0 [] st r 15
 |.block id b=>fun E r go st=>go (.code b::.B2 id::r) st
 |.loop b=>fun E r go st=>FN st fun st=>go (.code b::.code (.loop b)::r) st
 |.exit id=>fun E r go st=>match exitTo id r with|some r'=>go r' st|none=>.stop none 0 [] st r 16
 |.ret=>fun E r go st=>acb r go st
noncomputable def tX (i:Item):CE→List Item→(List Item→St→RC)→St→RC:=match i with
 |.frame cN m base d=>fun E r go st=>match mU cN st with
  |some v=>BW m base st fun st'=>avR v false fun v=>nF st' d v (go r)
  |none=>.stop none 0 [] st (.frame cN m base d::r) 13
 |.ops l=>ab9 l
 |.fC l lt cC=>fun E r go st=>Tf l E lt cC r go st
 |.B2 _=>fun E r go st=>go r st
 |.code c=>DQ c
noncomputable def ke (E:CE) (n:Nat):List Item→St→RC:=
 Nat.rec (motive:=fun _=>List Item→St→RC) (fun is st=>.stop none 0 [] st is 12) (fun _ go is=>List.casesOn (motive:=fun _=>St→RC) is (fun st=>.fin .normal st) fun i r=>tX i E r go) n
theorem XV (E:CE) (is:List Item) (st:St):ke E 0 is st=.stop none 0 [] st is 12:=rfl
theorem ace (E:CE) (n:Nat) (st:St):ke E (n+1) [] st=.fin .normal st:=rfl
theorem IY (E:CE) (n:Nat) (i:Item) (r:List Item) (st:St):ke E (n+1) (i::r) st=tX i E r (ke E n) st:=rfl
theorem P1 (E:CE):∀(n:Nat),ke E n=e8 E.T E.B E.pF E.pf E.hs n:=by
 intro n
 induction n with
 |zero=>rfl
 |succ n ih=>
  funext is st
  cases is with
  |nil=>rfl
  |cons i r=>
   rw[IY,ih]
   cases i with
   |frame cN m base d=>simp only[tX,e8,qK,iX,Ap,mK];rfl
   |B2 id=>rfl
   |ops l=>
    cases l with
    |nil=>rfl
    |cons x xs=>
     simp only[tX,ab9,e8,jl,DP,IV]
     cases (PR x.op).al<;>rfl
   |fC l lt cC=>
    cases l with
    |nil=>rfl
    |cons x xs=>simp only[tX,Tf,e8,LY];rfl
   |code c=>
    cases c with
    |vJ ops lt=>
     cases lt with
     |none=>simp only[tX,DQ,acd,e8];rfl
     |some lt=>simp only[tX,DQ,aca,e8];rfl
    |loop b=>simp only[tX,DQ,e8,IX]
    |ret=>simp only[tX,DQ,acb,e8,qK,iX,Ap,mK];rfl
    |_=>rfl
theorem cM {P:Program} {G:Nat→Option (List PV)} {E:CE} (hm:P.follows .mixedOrders=true) (hT:pR (ar P G) aG (bB P G) E.T) (hB:∀f ps res,E.B f ps=some res→ar P G f ps res)
  (hid:∀f,E.pF f=true→∀v w,(callFunc f #[v]).run P w=.ok (.value v) w) {accs:List Nat} {f:FuncId} {ac:cT} {cN:List RD} {nt:Nat} (hc:gW P G accs f=some (ac,cN,nt)) {ps:List PV} {res:PV} (hle:Nat.ble ps.length nt=true) (n:Nat)
  (h:(ke E n [.code ac] (start nt ps)).data cN=some res):ar P G f ps res:=
 pure_run hm hT hB hid hc (Nat.le_of_ble_eq_true hle) n (by rw[←P1];exact h)
end Go.Am
namespace Go.Am
noncomputable def ry (T:yC) (B:BI) (pF pf hs:FuncId→Bool) (n:Nat):BI:=fun f ps=>match B f ps with
 |some r=>some r
 |none=>match T f with
  |some (ac,cN,nt)=>match Nat.ble (uU ps) nt with
   |true=>(ke ⟨T,B,pF,pf,hs⟩ n [.code ac] (start nt ps)).data cN
   |false=>none
  |none=>none
theorem dG {P:Program} {G:Nat→Option (List PV)} {T:yC} {B:BI} {pF pf hs:FuncId→Bool} (hm:P.follows .mixedOrders=true) (hT:∀f ac cN nt,T f=some (ac,cN,nt)→∃accs,gW P G accs f=some (ac,cN,nt)) (hB:∀f ps res,B f ps=some res→ar P G f ps res)
  (hid:∀f,pF f=true→∀v w,(callFunc f #[v]).run P w=.ok (.value v) w) (n:Nat):∀f ps res,ry T B pF pf hs n f ps=some res→ar P G f ps res:=by
 intro f ps res h;unfold ry at h;split at h
 ·rename_i r hr;cases h;exact hB _ _ _ hr
 ·split at h
  ·rename_i ac cN nt ht;rw[kS]at h;split at h
   ·rename_i hl;obtain⟨accs,hc⟩:=hT _ _ _ _ ht;exact cM (E:=⟨T,B,pF,pf,hs⟩) hm (eJ hm hT) hB hid hc hl n h
   ·cases h
  ·cases h
def qL:List (Nat×List PV×PV)→BI
 |[],_,_=>none
 |(g,qs,r)::t,f,ps=>match Nat.beq g f with
  |true=>match PV.lv qs ps with
   |true=>some r
   |false=>qL t f ps
  |false=>qL t f ps
def eU (P:Program) (G:Nat→Option (List PV)):List (Nat×List PV×PV)→Prop
 |[]=>True
 |e::r=>ar P G e.1 e.2.1 e.2.2∧eU P G r
theorem rb {P:Program} {G:Nat→Option (List PV)}:eU P G []:=trivial
theorem aH {P:Program} {G:Nat→Option (List PV)} {f:Nat} {ps:List PV} {res:PV} {r:List (Nat×List PV×PV)} (h:ar P G f ps res) (hr:eU P G r):eU P G ((f,ps,res)::r):=⟨h,hr⟩
theorem Aq {P:Program} {G:Nat→Option (List PV)}:∀{l r:List (Nat×List PV×PV)},eU P G l→eU P G r→eU P G (l++r)
 |[],_,_,h=>h
 |_::_,_,h,h'=>⟨h.1,Aq h.2 h'⟩
theorem gY {P:Program} {G:Nat→Option (List PV)}:∀{l:List (Nat×List PV×PV)},eU P G l→∀f ps res,qL l f ps=some res→ar P G f ps res
 |[],_,f,ps,res,h=>by cases h
 |(g,qs,r)::t,ho,f,ps,res,h=>by
  simp only[qL]at h;split at h
  ·rename_i hb;have:=Nat.eq_of_beq_eq_true hb;subst this;split at h
   ·rename_i he;have:=PV.fp _ _ he;subst this
    cases h
    exact ho.1
   ·exact gY ho.2 _ ps res h
  ·exact gY ho.2 f ps res h
end Go.Am
end
section
open Go Go.Am Go.Proofs
namespace Go.bW
theorem uN (v:Value) (w:World):(callFunc 243 #[v]).run Tryz.prog w=.ok (.value v) w:=by kernel_rfl
end Go.bW
end
