import Derived.Test.YtfaccbkibjkfjaaGreatDoorT08
import Derived.Test.YtfaccbkibjkfjaaGreatDoorT07
set_option linter.all false
set_option maxRecDepth 100000
set_option maxHeartbeats 1000000
section
open Go Go.Am Go.Proofs
namespace Go.bt
theorem U9 (v:Value) (w:World):(callFunc 243 #[v]).run Tryz.prog w=.ok (.value v) w:=by kernel_rfl
end Go.bt
end
section
namespace Go.Am
structure OpI where
 ckf:List (Option Obj)→(bR→AV)→Bool
 ef:Ar→Nat→(bR→AV)→sE
 hv:Bool
 al:Bool
noncomputable def Od (op:wQ):OpI:=wQ.rec (motive:=fun _=>OpI)
 (fun x=>⟨fun _ _=>true,
  fun A d ρ=>.pure (.val (ρ x)),false,false⟩)
 (fun c a b=>⟨fun _ _=>true,
  fun A d ρ=>match ρ c with
  |.pv (.bool true)=>.pure (.val (ρ a))
  |.pv (.bool false)=>.pure (.val (ρ b))
  |_=>.pure .bad,false,false⟩)
 (fun z=>⟨fun _ _=>true,
  fun A d ρ=>.pure (.new (.cells (z.map PV.laid)) (.ptr d 0)),false,true⟩)
 (fun x n=>⟨fun _ _=>true,
  fun A d ρ=>match kE (ρ x).cells with
  |true=>match(ρ x).cells.length==n with|true=>.pure (.new (.cells (ρ x).cells) (.ptr d 0))|false=>.pure .bad
  |false=>.pure .bad,false,true⟩)
 (fun z parts=>⟨fun _ _=>true,
  fun A d ρ=>match jt ρ parts (z.map PV.laid)with|some cs=>.pure (.val (.agg cs))|none=>.pure .bad,false,false⟩)
 (fun sz parts=>⟨fun _ _=>true,
  fun A d ρ=>match qF sz ρ parts with
  |some rows=>.pure (.val (.full rows))
  |none=>match fB sz ρ parts with|some rows=>.pure (.val (.kM rows))|none=>.pure .bad,false,false⟩)
 (fun sz parts=>⟨fun _ _=>true,
  fun A d ρ=>match fA sz ρ parts with|some rows=>.pure (.new (.rows sz rows 0) (.c8 d 0))|none=>.pure .bad,false,true⟩)
 (fun x n=>⟨fun _ _=>true,
  fun A d ρ=>ur A (ρ x) n,false,false⟩)
 (fun x y n=>⟨fun _ _=>true,
  fun A d ρ=>rq A (ρ x) (ρ y) n,false,false⟩)
 (fun x=>⟨fun _ _=>true,
  fun A d ρ=>match ρ x with
  |.ptr id off=>.pure (.val (.ptr id off))
  |.fQ r o=>.pure (.val (.fQ r o))
  |.gM f c=>.pure (.val (.gM f c))
  |.pv (.gM f c)=>.pure (.val (.pv (.gM f c)))
  |.pv (.ptr c)=>.pure (.val (.pv (.ptr c)))
  |.Ay f c=>.pure (.val (.Ay f c))
  |.cR id bq j off=>.rd id fun ob=>match ob with
   |.rows _ _ bm=>match bq==bm with|true=>.val (.cR id bq j off)|false=>.bad
   |.cg _ _ bm=>match bq==bm with|true=>.val (.cR id bq j off)|false=>.bad
   |_=>.bad
  |_=>.pure .bad,false,false⟩)
 (fun op x y=>⟨fun mem ρ=>match ρ x,ρ y with
  |.pv (.int _ _),.pv (.int _ b)=>match op with
   |.quo|.rem=> !decide (b=0)
   |.shl|.shr=>decide (0≤b)
   |_=>true
  |.pv (.str a),.pv (.str b)=>match op with
   |.add=>Nat.ble (a.length+b.length) 9223372036854775807
   |_=>true
  |_,_=>true,
  fun A d ρ=>.pure (xK A op (ρ x) (ρ y)),true,false⟩)
 (fun op sh x y=>⟨(fun(W6:BinOp) (sh:List Nat) (x:bR) (y:bR) (mem:List (Option Obj)) (ρ:bR→AV)=>(match(ρ x).flat,(ρ y).flat with
  |some (.agg xs),some (.agg ys)=>iu sh xs ys
  |_,_=>true:Bool)) op sh x y,
  fun A d ρ=>.pure (AO A op sh (ρ x) (ρ y)),false,false⟩)
 (fun op x y=>⟨fun _ _=>true,
  fun A d ρ=>.pure (yV op (ρ x) (ρ y)),false,false⟩)
 (fun op x y=>⟨fun _ _=>true,
  fun A d ρ=>.pure (EH op (ρ x) (ρ y)),false,false⟩)
 (fun op x=>⟨fun _ _=>true,
  fun A d ρ=>.pure (Lv A op (ρ x)),false,false⟩)
 (fun k x=>⟨fun _ _=>true,
  fun A d ρ=>match ρ x with
  |.pv (.int _ n)=>.pure (.val (.pv (.int k (A.wrap k n))))
  |_=>.pure .bad,false,false⟩)
 (fun x=>⟨fun _ _=>true,
  fun A d ρ=>match ρ x with
  |.pv (.str s)=>.pure (.val (.pv (.sl (A.bytes s) [])))
  |_=>.pure .bad,true,false⟩)
 (fun x=>⟨fun _ _=>true,
  fun A d ρ=>match ρ x with
  |.pv (.str s)=>.pure (.val (.pv (.str s)))
  |_=>.pure .bad,false,false⟩)
 (fun x=>⟨fun mem ρ=>match ρ x with
  |.pv (.sl rows _)=>rV rows
  |.full rows=>rV rows
  |.c8 id _=>jk mem id rV fun _=>true
  |_=>true,
  fun A d ρ=>match ρ x with
  |.pv (.sl rows _)=>.pure (.dG (A.qE rows) (.pv (.str (A.gN rows))))
  |.full rows=>.pure (.dG (A.qE rows) (.pv (.str (A.gN rows))))
  |.c8 id bq=>.rd id fun o=>match o with
   |.rows _ rs bm=>match bq==bm with|true=>.dG (A.qE rs) (.pv (.str (A.gN rs)))|false=>.bad
   |.eO rs bm=>match bq==bm with|true=>.dG (A.qE rs) (.pv (.str (A.gN rs)))|false=>.bad
   |_=>.bad
  |_=>.pure .bad,true,false⟩)
 (fun t x=>⟨fun _ _=>true,
  fun A d ρ=>match(ρ x).flat with
  |some p=>.pure (.val (.pv (.iface t p)))
  |none=>.pure .bad,false,false⟩)
 (fun f caps=>⟨fun _ _=>true,
  fun A d ρ=>.pure (.val (.gM f (caps.map ρ))),false,false⟩)
 (fun sz bytes z l c=>⟨(fun(W6:Nat) (bytes:Nat) (u2_:List PV) (l:bR) (c:bR) (mem:List (Option Obj)) (ρ:bR→AV)=>(match ρ l,ρ c with
  |.pv (.int .i64 l),.pv (.int .i64 c)=>M6 l c bytes
  |_,_=>true:Bool)) sz bytes z l c,
  fun A d ρ=>match ρ l,ρ c with
  |.pv (.int .i64 l),.pv (.int .i64 c)=>.pure (.jK (A.WD l c bytes) (.rows sz (A.AK l z) 0) (.c8 d 0))
  |_,_=>.pure .bad,false,true⟩)
 (fun sz x lo hi=>⟨fun mem ρ=>match cX ρ lo,cX ρ hi with
  |some l,some h=>uL mem sz (ρ x) l h
  |_,_=>true,
  fun A d ρ=>match cX ρ lo,cX ρ hi with
  |some l,some h=>mI A sz (ρ x) l h
  |_,_=>.pure .bad,true,false⟩)
 (fun x lo hi=>⟨fun mem ρ=>match cX ρ lo,cX ρ hi with
  |some l,some h=>match ρ x with
   |.pv (.str s)=>decide (0≤l.getD 0)&&(decide (l.getD 0≤h.getD s.length)&&decide (h.getD s.length≤s.length))
   |_=>true
  |_,_=>true,
  fun A d ρ=>match cX ρ lo,cX ρ hi with
  |some l,some h=>.pure (oB A (ρ x) l h)
  |_,_=>.pure .bad,true,false⟩)
 (fun x off=>⟨fun _ _=>true,
  fun A d ρ=>match ρ x with
  |.ptr id o=>.pure (.val (.ptr id (o+off)))
  |.fQ row o=>.pure (.val (.fQ row (o+off)))
  |.cR id bq j o=>.rd id fun ob=>match ob with
   |.rows _ _ bm=>match bq==bm with|true=>.val (.cR id bq j (o+off))|false=>.bad
   |.eO _ bm=>match bq==bm with|true=>.val (.cR id bq j (o+off))|false=>.bad
   |.cg _ _ bm=>match bq==bm with|true=>.val (.cR id bq j (o+off))|false=>.bad
   |_=>.bad
  |.pv (.ptr row)=>.pure (.val (.fQ row off))
  |_=>.pure .bad,false,false⟩)
 (fun x i sz=>⟨fun mem ρ=>match ρ i with
  |.pv (.int _ j)=>match ρ x with
   |.pv (.sl rows _)=>xk j rows sz
   |.full rows=>xk j rows sz
   |.c8 id _=>jk mem id (fun rs=>xk j rs sz) (fun rs=>M3 j rs sz)
   |_=>true
  |_=>true,
  fun A d ρ=>match ρ i with
  |.pv (.int _ j)=>yW A (ρ x) j sz
  |_=>.pure .bad,false,false⟩)
 (fun x i n sz=>⟨(fun(W6:bR) (i:bR) (n:Nat) (u3_:Nat) (mem:List (Option Obj)) (ρ:bR→AV)=>(match ρ i with
  |.pv (.int _ j)=>GV j n
  |_=>true:Bool)) x i n sz,
  fun A d ρ=>match ρ x,ρ i with
  |.ptr id o,.pv (.int _ j)=>.pure (.dG (A.PS j n) (.ptr id (o+A.off j sz)))
  |.fQ row o,.pv (.int _ j)=>.pure (.dG (A.PS j n) (.fQ row (o+A.off j sz)))
  |_,_=>.pure .bad,false,false⟩)
 (fun x i=>⟨fun mem ρ=>match ρ x,ρ i with
  |.pv (.str s),.pv (.int _ j)=>decide (0≤j)&&decide (j<s.length)
  |_,_=>true,
  fun A d ρ=>match ρ x,ρ i with
  |.pv (.str s),.pv (.int _ j)=>.pure (.dG (A.sin j s) (.pv (.int .u8 (A.sat s j))))
  |_,_=>.pure .bad,false,false⟩)
 (fun x i=>⟨fun _ _=>true,
  fun A d ρ=>match ρ x with
  |.pv (.eN vs)=>match vs[i]? with|some v=>.pure (.val (.pv v))|none=>.pure .bad
  |.eN vs=>match vs[i]? with|some v=>.pure (.val v)|none=>.pure .bad
  |_=>.pure .bad,false,false⟩)
 (fun f args=>⟨fun _ _=>true,
  fun A d ρ=>.pure (.call f (args.map ρ)),false,false⟩)
 (fun x args=>⟨fun _ _=>true,
  fun A d ρ=>match ρ x with
  |.pv (.gM f caps)=>.pure (.call f (args.map ρ++caps.map .pv))
  |.gM f caps=>.pure (.call f (args.map ρ++caps))
  |.Ay f first=>.pure (.call f (first++args.map ρ))
  |_=>.pure .bad,false,false⟩)
 (fun x=>⟨fun _ _=>true,
  fun A d ρ=>yX A (ρ x),false,false⟩)
 (fun x=>⟨fun _ _=>true,
  fun A d ρ=>match ρ x with|.pv (.str s)=>.pure (.val (.pv (.int .i64 (A.wY s))))|_=>.pure .bad,false,false⟩)
 (fun sz bytes x y=>⟨fun mem ρ=>Jd mem sz bytes (ρ x) (ρ y),
  fun A d ρ=>yY A d sz bytes (ρ x) (ρ y),false,true⟩)
 (fun mx x y=>⟨fun _ _=>true,
  fun A d ρ=>match ρ x,ρ y with
  |.pv (.int k n),.pv (.int _ m)=>.pure (.val (.pv (.int k (match mx with|true=>A.max n m|false=>A.min n m))))
  |_,_=>.pure .bad,false,false⟩)
 (fun f first=>⟨fun _ _=>true,
  fun A d ρ=>.pure (.val (.Ay f (first.map ρ))),false,false⟩)
 (fun sz parts=>⟨fun _ _=>true,
  fun A d ρ=>match fB sz ρ parts with|some rows=>.pure (.new (.cg sz rows 0) (.c8 d 0))|none=>.pure .bad,false,true⟩)
 (fun sz x hi=>⟨fun mem ρ=>match ρ hi with
  |.pv (.int _ h)=>match ρ x with
   |.c8 id _=>jk mem id (fun rs=>rU 0 h rs sz) fun _=>true
   |_=>true
  |_=>true,
  fun A d ρ=>match ρ hi with
  |.pv (.int _ h)=>ru A sz (ρ x) h
  |_=>.pure .bad,true,false⟩)
 (fun x=>⟨fun _ _=>true,
  fun A d ρ=>match ρ x with
  |.pv (.sl _ _)|.full _=>.pure (.val (.full []))
  |.c8 id bq=>.rd id fun ob=>match ob with
   |.rows _ _ bm=>match bq==bm with|true=>.val (.full [])|false=>.bad
   |.eO _ bm=>match bq==bm with|true=>.val (.full [])|false=>.bad
   |_=>.bad
  |_=>.pure .bad,false,false⟩)
 (fun x n=>⟨fun _ _=>true,
  fun A d ρ=>match ρ x with
  |.fQ row off=>match Nat.ble (off+n) row.length with
   |true=>.pure (.val (.full (((row.drop off).take n).map fun p=>[p])))
   |false=>.pure .bad
  |_=>.pure .bad,true,false⟩)
 (fun x i n=>⟨(fun(W6:bR) (i:bR) (n:Nat) (mem:List (Option Obj)) (ρ:bR→AV)=>(match ρ i with
  |.pv (.int _ j)=>GV j n
  |_=>true:Bool)) x i n,
  fun A d ρ=>match ρ x,ρ i with
  |.agg cs,.pv (.int _ j)=>match cs.length==n with
   |true=>.pure (.dG (A.PS j n) (cs.getD (A.off j 1) .dead))
   |false=>.pure .bad
  |.pv (.agg ps),.pv (.int _ j)=>match ps.length==n with
   |true=>.pure (.dG (A.PS j n) (.pv (ps.getD (A.off j 1) .mh)))
   |false=>.pure .bad
  |_,_=>.pure .bad,false,false⟩)
 (fun fn op x y=>⟨fun _ _=>true,
  fun A d ρ=>.pure (EI fn op (ρ x) (ρ y)),false,false⟩)
 (fun x off n=>⟨fun _ _=>true,
  fun A d ρ=>match ρ x with
  |.agg cs=>.pure (js cs off n)
  |.pv (.agg ps)=>.pure (il ps off n)
  |_=>.pure .bad,false,false⟩)
 (fun kg vg kn=>⟨fun _ _=>true,
  fun A d ρ=>.pure (.new (.map kg vg kn []) (.dt d)),false,true⟩)
 (⟨fun _ _=>true,
  fun A d ρ=>.pure (.new (.iw []) (.dt d)),false,true⟩)
 (fun kg sh n m k v=>⟨(fun(kg:Bool) (sh:List Nat) (u2_:Nat) (m:bR) (k:bR) (u5_:bR) (mem:List (Option Obj)) (ρ:bR→AV)=>(match ρ m with
  |.dt id=>match aj mem id with
   |some (.map _ _ kn rows)=>match keyOf kg kn (ρ k)with|some kc=>uo sh kn rows kc|none=>true
   |some (.iw rows)=>match oC kg sh (ρ k)with|some s=>BC s rows|none=>true
   |_=>true
  |_=>true:Bool)) kg sh n m k v,
  fun A d ρ=>EJ A kg sh n (ρ m) (ρ k) (ρ v),false,false⟩)
 (fun kg sh z m k=>⟨(fun(kg:Bool) (sh:List Nat) (u2_:PV) (m:bR) (k:bR) (mem:List (Option Obj)) (ρ:bR→AV)=>(match ρ m with
  |.dt id=>match aj mem id with
   |some (.map _ _ kn rows)=>match keyOf kg kn (ρ k)with|some kc=>uo sh kn rows kc|none=>true
   |_=>true
  |_=>true:Bool)) kg sh z m k,
  fun A d ρ=>uX A kg sh z (ρ m) (ρ k),false,false⟩)
 (fun n m s v=>⟨(fun(W6:Nat) (m:bR) (s:bR) (u3_:bR) (mem:List (Option Obj)) (ρ:bR→AV)=>(match ρ m,ρ s with
  |.dt id,.eT _ i=>match aj mem id with
   |some (.map _ _ _ rows)=>decide (0≤i)&&decide (i<rows.length)
   |_=>true
  |_,_=>true:Bool)) n m s v,
  fun A d ρ=>yZ A n (ρ m) (ρ s) (ρ v),false,false⟩)
 (fun kg sh z ok m k=>⟨(fun(kg:Bool) (sh:List Nat) (u2_:PV) (u3_:Bool) (m:bR) (k:bR) (mem:List (Option Obj)) (ρ:bR→AV)=>(match ρ m with
  |.pv .oh=>match keyOf kg sh.length (ρ k)with|some kc=>uo sh sh.length [] kc|none=>true
  |.pv (.mp _ _ kn rows)=>match keyOf kg kn (ρ k)with|some kc=>uo sh kn rows kc|none=>true
  |.dt id=>match aj mem id with
   |some (.map _ _ kn rows)=>match keyOf kg kn (ρ k)with|some kc=>uo sh kn rows kc|none=>true
   |_=>true
  |_=>true:Bool)) kg sh z ok m k,
  fun A d ρ=>uW A kg sh z ok (ρ m) (ρ k),false,false⟩)
 (fun m=>⟨fun _ _=>true,
  fun A d ρ=>uw A (ρ m),false,false⟩)
 (fun x=>⟨fun _ _=>true,
  fun A d ρ=>match ρ x with
  |.pv (.str s)=>.pure (.new (.fz s 0) (.ptr d 0))
  |_=>.pure .bad,false,true⟩)
 (fun x=>⟨fun _ _=>true,
  fun A d ρ=>ae2 A (ρ x),false,false⟩)
 (fun x=>⟨fun _ _=>true,
  fun A d ρ=>match ρ x with
  |.pv (.mp kg vg kn rows)=>.pure (.new (.eu (.mp kg vg kn rows) []) (.ptr d 0))
  |.pv .oh=>.pure (.new (.eu .oh []) (.ptr d 0))
  |_=>.pure .bad,false,true⟩)
 (fun x=>⟨fun _ _=>true,
  fun A d ρ=>ae3 A (ρ x),false,false⟩)
 (fun x=>⟨fun _ _=>true,
  fun A d ρ=>ux A (ρ x),false,false⟩)
 (fun x=>⟨fun mem ρ=>match ρ x with
  |.pv (.sl rows sp)=> !jA (rows++sp)
  |_=>true,
  fun A d ρ=>match ρ x with
  |.pv (.sl rows sp)=>.pure (.dG (A.Qn [[]] (A.oi rows sp)) (.pv (.bool false)))
  |_=>.pure .bad,false,false⟩)
 (fun t z=>⟨fun _ _=>true,
  fun A d ρ=>match z with
  |.mh::r=>.pure (.new (.cells (.iU t::r.map PV.laid)) (.ptr d 0))
  |_=>.pure .bad,false,true⟩)
 (fun x=>⟨fun _ _=>true,
  fun A d ρ=>match ρ x with
  |.ptr id off=>.rd id fun o=>match o with
   |.cells cs=>match Nat.ble (off+1) cs.length with
    |true=>.val (.ptr id off)
    |false=>.bad
   |_=>.bad
  |_=>.pure .bad,false,false⟩)
 (fun t n x=>⟨fun _ _=>true,
  fun A d ρ=>match ρ x with
  |.ptr id 0=>.rd id fun o=>match o with
   |.cells (.iU t'::r)=>match t==t' with
    |true=>match(r.length+1)==n with
     |true=>.val (.ptr id 0)
     |false=>.bad
    |false=>.bad
   |_=>.bad
  |_=>.pure .bad,false,false⟩)
 (fun op x y=>⟨fun _ _=>true,
  fun A d ρ=>match ρ x with
  |.ptr i o=>match ρ y with
   |.ptr j q=>match i==j with
    |true=>match o==q with
     |true=>.pure (mH op true)
     |false=>.pure .bad
    |false=>.pure .bad
   |_=>.pure .bad
  |_=>.pure .bad,false,false⟩)
 (fun x=>⟨fun mem ρ=>match ρ x with
  |.c8 id _=>jk mem id (fun rs=>xk 0 rs 1) fun _=>true
  |_=>true,
  fun A d ρ=>match ρ x with
  |.c8 id bq=>.rd id fun o=>match o with
   |.cL _ rs bm=>match bq==bm with
    |true=>.dG (A.tu 0 rs 1) (.cR id bq 0 0)
    |false=>.bad
   |_=>.bad
  |_=>.pure .bad,false,false⟩)
 (fun t x n=>⟨(fun(W6:TypeId) (x:bR) (n:bR) (mem:List (Option Obj)) (ρ:bR→AV)=>(match ρ n,ρ x with
  |.pv (.int _ n),.cR id _ j _=>jk mem id (fun rs=>rV rs&&(decide (n=rs.length)&&(decide (j=0)&&qp rs [] 1 1))) fun _=>true
  |_,_=>true:Bool)) t x n,
  fun A d ρ=>match ρ n with
  |.pv (.int k n)=>match k with
   |.i64=>match ρ x with
    |.cR id bq j 0=>.rd id fun o=>match o with
     |.cL t' rs bm=>match t==t' with
      |true=>match bq==bm with
       |true=>.ix (A.qE rs∧n=A.mi rs∧j=0∧A.oj rs [] 1 1) id (.eO rs bq) (.pv (.str (A.gN rs)))
       |false=>.bad
      |false=>.bad
     |_=>.bad
    |_=>.pure .bad
   |_=>.pure .bad
  |_=>.pure .bad,false,false⟩)
 (fun t x y=>⟨(fun(W6:TypeId) (x:bR) (y:bR) (mem:List (Option Obj)) (ρ:bR→AV)=>(match gE aF (ρ y)with
  |some ys=>match ρ x with
   |.full []=>qp [] ys 1 1&& !jA ys
   |.c8 id _=>jk mem id (fun rs=>qp rs ys 1 1&& !jA ys) fun _=>true
   |_=>true
  |none=>true:Bool)) t x y,
  fun A d ρ=>match gE A (ρ y)with
  |some ys=>match ρ x with
   |.full []=>.pure (.jK (A.oj [] ys 1 1∧ys≠[]) (.cL t ys 0) (.c8 d 0))
   |.c8 id bq=>.rd id fun o=>match o with
    |.cL t' rs bm=>match t==t' with
     |true=>match bq==bm with
      |true=>.ix (A.oj rs ys 1 1∧ys≠[]) id (.cL t (A.oi rs ys) (bq+1)) (.c8 id (bq+1))
      |false=>.bad
     |false=>.bad
    |_=>.bad
   |_=>.pure .bad
  |none=>.pure .bad,false,true⟩)
 op
theorem U5 (op:wQ) (mem:List (Option Obj)) (ρ:bR→AV):(Od op).ckf mem ρ=ck mem op ρ:=by cases op<;>rfl
theorem FX (op:wQ) (A:Ar) (d:Nat) (ρ:bR→AV):(Od op).ef A d ρ=KA A d op ρ:=by cases op<;>rfl
section
variable {R:Type}
noncomputable def pvR (p:PV):Bool→(PV→R)→R:=match p with
 |.bool b=>fun _ k=>Fc b fun b=>k (.bool b)
 |.int t n=>fun _ k=>BG n fun n=>k (.int t n)
 |.str s=>fun xB k=>match xB with
  |true=>CH s fun s=>k (.str s)
  |false=>k (.str s)
 |.sl rows spare=>fun xB k=>match xB with
  |true=>pP rows fun rows=>k (.sl rows spare)
  |false=>k (.sl rows spare)
 |p=>fun _ k=>k p
theorem U6 (h:Bool) (p:PV) (k:PV→R):pvR p h k=k p:=by
 cases p<;>simp only[pvR,CG,pO]<;>cases h<;>simp only[sZ,ja]
noncomputable def Lw (v:AV):Bool→(AV→R)→R:=match v with
 |.pv p=>fun xB k=>pvR p xB fun p=>k (.pv p)
 |.c8 id bq=>fun _ k=>iC id fun id=>iC bq fun bq=>k (.c8 id bq)
 |.ptr id off=>fun _ k=>iC id fun id=>iC off fun off=>k (.ptr id off)
 |.cR id bq j off=>fun _ k=>iC id fun id=>iC bq fun bq=>BG j fun j=>iC off fun off=>k (.cR id bq j off)
 |.fQ row off=>fun _ k=>iC off fun off=>k (.fQ row off)
 |.full rows=>fun _ k=>pP rows fun rows=>k (.full rows)
 |.agg cs=>fun _ k=>pP cs fun cs=>k (.agg cs)
 |.eN vs=>fun _ k=>pP vs fun vs=>k (.eN vs)
 |v=>fun _ k=>k v
theorem o7 (h:Bool) (v:AV) (k:AV→R):Lw v h k=k v:=by
 cases v<;>simp only[Lw,U6,iT,pO,ja]
noncomputable def U7 (o:Obj):(Obj→R)→R:=match o with
 |.cells cs=>fun k=>pP cs fun cs=>k (.cells cs)
 |.rows sz rs bq=>fun k=>pP rs fun rs=>iC bq fun bq=>k (.rows sz rs bq)
 |.eO rs bq=>fun k=>k (.eO rs bq)
 |.cg sz rs bq=>fun k=>pP rs fun rs=>iC bq fun bq=>k (.cg sz rs bq)
 |.map a b c rows=>fun k=>pP rows fun rows=>k (.map a b c rows)
 |.iw rows=>fun k=>pP rows fun rows=>k (.iw rows)
 |.fz s pos=>fun k=>BG pos fun pos=>k (.fz s pos)
 |.eu src seen=>fun k=>k (.eu src seen)
 |.cL t rs bq=>fun k=>pP rs fun rs=>iC bq fun bq=>k (.cL t rs bq)
theorem Oe (o:Obj) (k:Obj→R):U7 o k=k o:=by
 cases o<;>simp only[U7,iT,pO,ja]
noncomputable def s9 {α:Type} (l:List α):Nat:=List.rec (motive:=fun _=>Nat→Nat) (fun n=>n) (fun _ _ ih n=>ih (Nat.succ n)) l 0
theorem FY {α:Type}:∀(l:List α) (n:Nat),(List.rec (motive:=fun _=>Nat→Nat) (fun n=>n) (fun _ _ ih n=>ih (Nat.succ n)) l:Nat→Nat) n=l.length+n
 |[],n=>by simp
 |x::r,n=>(FY r (n+1)).trans (by simp;omega)
theorem acv {α:Type} (l:List α):s9 l=l.length:=FY l 0
noncomputable def Of (st:St) (id:Nat) (o:Obj) (k:St→R):R:=match st with
 |⟨s,h,b,m⟩=>U7 o fun o=>match Nat.ble (id+1) (s9 m)with
  |true=>M8 m id (some o) fun m=>k ⟨s,h,b,m⟩
  |false=>pP (m++[some o]) fun m=>k ⟨s,h,b,m⟩
theorem uN (st:St) (id:Nat) (o:Obj) (k:St→R):Of st id o k=k (st.aq id o):=by
 cases st with
 |mk s h b m=>
  simp only[Of,Oe,St.aq,qG,uM,ja,acv];split<;>rename_i hb<;>simp only[hb]
end
noncomputable def DJ (st:St) (x:AI):Nat:=match st with
 |⟨_,_,b,m⟩=>match zx m (b+x.d.getD 0)with
  |none=>match Nat.ble (b+x.d.getD 0+1) (s9 m)with
   |true=>b+x.d.getD 0
   |false=>s9 m
  |some _=>s9 m
theorem G6 (st:St) (x:AI):DJ st x=st.fresh x:=by
 cases st;simp only[DJ,St.fresh,nL,acv];rfl
section
variable {R α:Type}
noncomputable def spl (l:List α):Nat→(List α→List α→R)→R:=
 List.rec (motive:=fun _=>Nat→(List α→List α→R)→R) (fun _ k=>k [] []) (fun x r ih n k=>Nat.rec (motive:=fun _=>R) (k [] (x::r)) (fun m _=>ih m fun a b=>k (x::a) b) n) l
theorem JC:∀(l:List α) (n:Nat) (k:List α→List α→R),spl l n k=k (l.take n) (l.drop n)
 |[],n,k=>by simp[spl]
 |x::r,0,k=>rfl
 |x::r,m+1,k=>(JC r m fun a b=>k (x::a) b).trans (by simp)
noncomputable def Og (l:List α):List α→(List α→R)→R:=
 List.rec (motive:=fun _=>List α→(List α→R)→R) (fun t k=>k t) (fun x _ ih t k=>ih t fun r=>k (x::r)) l
theorem FZ:∀(l t:List α) (k:List α→R),Og l t k=k (l++t)
 |[],t,k=>rfl
 |x::r,t,k=>FZ r t fun r'=>k (x::r')
noncomputable def U8 (n:Nat) (z:α) (k:List α→R):R:=Nat.rec (motive:=fun _=>List α→R) (fun acc=>k acc) (fun _ ih acc=>ih (z::acc)) n []
theorem F0 (z:α) (k:List α→R):∀(n:Nat) (acc:List α),(Nat.rec (motive:=fun _=>List α→R) (fun acc=>k acc) (fun _ ih acc=>ih (z::acc)) n:List α→R) acc=k (List.replicate n z++acc)
 |0,acc=>rfl
 |n+1,acc=>(F0 z k n (z::acc)).trans (by rw[List.replicate_succ',qaR];rfl)
theorem Oh (n:Nat) (z:α) (k:List α→R):U8 n z k=k (List.replicate n z):=(F0 z k n []).trans (by rw[qbw])
end
noncomputable def aaD (m:List (Option Obj)):Bool:=List.rec (motive:=fun _=>Bool) true (fun x _ ih=>match x with|none=>ih|some _=>false) m
theorem F1:∀(m:List (Option Obj)),aaD m=pD m
 |[]=>rfl
 |none::r=>F1 r
 |some x::r=>rfl
noncomputable def zH {R:Type} (n base:Nat) (st:St) (k:St→R):R:=match st with
 |⟨_,h,b,m⟩=>spl h n fun s' h'=>spl m b fun a d=>match aaD d with
  |true=>k ⟨s',h',base,a⟩
  |false=>k ⟨s',h',base,m⟩
theorem yF {R:Type} (n base:Nat) (st:St) (k:St→R):zH n base st k=k (leave n base st):=by
 cases st
 simp only[zH,JC,leave,AR,F1];split<;>rename_i h<;>rw[h]
noncomputable def DK {R:Type} (nt:Nat) (args:List AV) (st:St) (k:St→R):R:=match st with
 |⟨s,h,_,m⟩=>iC (s9 m) fun l=>iC (s9 args) fun la=>U8 (nt-la) .dead fun d=>Og args d fun s'=>Og s h fun h'=>U8 nt none fun e=>Og m e fun m'=>k ⟨s',h',l,m'⟩
theorem G7 {R:Type} (nt:Nat) (args:List AV) (st:St) (k:St→R):DK nt args st k=k (enter nt args st):=by
 cases st;simp only[DK,iT,Oh,FZ,acv,enter]
noncomputable def DL {R:Type} (st:St) (k:St→R):R:=match st with
 |⟨s,h,b,m⟩=>match Nat.ble (s9 m) (b+s9 s+120)with
  |true=>k ⟨s,h,b,m⟩
  |false=>adT ⟨s,h,b,m⟩ k
theorem G8 {R:Type} (st:St) (k:St→R):DL st k=adT st k:=by
 cases st
 simp only[DL,acv];split
 ·rename_i h;unfold adT;simp only[h]
 ·rfl
structure CE where
 T:Mj
 B:BI
 ox:FuncId→Bool
 pf:FuncId→Bool
 hs:FuncId→Bool
noncomputable def xn (E:CE) (x:AI) (v:AV) (is:List Item) (go:List Item→St→RC) (st:St):RC:=Lw v (Od x.op).hv fun v=>mw st x.d v (go is)
noncomputable def aaE (E:CE) (dr:Bool) (x:AI) (st:St) (is gk:List Item) (go:List Item→St→RC) (f:FuncId) (args:List AV):RC:=
 match dB st.mem args with
 |some (ps,b)=>match E.B f ps with
  |some res=>match(match b with|true=>res.jf|false=>true)with
   |true=>mw st x.d (.pv res) (go is)
   |false=>.stop (some x) f args st gk 5
  |none=>.stop (some x) f args st gk 6
 |none=>.stop (some x) f args st gk 7
noncomputable def RX (E:CE) (dr:Bool) (x:AI) (st:St) (is gk:List Item) (go:List Item→St→RC) (f:FuncId) (args:List AV):RC:=
 match(match dr with|true=>none|false=>match E.pf f with|true=>none|false=>E.T f)with
 |some (ac,eF,nt)=>iC (s9 st.slots) fun ls=>DK nt args st (go (.code ac::.frame eF ls st.base x.d::is))
 |none=>match(match dr with|true=>false|false=>E.ox f)with
  |true=>match args with
   |[a]=>mw st x.d a (go is)
   |_=>.stop (some x) f args st gk 4
  |false=>aaE E dr x st is gk go f args
noncomputable def Oi (E:CE) (dr:Bool) (x:AI) (st:St) (is gk:List Item) (go:List Item→St→RC) (id:Nat) (o:Obj) (v:AV):RC:=
 match(match dr with|true=>Nat.ble (id+1) (s9 st.mem)|false=>true)with
 |true=>Of st id o (xn E x v is go)
 |false=>.stop (some x) 0 [] st gk 1
noncomputable def Oj (E:CE) (dr:Bool) (x:AI) (m:Nat) (st:St) (is gk:List Item) (go:List Item→St→RC) (o:Obj) (v:AV):RC:=
 match zx st.mem m with
 |none=>match Nat.ble (qI dr m) (s9 st.mem)with
  |true=>Of st m o (xn E x v is go)
  |false=>.stop (some x) 0 [] st gk 2
 |some _=>.stop (some x) 0 [] st gk 3
noncomputable def xo (o:Out):CE→Bool→AI→Nat→St→List Item→List Item→(List Item→St→RC)→RC:=match o with
 |.bad=>fun E dr x m st is gk go=>.stop (some x) 0 [] st gk 0
 |.val v=>fun E dr x m st is gk go=>xn E x v is go st
 |.dG _ v=>fun E dr x m st is gk go=>xn E x v is go st
 |.dp id o v=>fun E dr x m st is gk go=>Oi E dr x st is gk go id o v
 |.ix _ id o v=>fun E dr x m st is gk go=>Oi E dr x st is gk go id o v
 |.new o v=>fun E dr x m st is gk go=>Oj E dr x m st is gk go o v
 |.jK _ o v=>fun E dr x m st is gk go=>Oj E dr x m st is gk go o v
 |.call f args=>fun E dr x m st is gk go=>RX E dr x st is gk go f args
 |.all ..=>fun E dr x m st is gk go=>.stop (some x) 0 [] st gk 8
theorem F2 (E:CE) (dr:Bool) (x:AI) (m:Nat) (st:St) (is gk:List Item) (go:List Item→St→RC) (o:Out):xo o E dr x m st is gk go=oy E.T E.B E.ox E.pf dr x m st is gk go o:=by
 cases o with
 |dp id o v=>
  simp only[xo,oy,Oi,xn,uN,l7,o7,iD,gn,acv];rfl
 |ix p id o v=>
  simp only[xo,oy,Oi,xn,uN,l7,o7,iD,gn,acv];rfl
 |new o v=>
  simp only[xo,oy,Oj,xn,uN,l7,o7,iD,gn,acv];rfl
 |jK p o v=>
  simp only[xo,oy,Oj,xn,uN,l7,o7,iD,gn,acv];rfl
 |call f args=>simp only[xo,oy,RX,iT,G7,lD,acv];rfl
 |val v=>simp only[xo,oy,xn,o7,iD]
 |dG p v=>simp only[xo,oy,xn,o7,iD]
 |bad=>rfl
 |all p id o v=>rfl
noncomputable def aaF (e:sE):CE→Bool→AI→Nat→St→List Item→List Item→(List Item→St→RC)→RC:=match e with
 |.pure o=>xo o
 |.rd id f=>fun E dr x m st is gk go=>match zx st.mem id with
  |some ob=>xo (f ob) E dr x m st is gk go
  |none=>.stop (some x) 0 [] st gk 9
noncomputable def BU (E:CE) (dr:Bool) (x:AI) (m:Nat) (st:St) (is gk:List Item) (go:List Item→St→RC):RC:=
 match(Od x.op).ckf st.mem (Je st)with
 |true=>aaF ((Od x.op).ef aF m (Je st)) E dr x m st is gk go
 |false=>.stop (some x) 0 [] st gk 10
theorem BV (E:CE) (dr:Bool) (x:AI) (m:Nat) (st:St) (is gk:List Item) (go:List Item→St→RC):BU E dr x m st is gk go=GZ E.T E.B E.ox E.pf dr x m st is gk go:=by
 unfold BU GZ;rw[U5,FX]
 cases hc:ck st.mem x.op (Je st)with
 |false=>rfl
 |true=>
  cases he:KA aF m x.op (Je st)with
  |pure o=>exact F2 ..
  |rd id f=>
   simp only[aaF]
   cases hm:zx st.mem id with
   |none=>rfl
   |some ob=>exact F2 ..
noncomputable def Ok {R:Type} (o:Option Nat) (k:Option Nat→R):R:=match o with
 |none=>k none
 |some n=>iC n fun n=>k (some n)
theorem Ol {R:Type} (o:Option Nat) (k:Option Nat→R):Ok o k=k o:=by cases o<;>simp only[Ok,iT]
noncomputable def JD {R:Type} (f:eP) (k:eP→R):R:=match f with
 |⟨a,b,c⟩=>Ok a fun a=>Ok b fun b=>Fc c fun c=>k ⟨a,b,c⟩
theorem JE {R:Type} (f:eP) (k:eP→R):JD f k=k f:=by cases f;simp only[JD,Ol,CG]
noncomputable def JF (e:sE):Nat→St→eP:=match e with
 |.pure o=>fun k st=>gj k none o
 |.rd id f=>fun k st=>match zx st.mem id with
  |some ob=>gj k (some id) (f ob)
  |none=>⟨some id,none,false⟩
theorem JG (e:sE) (k:Nat) (st:St):JF e k st=eC k st e:=by
 cases e with
 |pure o=>rfl
 |rd id f=>simp only[JF,eC,nL];rfl
noncomputable def JH (E:CE) (x:AI) (xs:List AI) (lt:List (List Nat)) (cE:List eP) (r:List Item) (go:List Item→St→RC) (st:St):RC:=
 iC (st.base+x.d.getD 0) fun kn=>JD (JF ((Od x.op).ef aF kn (Je st)) kn st) fun f=>match iy (lt.headD []) f 0 cE with
 |true=>pP (cE++[f]) fun aaG=>pP lt.tail fun lt'=>BU E true x kn st (.fD xs lt' aaG::r) (.fD (x::xs) lt cE::r) go
 |false=>.stop (some x) 0 [] st (.fD (x::xs) lt cE::r) 11
theorem JI (E:CE) (x:AI) (xs:List AI) (lt:List (List Nat)) (cE:List eP) (r:List Item) (go:List Item→St→RC) (st:St):JH E x xs lt cE r go st=Fi E.T E.B E.ox E.pf x xs lt cE r st go:=by
 unfold JH Fi;simp only[iT,JE,JG,FX,ja,BV,sY];rfl
noncomputable def aaH (l:List AI):CE→List Item→(List Item→St→RC)→St→RC:=match l with
 |[]=>fun E r go st=>go r st
 |x::xs=>fun E r go st=>match xm st x.g with
  |some true=>match(Od x.op).al with
   |true=>iC (DJ st x) fun m=>BU E false x m st (.ops xs::r) (.ops (x::xs)::r) go
   |false=>BU E false x (st.fresh x) st (.ops xs::r) (.ops (x::xs)::r) go
  |some false=>mw st x.d tw (go (.ops xs::r))
  |none=>.stop (some x) 0 [] st (.ops (x::xs)::r) 14
noncomputable def RY (l:List AI):CE→List (List Nat)→List eP→List Item→(List Item→St→RC)→St→RC:=match l with
 |[]=>fun E lt cE r go st=>go r st
 |x::xs=>fun E lt cE r go st=>match xm st x.g with
  |some true=>JH E x xs lt cE r go st
  |some false=>mw st x.d tw (go (.fD xs lt.tail (cE++[gR])::r))
  |none=>.stop (some x) 0 [] st (.ops (x::xs)::r) 14
noncomputable def aaI (E:CE) (ops:List AI) (lt:List (List Nat)) (r:List Item) (go:List Item→St→RC) (st:St):RC:=
 match od E.hs 0 ops with
 |none=>match od (fun f=>E.hs (f+1000000)) 0 ops with
  |none=>go (.fD ops lt []::r) st
  |some _=>pP (dz 0 st.mem) fun l=>my l st fun st=>go (.fD ops lt []::r) st
 |some (c,x)=>match Fh E.T E.B go c x ops lt st with
  |some s1=>HM s1 (go r)
  |none=>.stop (some x) 0 [] st (.code (.pA ops (some lt))::r) 18
noncomputable def aaJ (r:List Item) (go:List Item→St→RC) (st:St):RC:=
 match kb r with
 |some ((eF,m,base,d),r')=>match lT eF st with
  |some v=>zH m base st fun st'=>Lw v false fun v=>mw st' d v (go r')
  |none=>.stop none 0 [] st r 17
 |none=>.fin .ret st
noncomputable def aaK (E:CE) (ops:List AI) (r:List Item) (go:List Item→St→RC) (st:St):RC:=
 match od (fun f=>E.hs (f+3000000)) 0 ops with
 |none=>go (.ops ops::r) st
 |some _=>pP (dz 0 st.mem) fun l=>my l st fun st=>my l st fun st=>my l st fun st=>go (.ops ops::r) st
noncomputable def BW (c:cf):CE→List Item→(List Item→St→RC)→St→RC:=match c with
 |.skip=>fun E r go st=>go r st
 |.pA ops lt=>match lt with
  |none=>fun E r go st=>match E.hs 2000000 with
   |false=>go (.ops ops::r) st
   |true=>aaK E ops r go st
  |some lt=>fun E r go st=>aaI E ops lt r go st
 |.seq a b=>fun E r go st=>go (.code a::.code b::r) st
 |.cond c a b=>fun E r go st=>match Je st c with
  |.pv (.bool t)=>match t with|true=>go (.code a::r) st|false=>go (.code b::r) st
  |_=>.stop none 0 [] st r 15
 |.block id b=>fun E r go st=>go (.code b::.Az id::r) st
 |.loop b=>fun E r go st=>DL st fun st=>go (.code b::.code (.loop b)::r) st
 |.exit id=>fun E r go st=>match exitTo id r with|some r'=>go r' st|none=>.stop none 0 [] st r 16
 |.ret=>fun E r go st=>aaJ r go st
noncomputable def r8 (i:Item):CE→List Item→(List Item→St→RC)→St→RC:=match i with
 |.frame eF m base d=>fun E r go st=>match lT eF st with
  |some v=>zH m base st fun st'=>Lw v false fun v=>mw st' d v (go r)
  |none=>.stop none 0 [] st (.frame eF m base d::r) 13
 |.ops l=>aaH l
 |.fD l lt cE=>fun E r go st=>RY l E lt cE r go st
 |.Az _=>fun E r go st=>go r st
 |.code c=>BW c
noncomputable def jB (E:CE) (n:Nat):List Item→St→RC:=
 Nat.rec (motive:=fun _=>List Item→St→RC) (fun is st=>.stop none 0 [] st is 12) (fun _ go is=>List.casesOn (motive:=fun _=>St→RC) is (fun st=>.fin .normal st) fun i r=>r8 i E r go) n
theorem G9 (E:CE) (n:Nat) (i:Item) (r:List Item) (st:St):jB E (n+1) (i::r) st=r8 i E r (jB E n) st:=rfl
theorem Om (E:CE):∀(n:Nat),jB E n=YI E.T E.B E.ox E.pf E.hs n:=by
 intro n
 induction n with
 |zero=>rfl
 |succ n ih=>
  funext is st
  cases is with
  |nil=>rfl
  |cons i r=>
   rw[G9,ih]
   cases i with
   |frame eF m base d=>simp only[r8,YI,o7,iD,yF,lD];rfl
   |Az id=>rfl
   |ops l=>
    cases l with
    |nil=>rfl
    |cons x xs=>
     simp only[r8,aaH,YI,iT,BV,G6]
     cases (Od x.op).al<;>rfl
   |fD l lt cE=>
    cases l with
    |nil=>rfl
    |cons x xs=>simp only[r8,RY,YI,JI];rfl
   |code c=>
    cases c with
    |pA ops lt=>
     cases lt with
     |none=>simp only[r8,BW,aaK,YI];rfl
     |some lt=>simp only[r8,BW,aaI,YI];rfl
    |loop b=>simp only[r8,BW,YI,G8]
    |ret=>simp only[r8,BW,aaJ,YI,o7,iD,yF,lD];rfl
    |_=>rfl
theorem cI {P:Program} {G:Nat→Option (List PV)} {E:CE} (hm:P.follows .mixedOrders=true) (hT:oI (CC P G) aF (Hf P G) E.T) (hB:∀f ps res,E.B f ps=some res→bE P G f ps res)
  (hid:∀f,E.ox f=true→∀v w,(callFunc f #[v]).run P w=.ok (.value v) w) {accs:List Nat} {f:FuncId} {ac:cf} {eF:List RD} {nt:Nat} (hc:gF P G accs f=some (ac,eF,nt)) {ps:List PV} {res:PV} (hle:Nat.ble ps.length nt=true) (n:Nat)
  (h:(jB E n [.code ac] (start nt ps)).data eF=some res):bE P G f ps res:=
 pure_run hm hT hB hid hc (qaH hle) n (by rw[←Om];exact h)
end Go.Am
namespace Go.Am
noncomputable def upR (T:Mj) (B:BI) (ox pf hs:FuncId→Bool) (n:Nat):BI:=fun f ps=>match B f ps with
 |some r=>some r
 |none=>match T f with
  |some (ac,eF,nt)=>match Nat.ble (s9 ps) nt with
   |true=>(jB ⟨T,B,ox,pf,hs⟩ n [.code ac] (start nt ps)).data eF
   |false=>none
  |none=>none
theorem dE {P:Program} {G:Nat→Option (List PV)} {T:Mj} {B:BI} {ox pf hs:FuncId→Bool} (hm:P.follows .mixedOrders=true) (hT:∀f ac eF nt,T f=some (ac,eF,nt)→∃accs,gF P G accs f=some (ac,eF,nt)) (hB:∀f ps res,B f ps=some res→bE P G f ps res)
  (hid:∀f,ox f=true→∀v w,(callFunc f #[v]).run P w=.ok (.value v) w) (n:Nat):∀f ps res,upR T B ox pf hs n f ps=some res→bE P G f ps res:=by
 intro f ps res h;unfold upR at h;split at h
 ·rename_i r hr;cases h;exact hB _ _ _ hr
 ·split at h
  ·rename_i ac eF nt ht;rw[acv]at h;split at h
   ·rename_i hl;obtain⟨accs,hc⟩:=hT _ _ _ _ ht;exact cI (E:=⟨T,B,ox,pf,hs⟩) hm (eM hm hT) hB hid hc hl n h
   ·cases h
  ·cases h
def o8:List (Nat×List PV×PV)→BI
 |[],_,_=>none
 |(g,qs,r)::t,f,ps=>match Nat.beq g f with
  |true=>match PV.ko qs ps with
   |true=>some r
   |false=>o8 t f ps
  |false=>o8 t f ps
def eX (P:Program) (G:Nat→Option (List PV)):List (Nat×List PV×PV)→Prop
 |[]=>True
 |e::r=>bE P G e.1 e.2.1 e.2.2∧eX P G r
theorem pR {P:Program} {G:Nat→Option (List PV)}:eX P G []:=trivial
theorem aE {P:Program} {G:Nat→Option (List PV)} {f:Nat} {ps:List PV} {res:PV} {r:List (Nat×List PV×PV)} (h:bE P G f ps res) (hr:eX P G r):eX P G ((f,ps,res)::r):=⟨h,hr⟩
theorem yG {P:Program} {G:Nat→Option (List PV)}:∀{l r:List (Nat×List PV×PV)},eX P G l→eX P G r→eX P G (l++r)
 |[],_,_,h=>h
 |_::_,_,h,h'=>⟨h.1,yG h.2 h'⟩
theorem gP {P:Program} {G:Nat→Option (List PV)}:∀{l:List (Nat×List PV×PV)},eX P G l→∀f ps res,o8 l f ps=some res→bE P G f ps res
 |[],_,f,ps,res,h=>by cases h
 |(g,qs,r)::t,ho,f,ps,res,h=>by
  simp only[o8]at h;split at h
  ·rename_i hb;have:=qcP hb;subst this;split at h
   ·rename_i he;have:=PV.fr _ _ he;subst this
    cases h
    exact ho.1
   ·exact gP ho.2 _ ps res h
  ·exact gP ho.2 f ps res h
end Go.Am
end
