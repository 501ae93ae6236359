import Derived.Orders
import Derived.KernelRfl
set_option linter.all false
set_option maxRecDepth 100000
set_option maxHeartbeats 1000000
section
namespace Go.Am
inductive PV where
 |bool (b:Bool)
 |int (k:IntKind) (n:Int)
 |str (s:List UInt8)
 |nj|At|kT|pn
 |gZ (f:FuncId) (fW:List PV)
 |iface (t:TypeId) (v:PV)
 |agg (cells:List PV)
 |ep (vs:List PV)
 |sl (rows:List (List PV)) (spare:List (List PV))
 |ptr (cells:List PV)
 |mp (kg vg:Bool) (kn:Nat) (rows:List (List PV))
 deriving Inhabited
inductive AV where
 |pv (p:PV)
 |agg (cells:List AV)
 |ep (vs:List AV)
 |dB (id ver:Nat)
 |ptr (id off:Nat)
 |cW (id ver:Nat) (j:Int) (off:Nat)
 |fX (row:List PV) (off:Nat)
 |full (rows:List (List PV))
 |gZ (f:FuncId) (fW:List AV)
 |B0 (f:FuncId) (first:List AV)
 |lF (rows:List (List AV))
 |dt (id:Nat)
 |eR (id:Nat) (i:Int)
 |iJ (t:TypeId)
 |dead
 deriving Inhabited
inductive Obj where
 |cells (cs:List AV)
 |rows (sz:Nat) (rs:List (List PV)) (ver:Nat)
 |eL (rs:List (List PV)) (ver:Nat)
 |cf (sz:Nat) (rs:List (List AV)) (ver:Nat)
 |map (kg vg:Bool) (kn:Nat) (rows:List (List PV))
 |iK (rows:List (List UInt8×AV))
 |fz (s:List UInt8) (pos:Int)
 |er (src:PV) (seen:List Nat)
 |cH (t:TypeId) (rs:List (List PV)) (ver:Nat)
 deriving Inhabited
inductive bN where
 |t (i:Nat)
 |k (p:PV)
 |g (row:List PV)
 deriving Inhabited
inductive yB where
 |mv (x:bN)
 |pick (c a b:bN)
 |alloc (z:List PV)
 |box (x:bN) (n:Nat)
 |mk (z:List PV) (parts:List (Nat×Nat×bN))
 |TK (sz:Nat) (parts:List bN)
 |dB (sz:Nat) (parts:List bN)
 |ld (x:bN) (n:Option Nat)
 |st (x y:bN) (n:Nat)
 |Xi (x:bN)
 |bin (op:BinOp) (x y:bN)
 |beq (op:BinOp) (sh:List Nat) (x y:bN)
 |D5 (op:BinOp) (x y:bN)
 |D6 (op:BinOp) (x y:bN)
 |un (op:UnOp) (x:bN)
 |Xj (k:IntKind) (x:bN)
 |XW (x:bN)
 |Xk (x:bN)
 |Ri (x:bN)
 |Xl (t:TypeId) (x:bN)
 |TL (f:FuncId) (fW:List bN)
 |TN (sz bytes:Nat) (z:List PV) (l c:bN)
 |Mr (sz:Nat) (x:bN) (lo hi:Option bN)
 |ud (x:bN) (lo hi:Option bN)
 |pad (x:bN) (off:Nat)
 |idx (x i:bN) (sz:Nat)
 |TO (x i:bN) (n sz:Nat)
 |TP (x i:bN)
 |ext (x:bN) (i:Nat)
 |call (f:FuncId) (args:List bN)
 |Ca (x:bN) (args:List bN)
 |len (x:bN)
 |lens (x:bN)
 |app (sz bytes:Nat) (x y:bN)
 |TQ (mx:Bool) (x y:bN)
 |D7 (f:FuncId) (first:List bN)
 |TR (sz:Nat) (parts:List bN)
 |Ms (sz:Nat) (x:bN) (hi:bN)
 |TS (x:bN)
 |TT (x:bN) (n:Nat)
 |TU (x i:bN) (n:Nat)
 |Cb (fn:Bool) (op:BinOp) (x y:bN)
 |TV (x:bN) (off:Nat) (n:Option Nat)
 |TW (kg vg:Bool) (kn:Nat)
 |Xm
 |Rj (kg:Bool) (sh:List Nat) (n:Nat) (m k v:bN)
 |uC (kg:Bool) (sh:List Nat) (z:PV) (m k:bN)
 |Cc (n:Nat) (m s v:bN)
 |Mt (kg:Bool) (sh:List Nat) (z:PV) (ok:Bool) (m k:bN)
 |Xn (m:bN)
 |Xo (x:bN)
 |Xp (x:bN)
 |Xq (x:bN)
 |HR (x:bN)
 |HS (x:bN)
 |D8 (x:bN)
 |uf (t:TypeId) (z:List PV)
 |Xr (x:bN)
 |Xs (t:TypeId) (n:Nat) (x:bN)
 |pp (op:BinOp) (x y:bN)
 |TX (x:bN)
 |TY (t:TypeId) (x n:bN)
 |Cd (t:TypeId) (x y:bN)
 deriving Inhabited
structure AI where
 d:Option Nat
 op:yB
 g:Option (Nat×Bool):=none
 deriving Inhabited
inductive cT where
 |skip
 |vJ (ops:List AI) (lt:Option (List (List Nat)))
 |seq (a b:cT)
 |cond (c:bN) (a b:cT)
 |block (id:Nat) (b:cT)
 |loop (b:cT)
 |exit (id:Nat)
 |ret
 deriving Inhabited
structure Ar where
 wrap:IntKind→Int→Int
 add:Int→Int→Int
 sub:Int→Int→Int
 mul:Int→Int→Int
 quo:Int→Int→Int
 rem:Int→Int→Int
 bits:BinOp→IntKind→Int→Int→Int
 shl:IntKind→Int→Int→Int
 shr:IntKind→Int→Int→Int
 lt:Int→Int→Bool
 le:Int→Int→Bool
 eq:Int→Int→Bool
 not:Bool→Bool
 min:Int→Int→Int
 max:Int→Int→Int
 nz:Int→Prop
 D9:Int→Prop
 ofNat:Nat→Int
 yH:List UInt8→Int
 sat:List UInt8→Int→Int
 sin:Int→List UInt8→Prop
 Mu:List UInt8→List UInt8→List UInt8
 Mv:List UInt8→List UInt8→Prop
 Mw:List UInt8→Int→Int→List UInt8
 sbd:Int→Int→List UInt8→Prop
 seq:List UInt8→List UInt8→Bool
 slt:List UInt8→List UInt8→Bool
 nk:List (List PV)→Int
 rat:List (List PV)→Int→List PV
 wx:Int→List (List PV)→Nat→Prop
 re:List (List PV)→List (List PV)→List (List PV)
 po:List (List PV)→List (List PV)→Nat→Nat→Prop
 Rk:List (List PV)→List (List PV)→Prop
 XX:List PV→List PV→Bool
 Jh:List Nat→List PV→List PV→Prop
 bytes:List UInt8→List (List PV)
 gB:List (List PV)→List UInt8
 rW:List (List PV)→Prop
 wy:List (List PV)→Int→Int→List (List PV)
 XY:Int→Int→List (List PV)→List (List PV)→Nat→Prop
 yI:Int→Int→List (List PV)→Nat→Prop
 Mx:List (List PV)→Int→Nat→List PV→List (List PV)
 Ce:Int→List PV→List (List PV)
 Xt:Int→Int→Nat→Prop
 aat:List (List AV)→Int→List AV
 ain:Int→List (List AV)→Nat→Prop
 My:List (List AV)→Int→Nat→List AV→List (List AV)
 Au:List (List AV)→List (List AV)→List (List AV)
 Cf:List (List AV)→List (List AV)→Nat→Nat→Prop
 Mz:List (List AV)→Int
 off:Int→Nat→Nat
 Ji:Int→Nat→Prop
 Ea:List Nat→Nat→List (List PV)→List PV→Prop
 Av:Nat→List (List PV)→List PV→Bool
 Jj:Nat→List (List PV)→List PV→List PV→List PV
 zb:Nat→List (List PV)→List PV→List PV→PV
 mix:Nat→List (List PV)→List PV→Int
 Jk:Nat→List (List PV)→List PV→List PV→List (List PV)
 ug:Nat→List (List PV)→List PV→List PV→List (List PV)
 Jl:Nat→List (List PV)→Int→List PV→List (List PV)
 MA:Int→List (List PV)→Prop
 mleft:List Nat→List (List PV)→Nat→Prop
 Cg:List Nat→List (List PV)→Bool
 MB:Bool→Nat→List (List PV)→Nat→PV
 MC:Bool→Nat→List (List PV)→Nat→PV
 rune:List UInt8→Int→Int
 Eb:List UInt8→Int→Int
 MD:Int→Int→Int
structure St where
 cY:List AV
 held:List AV
 base:Nat
 mem:List (Option Obj)
 deriving Inhabited
def St.slot (st:St) (i:Nat):AV:=st.cY.getD i .dead
def St.put (st:St) (d:Option Nat) (v:AV):St:=match d with|some d=>⟨st.cY.set d v,st.held,st.base,st.mem⟩|none=>st
def St.ev (st:St):bN→AV
 |.t i=>st.slot i
 |.k (.sl [] [])=>.full []
 |.k p=>.pv p
 |.g row=>.fX row 0
def AV.cells:AV→List AV
 |.agg cs=>cs
 |.pv (.agg cs)=>cs.map .pv
 |x=>[x]
def PV.cells:PV→List PV
 |.agg cs=>cs
 |x=>[x]
inductive Out where
 |bad
 |val (v:AV)
 |dH (p:Prop) (v:AV)
 |dw (id:Nat) (o:Obj) (v:AV)
 |iL (p:Prop) (id:Nat) (o:Obj) (v:AV)
 |new (o:Obj) (v:AV)
 |km (p:Prop) (o:Obj) (v:AV)
 |call (f:FuncId) (args:List AV)
 |all (p:Nat→Prop) (id:Nat) (o:Nat→Obj) (v:Nat→AV)
inductive tZ where
 |pure (o:Out)
 |rd (id:Nat) (k:Obj→Out)
def AV.mR:List AV→Option (List PV)
 |[]=>some []
 |.pv p::r=>match AV.mR r with|some r=>some (p::r)|none=>none
 |.full rows::r=>match AV.mR r with|some r=>some (.sl rows []::r)|none=>none
 |_::_=>none
def AV.flat:AV→Option PV
 |.pv p=>some p
 |.full rows=>some (.sl rows [])
 |.agg cs=>match AV.mR cs with|some cs=>some (.agg cs)|none=>none
 |.gZ f fW=>match AV.mR fW with|some cs=>some (.gZ f cs)|none=>none
 |_=>none
def AV.one:AV→Bool
 |.agg _|.ep _|.dead|.iJ _|.pv (.agg _)|.pv (.ep _)=>false
 |_=>true
def PV.laid:PV→AV
 |.sl [] []=>.full []
 |p=>.pv p
def fr:List AV→Bool
 |[]=>true
 |x::r=>match x.one with|true=>fr r|false=>false
def place (off:Nat) (vs:List AV) (cs:List AV):List AV:=cs.take off++vs++cs.drop (off+vs.length)
def np (off:Nat) (vs:List PV) (cs:List PV):List PV:=cs.take off++vs++cs.drop (off+vs.length)
def jP (cs:List AV) (off:Nat) (n:Option Nat):Out:=
 match n with
 |none=>match cs[off]? with|some v=>.val v|none=>.bad
 |some n=>if off+n≤cs.length then .val (.agg ((cs.drop off).take n))else .bad
def iB (cs:List PV) (off:Nat) (n:Option Nat):Out:=
 match n with
 |none=>match cs[off]? with|some v=>.val (.pv v)|none=>.bad
 |some n=>if off+n≤cs.length then .val (.pv (.agg ((cs.drop off).take n)))else .bad
def vT (A:Ar) (x:AV) (n:Option Nat):tZ:=
 match x with
 |.ptr id off=>.rd id fun o=>match o with
  |.cells cs=>jP cs off n
  |_=>.bad
 |.cW id ver j off=>.rd id fun o=>match o with
  |.rows _ rs bo=>match ver==bo with|true=>iB (A.rat rs j) off n|false=>.bad
  |.eL rs bo=>match ver==bo with|true=>iB (A.rat rs j) off n|false=>.bad
  |.cf _ rs bo=>match ver==bo with|true=>jP (A.aat rs j) off n|false=>.bad
  |_=>.bad
 |.fX row off=>.pure (iB row off n)
 |.pv (.ptr row)=>.pure (iB row 0 n)
 |_=>.pure .bad
def sS (A:Ar) (x y:AV) (n:Nat):tZ:=
 match x with
 |.ptr id off=>.rd id fun o=>match o with
  |.cells cs=>match fr y.cells with
   |true=>if y.cells.length=n∧off+n≤cs.length then .dw id (.cells (place off y.cells cs)) .dead else .bad
   |false=>.bad
  |_=>.bad
 |.cW id ver j off=>match fr y.cells with
  |true=>.rd id fun o=>match o with
   |.rows sz rs bo=>match AV.mR y.cells with
    |some ys=>match ver==bo with
     |true=>if ys.length=n∧off+n≤sz then .dw id (.rows sz (A.Mx rs j off ys) ver) .dead else .bad
     |false=>.bad
    |none=>.bad
   |.cf sz rs bo=>match ver==bo with
     |true=>if y.cells.length=n∧off+n≤sz then .dw id (.cf sz (A.My rs j off y.cells) ver) .dead else .bad
     |false=>.bad
   |_=>.bad
  |false=>.pure .bad
 |_=>.pure .bad
def wz (A:Ar) (op:BinOp) (k:IntKind) (a b:Int):Out:=
 match op with
 |.add=>.val (.pv (.int k (A.wrap k (A.add a b))))
 |.sub=>.val (.pv (.int k (A.wrap k (A.sub a b))))
 |.mul=>.val (.pv (.int k (A.wrap k (A.mul a b))))
 |.quo=>.dH (A.nz b) (.pv (.int k (A.wrap k (A.quo a b))))
 |.rem=>.dH (A.nz b) (.pv (.int k (A.rem a b)))
 |.lss=>.val (.pv (.bool (A.lt a b)))
 |.leq=>.val (.pv (.bool (A.le a b)))
 |.gtr=>.val (.pv (.bool (A.lt b a)))
 |.geq=>.val (.pv (.bool (A.le b a)))
 |.eql=>.val (.pv (.bool (A.eq a b)))
 |.neq=>.val (.pv (.bool (A.not (A.eq a b))))
 |.and=>.val (.pv (.int k (A.bits .and k a b)))
 |.or=>.val (.pv (.int k (A.bits .or k a b)))
 |.xor=>.val (.pv (.int k (A.bits .xor k a b)))
 |.andNot=>.val (.pv (.int k (A.bits .andNot k a b)))
 |_=>.bad
def wA (A:Ar) (op:BinOp) (a b:List UInt8):Out:=
 match op with
 |.add=>.dH (A.Mv a b) (.pv (.str (A.Mu a b)))
 |.eql=>.val (.pv (.bool (A.seq a b)))
 |.neq=>.val (.pv (.bool (A.not (A.seq a b))))
 |.lss=>.val (.pv (.bool (A.slt a b)))
 |_=>.bad
def vU (op:BinOp) (a b:Bool):Out:=
 match op with
 |.eql=>.val (.pv (.bool (match a with|true=>b|false=>(match b with|true=>false|false=>true))))
 |.neq=>.val (.pv (.bool (match b with|true=>(match a with|true=>false|false=>true)|false=>a)))
 |_=>.bad
def zc (A:Ar) (op:BinOp) (x y:AV):Out:=
 match x,y with
 |.pv (.int k a),.pv (.int k' b)=>match op with
  |.shl=>.dH (A.D9 b) (.pv (.int k (A.shl k a b)))
  |.shr=>.dH (A.D9 b) (.pv (.int k (A.shr k a b)))
  |op=>if k=k' then wz A op k a b else .bad
 |.pv (.str a),.pv (.str b)=>wA A op a b
 |_,_=>.bad
def Aw (op:BinOp) (x y:AV):Out:=
 match x,y with
 |.pv (.bool a),.pv (.bool b)=>vU op a b
 |_,_=>.bad
def F1 (op:BinOp) (x y:AV):Out:=
 match x.flat,y.flat with
 |some p,some q=>match p,q with
  |.kT,.kT=>match op with|.eql=>.val (.pv (.bool true))|.neq=>.val (.pv (.bool false))|_=>.bad
  |.kT,.iface ..=>match op with|.eql=>.val (.pv (.bool false))|.neq=>.val (.pv (.bool true))|_=>.bad
  |.iface ..,.kT=>match op with|.eql=>.val (.pv (.bool false))|.neq=>.val (.pv (.bool true))|_=>.bad
  |_,_=>.bad
 |_,_=>.bad
def nJ (op:BinOp) (b:Bool):Out:=
 match op with
 |.eql=>.val (.pv (.bool b))
 |.neq=>.val (.pv (.bool (match b with|true=>false|false=>true)))
 |_=>.bad
def F2 (fn:Bool) (op:BinOp) (x y:AV):Out:=
 match fn with
 |false=>match y with
  |.pv .nj=>match x with
   |.pv .nj=>nJ op true
   |.iJ _=>nJ op true
   |.ptr _ _|.fX _ _|.pv (.ptr _)=>nJ op false
   |_=>.bad
  |_=>.bad
 |true=>match y with
  |.pv .At=>match x with
   |.pv .At=>nJ op true
   |.gZ _ _|.B0 _ _|.pv (.gZ _ _)=>nJ op false
   |_=>.bad
  |_=>.bad
def Ch (A:Ar) (op:BinOp) (sh:List Nat) (x y:AV):Out:=
 match x.flat,y.flat with
 |some (.agg xs),some (.agg ys)=>match op with
  |.eql=>.dH (A.Jh sh xs ys) (.pv (.bool (A.XX xs ys)))
  |.neq=>.dH (A.Jh sh xs ys) (.pv (.bool (A.not (A.XX xs ys))))
  |_=>.bad
 |_,_=>.bad
def ME (A:Ar) (op:UnOp) (x:AV):Out:=
 match op,x with
 |.not,.pv (.bool true)=>.val (.pv (.bool false))
 |.not,.pv (.bool false)=>.val (.pv (.bool true))
 |.neg,.pv (.int k n)=>.val (.pv (.int k (A.wrap k (A.sub 0 n))))
 |_,_=>.bad
def ot (A:Ar) (sz:Nat) (x:AV) (lo hi:Option Int):Out:=
 match x with
 |.pv (.sl rows spare)=>
  let l:=lo.getD 0
  match hi with
  |none=>.dH (A.yI l (A.nk rows) rows sz) (.pv (.sl (A.wy rows l (A.nk rows)) spare))
  |some h=>match spare with
   |[]=>.dH (A.yI l h rows sz) (.pv (.sl (A.wy rows l h) []))
   |s=>.dH (A.XY l h rows s sz) (.pv (.sl (A.wy (A.re rows s) l h) []))
 |.full rows=>
  let l:=lo.getD 0
  match hi with
  |none=>.dH (A.yI l (A.nk rows) rows sz) (.full (A.wy rows l (A.nk rows)))
  |some h=>.dH (A.yI l h rows sz) (.pv (.sl (A.wy rows l h) []))
 |_=>.bad
def nK (A:Ar) (sz:Nat) (x:AV) (lo hi:Option Int):tZ:=
 match x with
 |.dB id ver=>.rd id fun o=>match o with
   |.eL rs bo=>match ver==bo with|true=>ot A sz (.pv (.sl rs [])) lo hi|false=>.bad
   |.rows _ rs bo=>match ver==bo with
    |true=>.iL (A.yI (lo.getD 0) (hi.getD (A.nk rs)) rs sz) id (.eL rs ver)
      (.pv (.sl (A.wy rs (lo.getD 0) (hi.getD (A.nk rs))) (A.wy rs (hi.getD (A.nk rs)) (A.nk rs))))
    |false=>.bad
   |_=>.bad
 |x=>.pure (ot A sz x lo hi)
def sT (A:Ar) (sz:Nat) (x:AV) (h:Int):tZ:=
 match x with
 |.dB id ver=>.rd id fun o=>match o with
   |.rows mM rs bo=>match ver==bo with
    |true=>.iL (A.yI 0 h rs sz) id (.rows mM (A.wy rs 0 h) (ver+1)) (.dB id (ver+1))
    |false=>.bad
   |_=>.bad
 |_=>.pure .bad
def pJ (A:Ar) (x:AV) (lo hi:Option Int):Out:=
 match x with
 |.pv (.str s)=>.dH (A.sbd (lo.getD 0) (hi.getD (A.yH s)) s) (.pv (.str (A.Mw s (lo.getD 0) (hi.getD (A.yH s)))))
 |_=>.bad
def Ax (A:Ar) (x:AV) (j:Int) (sz:Nat):tZ:=
 match x with
 |.pv (.sl rows _)=>.pure (.dH (A.wx j rows sz) (.fX (A.rat rows j) 0))
 |.full rows=>.pure (.dH (A.wx j rows sz) (.fX (A.rat rows j) 0))
 |.dB id ver=>.rd id fun o=>match o with
   |.rows _ rs bo=>match ver==bo with|true=>.dH (A.wx j rs sz) (.cW id ver j 0)|false=>.bad
   |.eL rs bo=>match ver==bo with|true=>.dH (A.wx j rs sz) (.cW id ver j 0)|false=>.bad
   |.cf _ rs bo=>match ver==bo with|true=>.dH (A.ain j rs sz) (.cW id ver j 0)|false=>.bad
   |_=>.bad
 |_=>.pure .bad
def Ay (A:Ar) (x:AV):tZ:=
 match x with
 |.pv (.sl rows _)=>.pure (.val (.pv (.int .i64 (A.nk rows))))
 |.full rows=>.pure (.val (.pv (.int .i64 (A.nk rows))))
 |.dB id ver=>.rd id fun o=>match o with
   |.rows _ rs bo=>match ver==bo with|true=>.val (.pv (.int .i64 (A.nk rs)))|false=>.bad
   |.eL rs bo=>match ver==bo with|true=>.val (.pv (.int .i64 (A.nk rs)))|false=>.bad
   |.cf _ rs bo=>match ver==bo with|true=>.val (.pv (.int .i64 (A.Mz rs)))|false=>.bad
   |.cH _ rs bo=>match ver==bo with|true=>.val (.pv (.int .i64 (A.nk rs)))|false=>.bad
   |_=>.bad
 |.lF rows=>.pure (.val (.pv (.int .i64 (A.Mz rows))))
 |_=>.pure .bad
def gU (A:Ar) (x:AV):Option (List (List PV)):=
 match x with
 |.pv (.sl rows _)=>some rows
 |.full rows=>some rows
 |.pv (.str s)=>some (A.bytes s)
 |_=>none
def qM (A:Ar) (x:AV):Option (List (List AV)):=
 match x with
 |.lF rows=>some rows
 |x=>match gU A x with|some rows=>some (rows.map (·.map .pv))|none=>none
def isAfull:AV→Bool
 |.lF _=>true
 |_=>false
def vV:List (List PV)→AV→Bool
 |_::_,.full []=>true
 |_,_=>false
def Az (A:Ar) (k:Nat) (sz bytes:Nat) (x:AV) (y:AV):tZ:=
 match x with
  |.full xs=>match vV xs y with
   |true=>.pure (.val (.full xs))
   |false=>match gU A y with
    |some ys=>.pure (.km (A.po xs ys bytes sz∧A.Rk xs ys) (.rows sz (A.re xs ys) 0) (.dB k 0))
    |none=>match y with
     |.lF ys=>.pure (.km (A.Cf (xs.map (·.map .pv)) ys bytes sz∧ys≠[]) (.cf sz (A.Au (xs.map (·.map .pv)) ys) 0) (.dB k 0))
     |_=>.pure .bad
  |.dB id ver=>.rd id fun o=>match o with
    |.rows mM rs bo=>match sz==mM with
     |true=>match ver==bo with
      |true=>match gU A y with
       |some ys=>.iL (A.po rs ys bytes sz) id (.rows sz (A.re rs ys) (ver+1)) (.dB id (ver+1))
       |none=>.bad
      |false=>.bad
     |false=>.bad
    |.cf mM rs bo=>match sz==mM with
     |true=>match ver==bo with
      |true=>match qM A y with
       |some ys=>.iL (A.Cf rs ys bytes sz) id (.cf sz (A.Au rs ys) (ver+1)) (.dB id (ver+1))
       |none=>.bad
      |false=>.bad
     |false=>.bad
    |_=>.bad
  |_=>.pure .bad
def da (ρ:bN→AV):Option bN→Option (Option Int)
 |none=>some none
 |some x=>match ρ x with|.pv (.int _ n)=>some (some n)|_=>none
def fA (sz:Nat) (ρ:bN→AV):List bN→Option (List (List PV))
 |[]=>some []
 |x::r=>match(ρ x).flat with
  |some p=>match p.cells.length==sz with
   |true=>match fA sz ρ r with|some rs=>some (p.cells::rs)|none=>none
   |false=>none
  |none=>none
def fB (sz:Nat) (ρ:bN→AV):List bN→Option (List (List AV))
 |[]=>some []
 |x::r=>match fr (ρ x).cells with
  |true=>match(ρ x).cells.length==sz with
   |true=>match fB sz ρ r with|some rs=>some ((ρ x).cells::rs)|none=>none
   |false=>none
  |false=>none
def TZ:AV→Bool
 |.full []=>true
 |_=>false
def wB (ρ:bN→AV):List bN→Bool
 |[]=>false
 |x::r=>match TZ (ρ x)with|true=>true|false=>wB ρ r
def rX (sz:Nat) (ρ:bN→AV) (parts:List bN):Option (List (List PV)):=
 match wB ρ parts with
 |true=>none
 |false=>fA sz ρ parts
def PV.isAgg:PV→Bool
 |.agg _=>true
 |_=>false
def keyOf (kg:Bool) (kn:Nat) (x:AV):Option (List PV):=
 match x.flat with
 |some p=>match p.isAgg==kg with
  |true=>match p.cells.length==kn with|true=>some p.cells|false=>none
  |false=>none
 |none=>none
def uY (A:Ar) (vg:Bool) (kn:Nat) (rows:List (List PV)) (k z:List PV):AV:=
 match vg with
 |true=>.pv (.agg (A.Jj kn rows k z))
 |false=>.pv (A.zb kn rows k z)
def vK (ok:Bool) (v:AV) (b:Bool):AV:=
 match ok with
 |true=>.ep [v,.pv (.bool b)]
 |false=>v
def ko (A:Ar) (k:List UInt8) (z:AV) (ok:Bool):List (List UInt8×AV)→Out
 |[]=>.val (vK ok z false)
 |(s,v)::r=>match A.seq k s with
  |true=>.val (vK ok v true)
  |false=>ko A k z ok r
def MF (s:List UInt8):List (List UInt8×AV)→Prop
 |[]=>True
 |(t,_)::r=>s≠t∧MF s r
def pK (kg:Bool) (sh:List Nat) (k:AV):Option (List UInt8):=
 match kg with
 |true=>none
 |false=>match sh with
  |[2]=>match k with
   |.pv (.str s)=>some s
   |_=>none
  |_=>none
def wC (A:Ar) (kg:Bool) (sh:List Nat) (z:PV) (ok:Bool) (m k:AV):tZ:=
 match m with
 |.pv .pn=>match keyOf kg sh.length k with
  |some kc=>.pure (.dH (A.Ea sh sh.length [] kc) (vK ok (.pv z) false))
  |none=>.pure .bad
 |.pv (.mp rh vg kn rows)=>match(match kg==rh with|true=>z.isAgg==vg|false=>false)with
  |true=>match keyOf kg kn k with
   |some kc=>.pure (.dH (A.Ea sh kn rows kc) (vK ok (uY A vg kn rows kc z.cells) (A.Av kn rows kc)))
   |none=>.pure .bad
  |false=>.pure .bad
 |.dt id=>.rd id fun o=>match o with
  |.map rh vg kn rows=>match(match kg==rh with|true=>z.isAgg==vg|false=>false)with
   |true=>match keyOf kg kn k with
    |some kc=>.dH (A.Ea sh kn rows kc) (vK ok (uY A vg kn rows kc z.cells) (A.Av kn rows kc))
    |none=>.bad
   |false=>.bad
  |.iK rows=>match pK kg sh k with
   |some s=>ko A s (.pv z) ok rows
   |none=>.bad
  |_=>.bad
 |_=>.pure .bad
def F3 (A:Ar) (kg:Bool) (sh:List Nat) (n:Nat) (m k v:AV):tZ:=
 match m with
 |.dt id=>.rd id fun o=>match o with
  |.map rh vg kn rows=>match kg==rh with
   |true=>match keyOf kg kn k with
    |some kc=>match keyOf vg n v with
     |some vc=>.iL (A.Ea sh kn rows kc) id (.map rh vg kn (A.Jk kn rows kc vc)) .dead
     |none=>.bad
    |none=>.bad
   |false=>.bad
  |.iK rows=>match pK kg sh k with
   |some s=>match v.one with
    |true=>.iL (MF s rows) id (.iK (rows++[(s,v)])) .dead
    |false=>.bad
   |none=>.bad
  |_=>.bad
 |_=>.pure .bad
def wD (A:Ar) (kg:Bool) (sh:List Nat) (z:PV) (m k:AV):tZ:=
 match m with
 |.dt id=>.rd id fun o=>match o with
  |.map rh vg kn rows=>match(match kg==rh with|true=>z.isAgg==vg|false=>false)with
   |true=>match keyOf kg kn k with
    |some kc=>.iL (A.Ea sh kn rows kc) id (.map rh vg kn (A.ug kn rows kc z.cells)) (.ep [uY A vg kn rows kc z.cells,.eR id (A.mix kn rows kc)])
    |none=>.bad
   |false=>.bad
  |_=>.bad
 |_=>.pure .bad
def AA (A:Ar) (n:Nat) (m s v:AV):tZ:=
 match m,s with
 |.dt id,.eR pH i=>match id==pH with
  |true=>.rd id fun o=>match o with
   |.map kg vg kn rows=>match keyOf vg n v with
    |some vc=>.iL (A.MA i rows) id (.map kg vg kn (A.Jl kn rows i vc)) .dead
    |none=>.bad
   |_=>.bad
  |false=>.pure .bad
 |_,_=>.pure .bad
def vW (A:Ar) (m:AV):tZ:=
 match m with
 |.pv .pn=>.pure (.val (.pv (.int .i64 0)))
 |.pv (.mp _ _ _ rows)=>.pure (.val (.pv (.int .i64 (A.nk rows))))
 |.dt id=>.rd id fun o=>match o with
  |.map _ _ _ rows=>.val (.pv (.int .i64 (A.nk rows)))
  |_=>.bad
 |_=>.pure .bad
def AB (A:Ar) (x:AV):tZ:=
 match x with
 |.ptr id 0=>.rd id fun o=>match o with
  |.fz s pos=>match A.lt pos (A.yH s)with
   |true=>.dw id (.fz s (A.MD pos (A.Eb s pos))) (.pv (.ep [.bool true,.int .i64 pos,.int .i32 (A.rune s pos)]))
   |false=>.val (.pv (.ep [.bool false]))
  |_=>.bad
 |_=>.pure .bad
def AD (A:Ar) (x:AV):tZ:=
 match x with
 |.ptr id 0=>.rd id fun o=>match o with
  |.er .pn _=>.val (.pv (.ep [.bool false]))
  |.er (.mp kg vg kn rows) seen=>match A.Cg seen rows with
   |true=>.val (.pv (.ep [.bool false]))
   |false=>.all (fun i=>A.mleft seen rows i) id (fun i=>.er (.mp kg vg kn rows) (i::seen)) (fun i=>.pv (.ep [.bool true,A.MB kg kn rows i,A.MC vg kn rows i]))
  |_=>.bad
 |_=>.pure .bad
def vX (A:Ar) (x:AV):tZ:=
 match x with
 |.ptr id 0=>.rd id fun o=>match o with
  |.er (.mp kg vg kn rows) (i::_)=>.val (.pv (.ep [A.MB kg kn rows i,A.MC vg kn rows i]))
  |_=>.bad
 |_=>.pure .bad
def jQ (ρ:bN→AV):List (Nat×Nat×bN)→List AV→Option (List AV)
 |[],cs=>some cs
 |(off,n,x)::r,cs=>match(match fr (ρ x).cells with|true=>(ρ x).cells.length==n|false=>false)with
  |true=>match decide (off+n≤cs.length)with
   |true=>jQ ρ r (place off (ρ x).cells cs)
   |false=>none
  |false=>none
def b6 (A:Ar) (d:Nat) (op:yB) (ρ:bN→AV):tZ:=
 match op with
 |.mv x=>.pure (.val (ρ x))
 |.pick c a b=>match ρ c with
  |.pv (.bool true)=>.pure (.val (ρ a))
  |.pv (.bool false)=>.pure (.val (ρ b))
  |_=>.pure .bad
 |.alloc z=>.pure (.new (.cells (z.map PV.laid)) (.ptr d 0))
 |.box x n=>match fr (ρ x).cells with
  |true=>match(ρ x).cells.length==n with|true=>.pure (.new (.cells (ρ x).cells) (.ptr d 0))|false=>.pure .bad
  |false=>.pure .bad
 |.mk z parts=>match jQ ρ parts (z.map PV.laid)with|some cs=>.pure (.val (.agg cs))|none=>.pure .bad
 |.TK sz parts=>match rX sz ρ parts with
  |some rows=>.pure (.val (.full rows))
  |none=>match fB sz ρ parts with|some rows=>.pure (.val (.lF rows))|none=>.pure .bad
 |.dB sz parts=>match fA sz ρ parts with|some rows=>.pure (.new (.rows sz rows 0) (.dB d 0))|none=>.pure .bad
 |.TR sz parts=>match fB sz ρ parts with|some rows=>.pure (.new (.cf sz rows 0) (.dB d 0))|none=>.pure .bad
 |.ld x n=>vT A (ρ x) n
 |.st x y n=>sS A (ρ x) (ρ y) n
 |.Xi x=>match ρ x with
  |.ptr id off=>.pure (.val (.ptr id off))
  |.fX r o=>.pure (.val (.fX r o))
  |.gZ f c=>.pure (.val (.gZ f c))
  |.pv (.gZ f c)=>.pure (.val (.pv (.gZ f c)))
  |.pv (.ptr c)=>.pure (.val (.pv (.ptr c)))
  |.B0 f c=>.pure (.val (.B0 f c))
  |.cW id ver j off=>.rd id fun ob=>match ob with
   |.rows _ _ bo=>match ver==bo with|true=>.val (.cW id ver j off)|false=>.bad
   |.cf _ _ bo=>match ver==bo with|true=>.val (.cW id ver j off)|false=>.bad
   |_=>.bad
  |_=>.pure .bad
 |.bin op x y=>.pure (zc A op (ρ x) (ρ y))
 |.beq op sh x y=>.pure (Ch A op sh (ρ x) (ρ y))
 |.D5 op x y=>.pure (Aw op (ρ x) (ρ y))
 |.D6 op x y=>.pure (F1 op (ρ x) (ρ y))
 |.un op x=>.pure (ME A op (ρ x))
 |.Xj k x=>match ρ x with
  |.pv (.int _ n)=>.pure (.val (.pv (.int k (A.wrap k n))))
  |_=>.pure .bad
 |.Xk x=>match ρ x with
  |.pv (.str s)=>.pure (.val (.pv (.str s)))
  |_=>.pure .bad
 |.XW x=>match ρ x with
  |.pv (.str s)=>.pure (.val (.pv (.sl (A.bytes s) [])))
  |_=>.pure .bad
 |.Ri x=>match ρ x with
  |.pv (.sl rows _)=>.pure (.dH (A.rW rows) (.pv (.str (A.gB rows))))
  |.full rows=>.pure (.dH (A.rW rows) (.pv (.str (A.gB rows))))
  |.dB id ver=>.rd id fun o=>match o with
   |.rows _ rs bo=>match ver==bo with|true=>.dH (A.rW rs) (.pv (.str (A.gB rs)))|false=>.bad
   |.eL rs bo=>match ver==bo with|true=>.dH (A.rW rs) (.pv (.str (A.gB rs)))|false=>.bad
   |_=>.bad
  |_=>.pure .bad
 |.Xl t x=>match(ρ x).flat with
  |some p=>.pure (.val (.pv (.iface t p)))
  |none=>.pure .bad
 |.TL f fW=>.pure (.val (.gZ f (fW.map ρ)))
 |.TN sz bytes z l c=>match ρ l,ρ c with
  |.pv (.int .i64 l),.pv (.int .i64 c)=>.pure (.km (A.Xt l c bytes) (.rows sz (A.Ce l z) 0) (.dB d 0))
  |_,_=>.pure .bad
 |.Mr sz x lo hi=>match da ρ lo,da ρ hi with
  |some l,some h=>nK A sz (ρ x) l h
  |_,_=>.pure .bad
 |.ud x lo hi=>match da ρ lo,da ρ hi with
  |some l,some h=>.pure (pJ A (ρ x) l h)
  |_,_=>.pure .bad
 |.pad x off=>match ρ x with
  |.ptr id o=>.pure (.val (.ptr id (o+off)))
  |.fX row o=>.pure (.val (.fX row (o+off)))
  |.cW id ver j o=>.rd id fun ob=>match ob with
   |.rows _ _ bo=>match ver==bo with|true=>.val (.cW id ver j (o+off))|false=>.bad
   |.eL _ bo=>match ver==bo with|true=>.val (.cW id ver j (o+off))|false=>.bad
   |.cf _ _ bo=>match ver==bo with|true=>.val (.cW id ver j (o+off))|false=>.bad
   |_=>.bad
  |.pv (.ptr row)=>.pure (.val (.fX row off))
  |_=>.pure .bad
 |.idx x i sz=>match ρ i with
  |.pv (.int _ j)=>Ax A (ρ x) j sz
  |_=>.pure .bad
 |.TP x i=>match ρ x,ρ i with
  |.pv (.str s),.pv (.int _ j)=>.pure (.dH (A.sin j s) (.pv (.int .u8 (A.sat s j))))
  |_,_=>.pure .bad
 |.ext x i=>match ρ x with
  |.pv (.ep vs)=>match vs[i]? with|some v=>.pure (.val (.pv v))|none=>.pure .bad
  |.ep vs=>match vs[i]? with|some v=>.pure (.val v)|none=>.pure .bad
  |_=>.pure .bad
 |.call f args=>.pure (.call f (args.map ρ))
 |.Ca x args=>match ρ x with
  |.pv (.gZ f fW)=>.pure (.call f (args.map ρ++fW.map .pv))
  |.gZ f fW=>.pure (.call f (args.map ρ++fW))
  |.B0 f first=>.pure (.call f (first++args.map ρ))
  |_=>.pure .bad
 |.len x=>Ay A (ρ x)
 |.lens x=>match ρ x with|.pv (.str s)=>.pure (.val (.pv (.int .i64 (A.yH s))))|_=>.pure .bad
 |.app sz bytes x y=>Az A d sz bytes (ρ x) (ρ y)
 |.TQ mx x y=>match ρ x,ρ y with
  |.pv (.int k n),.pv (.int _ m)=>.pure (.val (.pv (.int k (match mx with|true=>A.max n m|false=>A.min n m))))
  |_,_=>.pure .bad
 |.TO x i n sz=>match ρ x,ρ i with
  |.ptr id o,.pv (.int _ j)=>.pure (.dH (A.Ji j n) (.ptr id (o+A.off j sz)))
  |.fX row o,.pv (.int _ j)=>.pure (.dH (A.Ji j n) (.fX row (o+A.off j sz)))
  |_,_=>.pure .bad
 |.D7 f first=>.pure (.val (.B0 f (first.map ρ)))
 |.Ms sz x hi=>match ρ hi with
  |.pv (.int _ h)=>sT A sz (ρ x) h
  |_=>.pure .bad
 |.TS x=>match ρ x with
  |.pv (.sl _ _)|.full _=>.pure (.val (.full []))
  |.dB id ver=>.rd id fun ob=>match ob with
   |.rows _ _ bo=>match ver==bo with|true=>.val (.full [])|false=>.bad
   |.eL _ bo=>match ver==bo with|true=>.val (.full [])|false=>.bad
   |_=>.bad
  |_=>.pure .bad
 |.TU x i n=>match ρ x,ρ i with
  |.agg cs,.pv (.int _ j)=>match cs.length==n with
   |true=>.pure (.dH (A.Ji j n) (cs.getD (A.off j 1) .dead))
   |false=>.pure .bad
  |.pv (.agg ps),.pv (.int _ j)=>match ps.length==n with
   |true=>.pure (.dH (A.Ji j n) (.pv (ps.getD (A.off j 1) .nj)))
   |false=>.pure .bad
  |_,_=>.pure .bad
 |.TT x n=>match ρ x with
  |.fX row off=>match Nat.ble (off+n) row.length with
   |true=>.pure (.val (.full (((row.drop off).take n).map fun p=>[p])))
   |false=>.pure .bad
  |_=>.pure .bad
 |.Cb fn op x y=>.pure (F2 fn op (ρ x) (ρ y))
 |.TV x off n=>match ρ x with
  |.agg cs=>.pure (jP cs off n)
  |.pv (.agg ps)=>.pure (iB ps off n)
  |_=>.pure .bad
 |.TW kg vg kn=>.pure (.new (.map kg vg kn []) (.dt d))
 |.Xm=>.pure (.new (.iK []) (.dt d))
 |.Rj kg sh n m k v=>F3 A kg sh n (ρ m) (ρ k) (ρ v)
 |.uC kg sh z m k=>wD A kg sh z (ρ m) (ρ k)
 |.Cc n m s v=>AA A n (ρ m) (ρ s) (ρ v)
 |.Mt kg sh z ok m k=>wC A kg sh z ok (ρ m) (ρ k)
 |.Xn m=>vW A (ρ m)
 |.Xo x=>match ρ x with
  |.pv (.str s)=>.pure (.new (.fz s 0) (.ptr d 0))
  |_=>.pure .bad
 |.Xp x=>AB A (ρ x)
 |.Xq x=>match ρ x with
  |.pv (.mp kg vg kn rows)=>.pure (.new (.er (.mp kg vg kn rows) []) (.ptr d 0))
  |.pv .pn=>.pure (.new (.er .pn []) (.ptr d 0))
  |_=>.pure .bad
 |.HR x=>AD A (ρ x)
 |.HS x=>vX A (ρ x)
 |.D8 x=>match ρ x with
  |.pv (.sl rows _)=>.pure (.dH (A.Rk [[]] rows) (.pv (.bool false)))
  |_=>.pure .bad
 |.uf t z=>match z with
  |.nj::r=>.pure (.new (.cells (.iJ t::r.map PV.laid)) (.ptr d 0))
  |_=>.pure .bad
 |.Xr x=>match ρ x with
  |.ptr id off=>.rd id fun o=>match o with
   |.cells cs=>match Nat.ble (off+1) cs.length with
    |true=>.val (.ptr id off)
    |false=>.bad
   |_=>.bad
  |_=>.pure .bad
 |.Xs t n x=>match ρ x with
  |.ptr id 0=>.rd id fun o=>match o with
   |.cells (.iJ t'::r)=>match t==t' with
    |true=>match(r.length+1)==n with
     |true=>.val (.ptr id 0)
     |false=>.bad
    |false=>.bad
   |_=>.bad
  |_=>.pure .bad
 |.pp op x y=>match ρ x with
  |.ptr i o=>match ρ y with
   |.ptr j q=>match i==j with
    |true=>match o==q with
     |true=>.pure (nJ op true)
     |false=>.pure .bad
    |false=>.pure .bad
   |_=>.pure .bad
  |_=>.pure .bad
 |.TX x=>match ρ x with
  |.dB id ver=>.rd id fun o=>match o with
   |.cH _ rs bo=>match ver==bo with
    |true=>.dH (A.wx 0 rs 1) (.cW id ver 0 0)
    |false=>.bad
   |_=>.bad
  |_=>.pure .bad
 |.TY t x n=>match ρ n with
  |.pv (.int k n)=>match k with
   |.i64=>match ρ x with
    |.cW id ver j 0=>.rd id fun o=>match o with
     |.cH t' rs bo=>match t==t' with
      |true=>match ver==bo with
       |true=>.iL (A.rW rs∧n=A.nk rs∧j=0∧A.po rs [] 1 1) id (.eL rs ver) (.pv (.str (A.gB rs)))
       |false=>.bad
      |false=>.bad
     |_=>.bad
    |_=>.pure .bad
   |_=>.pure .bad
  |_=>.pure .bad
 |.Cd t x y=>match gU A (ρ y)with
  |some ys=>match ρ x with
   |.full []=>.pure (.km (A.po [] ys 1 1∧ys≠[]) (.cH t ys 0) (.dB d 0))
   |.dB id ver=>.rd id fun o=>match o with
    |.cH t' rs bo=>match t==t' with
     |true=>match ver==bo with
      |true=>.iL (A.po rs ys 1 1∧ys≠[]) id (.cH t (A.re rs ys) (ver+1)) (.dB id (ver+1))
      |false=>.bad
     |false=>.bad
    |_=>.bad
   |_=>.pure .bad
  |none=>.pure .bad
end Go.Am
end
section
namespace Go.Am
def aA (mem:List (Option Obj)) (id:Nat):Option Obj:=mem.getD id none
def rY (mem:List (Option Obj)) (id:Nat) (o:Obj):List (Option Obj):=
 match Nat.ble (id+1) mem.length with
 |true=>mem.set id (some o)
 |false=>mem++[some o]
def nL (mem:List (Option Obj)):AV→Option (PV×Bool)
 |.pv p=>some (p,false)
 |.full rows=>some (.sl rows [],false)
 |.dB id ver=>match aA mem id with
  |some (.rows _ rs bo)=>match ver==bo with|true=>some (.sl rs [],true)|false=>none
  |some (.eL rs bo)=>match ver==bo with|true=>some (.sl rs [],false)|false=>none
  |_=>none
 |.dt id=>match aA mem id with
  |some (.map kg vg kn rows)=>some (.mp kg vg kn rows,true)
  |_=>none
 |_=>none
def ou (mem:List (Option Obj)):List AV→Option (List PV×Bool)
 |[]=>some ([],false)
 |x::r=>match nL mem x with
  |some (p,b)=>match ou mem r with
   |some (ps,b')=>some (p::ps,match b with|true=>true|false=>b')
   |none=>none
  |none=>none
def mS (mem:List (Option Obj)):AV→Option (PV×Bool)
 |.ptr id 0=>match aA mem id with
  |some (.cells cs)=>match ou mem cs with
   |some (ps,_)=>some (.ptr ps,true)
   |none=>none
  |_=>none
 |.agg cs=>match ou mem cs with
  |some (ps,b)=>some (.agg ps,b)
  |none=>none
 |x=>nL mem x
def uh (mem:List (Option Obj)):List AV→Option (List PV×Bool)
 |[]=>some ([],false)
 |x::r=>match mS mem x with
  |some (p,b)=>match uh mem r with
   |some (ps,b')=>some (p::ps,match b with|true=>true|false=>b')
   |none=>none
  |none=>none
def mT (mem:List (Option Obj)):AV→Option (PV×Bool)
 |.gZ f cs=>match uh mem cs with
  |some (ps,b)=>some (.gZ f ps,b)
  |none=>none
 |.ep cs=>match uh mem cs with
  |some (ps,b)=>some (.ep ps,b)
  |none=>none
 |x=>mS mem x
def et (mem:List (Option Obj)):List AV→Option (List PV×Bool)
 |[]=>some ([],false)
 |x::r=>match mT mem x with
  |some (p,b)=>match et mem r with
   |some (ps,b')=>some (p::ps,match b with|true=>true|false=>b')
   |none=>none
  |none=>none
def pL:List PV→Bool
 |[]=>true
 |.bool _::r|.int _ _::r|.str _::r=>pL r
 |_=>false
def ov:List PV→Bool
 |[]=>true
 |.bool _::r|.int _ _::r|.str _::r=>ov r
 |.agg cs::r=>match pL cs with|true=>ov r|false=>false
 |_=>false
def PV.jB:PV→Bool
 |.bool _|.int _ _|.str _=>true
 |.agg cs=>pL cs
 |.ep cs=>ov cs
 |_=>false
def St.aC (st:St) (id:Nat) (o:Obj):St:=⟨st.cY,st.held,st.base,rY st.mem id o⟩
def St.fresh (st:St) (x:AI):Nat:=
 match aA st.mem (st.base+x.d.getD 0)with
 |none=>match Nat.ble (st.base+x.d.getD 0+1) st.mem.length with
  |true=>st.base+x.d.getD 0
  |false=>st.mem.length
 |some _=>st.mem.length
def jR (φ:AV→AV):AV→AV
 |.dB i v=>φ (.dB i v)
 |.ptr i o=>φ (.ptr i o)
 |.cW i v j o=>φ (.cW i v j o)
 |.dt i=>φ (.dt i)
 |.eR i j=>φ (.eR i j)
 |.pv p=>.pv p
 |.full r=>.full r
 |.fX r o=>.fX r o
 |.iJ t=>.iJ t
 |_=>.dead
def lX (φ:AV→AV):AV→AV
 |.agg cs=>.agg (cs.map (jR φ))
 |.ep cs=>.ep (cs.map (jR φ))
 |.gZ f cs=>.gZ f (cs.map (jR φ))
 |.B0 f cs=>.B0 f (cs.map (jR φ))
 |.lF rows=>.lF (rows.map (·.map (jR φ)))
 |x=>jR φ x
def nM (φ:AV→AV):Obj→Obj
 |.cells cs=>.cells (cs.map (lX φ))
 |.cf sz rs ver=>.cf sz (rs.map (·.map (lX φ))) ver
 |.iK rows=>.iK (rows.map fun(s,v)=>(s,lX φ v))
 |o=>o
def mapM (φ:AV→AV):List (Option Obj)→List (Option Obj)
 |[]=>[]
 |none::r=>none::mapM φ r
 |some o::r=>some (nM φ o)::mapM φ r
def o7 (old:Nat):Nat→List (Option Nat)→Option Nat
 |_,[]=>none
 |j,none::r=>o7 old (j+1) r
 |j,some i::r=>match i==old with|true=>some j|false=>o7 old (j+1) r
def vL (src:List (Option Nat)):AV→AV
 |.dB i v=>match o7 i 0 src with|some j=>.dB j v|none=>.dead
 |.ptr i o=>match o7 i 0 src with|some j=>.ptr j o|none=>.dead
 |.cW i v j o=>match o7 i 0 src with|some k=>.cW k v j o|none=>.dead
 |.dt i=>match o7 i 0 src with|some j=>.dt j|none=>.dead
 |.eR i k=>match o7 i 0 src with|some j=>.eR j k|none=>.dead
 |_=>.dead
def pM (mem:List (Option Obj)):List (Option Nat)→List (Option Obj)
 |[]=>[]
 |none::r=>none::pM mem r
 |some i::r=>aA mem i::pM mem r
def zd (i:Nat):List (Option Nat)→Bool
 |[]=>true
 |none::r=>zd i r
 |some j::r=>match i==j with|true=>false|false=>zd i r
def lx:List (Option Nat)→Bool
 |[]=>true
 |none::r=>lx r
 |some i::r=>match zd i r with|true=>lx r|false=>false
def St.Ec (st:St) (φ:AV→AV) (mem:List (Option Obj)):St:=⟨st.cY.map (lX φ),st.held.map (lX φ),st.base,mem⟩
def St.nq (st:St) (src:List (Option Nat)):St:=st.Ec (vL src) (mapM (vL src) (pM st.mem src))
def nN (id:Nat) (f:AV→AV):AV→AV
 |.dB i v=>match i==id with|true=>f (.dB i v)|false=>.dB i v
 |.ptr i o=>match i==id with|true=>f (.ptr i o)|false=>.ptr i o
 |.cW i v j o=>match i==id with|true=>.dead|false=>.cW i v j o
 |.dt i=>match i==id with|true=>f (.dt i)|false=>.dt i
 |.eR i k=>match i==id with|true=>.dead|false=>.eR i k
 |_=>.dead
def jj (rs:List (List PV)) (ver:Nat):AV→AV
 |.dB _ v=>match v==ver with|true=>.pv (.sl rs [])|false=>.dead
 |_=>.dead
def pN (kg vg:Bool) (kn:Nat) (rows:List (List PV)):AV→AV
 |.dt _=>.pv (.mp kg vg kn rows)
 |_=>.dead
def kU (ps:List PV):AV→AV
 |.ptr _ 0=>.pv (.ptr ps)
 |.ptr _ o=>.fX ps o
 |_=>.dead
def ow (mem:List (Option Obj)) (id:Nat):List (Option Obj):=mem.set id none
def St.Ci (st:St) (id:Nat) (f:AV→AV):St:=st.Ec (nN id f) (mapM (nN id f) (ow st.mem id))
def iC (ks:List Nat):Nat→List AV→List AV
 |_,[]=>[]
 |i,x::r=>(match ks.contains i with|true=>x|false=>.dead)::iC ks (i+1) r
def St.ui (st:St) (ks:List Nat):St:=⟨iC ks 0 st.cY,st.held,st.base,st.mem⟩
def o8:Option Obj→Option Nat
 |some (.rows _ _ v)=>some v
 |some (.cf _ _ v)=>some v
 |some (.eL _ v)=>some v
 |some (.cH _ _ v)=>some v
 |_=>none
def zeroV:Obj→Obj
 |.rows sz rs _=>.rows sz rs 0
 |.cf sz rs _=>.cf sz rs 0
 |.eL rs _=>.eL rs 0
 |.cH t rs _=>.cH t rs 0
 |o=>o
def nO (mem:List (Option Obj)):AV→AV
 |.dB i v=>match o8 (aA mem i)with
  |some u=>match v==u with|true=>.dB i 0|false=>.dead
  |none=>.dead
 |.cW i v j o=>match o8 (aA mem i)with
  |some u=>match v==u with|true=>.cW i 0 j o|false=>.dead
  |none=>.dead
 |x=>x
def pO:List (Option Obj)→List (Option Obj)
 |[]=>[]
 |none::r=>none::pO r
 |some o::r=>some (zeroV o)::pO r
def St.norm (st:St):St:=st.Ec (nO st.mem) (pO (mapM (nO st.mem) st.mem))
inductive Fg:St→St→Prop
 |refl (s:St):Fg s s
 |trans {s s' XZ:St}:Fg s s'→Fg s' XZ→Fg s XZ
 |ui (s:St) (ks:List Nat):Fg s (s.ui ks)
 |nq (s:St) (src:List (Option Nat)):lx src=true→Fg s (s.nq src)
 |norm (s:St):Fg s s.norm
 |ze {s:St} {id sz ver:Nat} {rs:List (List PV)}:aA s.mem id=some (.rows sz rs ver)→Fg s (s.Ci id (jj rs ver))
 |T0 {s:St} {id kn:Nat} {kg vg:Bool} {rows:List (List PV)}:aA s.mem id=some (.map kg vg kn rows)→Fg s (s.Ci id (pN kg vg kn rows))
 |Jm {s:St} {id:Nat} {cs:List AV} {ps:List PV}:aA s.mem id=some (.cells cs)→AV.mR cs=some ps→Fg s (s.Ci id (kU ps))
 |plain {s:St} {id sz ver:Nat} {rs:List (List AV)} {rs':List (List PV)}:aA s.mem id=some (.cf sz rs ver)→rs=rs'.map (·.map .pv)→Fg s (s.aC id (.rows sz rs' ver))
 |X0 {s:St} {id sz ver:Nat} {rs:List (List PV)}:aA s.mem id=some (.rows sz rs ver)→Fg s (s.aC id (.cf sz (rs.map (·.map .pv)) ver))
 |full {s:St} {d:Nat} {rows:List (List PV)}:s.slot d=.full rows→Fg s (s.put (some d) (.pv (.sl rows [])))
 |own {s:St} {d id sz:Nat}:s.slot d=.full []→aA s.mem id=none→id≤s.mem.length→Fg s ((s.aC id (.rows sz [] 0)).put (some d) (.dB id 0))
 |grow (s:St) (n:Nat):Fg s ⟨s.cY,s.held,s.base,s.mem++List.replicate n none⟩
abbrev IC:=FuncId→List AV→St→(AV→St→Prop)→Prop
variable (C:FuncId→List PV→PV→Prop) (A:Ar)
def wE (st:St) (f:FuncId) (args:List AV) (K:AV→Prop):Prop:=
 ∃ps b res,et st.mem args=some (ps,b)∧C f ps res∧(b=true→res.jB=true)∧K (.pv res)
def AE (M:Option IC) (k len:Nat):Prop:=
 match M with
 |some _=>k≤len
 |none=>k<len
def F4 (M:Option IC) (id len:Nat):Prop:=
 match M with
 |some _=>True
 |none=>id<len
def ox (M:Option IC) (k:Nat) (x:AI) (st:St) (K:St→Prop):Out→Prop
 |.bad=>False
 |.val v=>K (st.put x.d v)
 |.dH p v=>p∧K (st.put x.d v)
 |.dw id o v=>F4 M id st.mem.length∧K ((st.aC id o).put x.d v)
 |.iL p id o v=>F4 M id st.mem.length∧p∧K ((st.aC id o).put x.d v)
 |.new o v=>aA st.mem k=none∧AE M k st.mem.length∧K ((st.aC k o).put x.d v)
 |.km p o v=>aA st.mem k=none∧AE M k st.mem.length∧p∧K ((st.aC k o).put x.d v)
 |.call f args=>wE C st f args (fun v=>K (st.put x.d v))∨(match M with|some I=>I f args st (fun v st'=>K (st'.put x.d v))|none=>False)
 |.all p id o v=>match M with|some _=>∀i,p i→K ((st.aC id (o i)).put x.d (v i))|none=>False
def pP (M:Option IC) (k:Nat) (x:AI) (st:St) (K:St→Prop):tZ→Prop
 |.pure o=>ox C M k x st K o
 |.rd id f=>match aA st.mem id with
  |some ob=>ox C M k x st K (f ob)
  |none=>False
def ia (M:Option IC) (k:Nat) (x:AI) (st:St) (K:St→Prop):Prop:=pP C M k x st K (b6 A k x.op st.ev)
variable (I:IC)
def uZ:AV:=.pv (.ep [])
def bC:List AI→St→(St→Prop)→Prop
 |[],st,K=>K st
 |x::xs,st,K=>∃s0,Fg st s0∧match x.g with
  |none=>ia C A (some I) (s0.fresh x) x s0 fun st'=>bC xs st' K
  |some (j,want)=>match s0.slot j with
   |.pv (.bool b)=>match b with
    |true=>match want with
     |true=>ia C A (some I) (s0.fresh x) x s0 fun st'=>bC xs st' K
     |false=>bC xs (s0.put x.d uZ) K
    |false=>match want with
     |false=>ia C A (some I) (s0.fresh x) x s0 fun st'=>bC xs st' K
     |true=>bC xs (s0.put x.d uZ) K
   |.pv (.ep _)=>bC xs (s0.put x.d uZ) K
   |_=>False
structure eM where
 rd:Option Nat
 wr:Option Nat
 all:Bool
def dry:List AV→Bool
 |[]=>true
 |.pv _::r|.full _::r|.fX _ _::r|.dead::r=>dry r
 |_::_=>false
def oy:List AV→Bool
 |[]=>true
 |.pv _::r|.full _::r|.fX _ _::r|.dead::r=>oy r
 |.agg cs::r=>match dry cs with|true=>oy r|false=>false
 |_::_=>false
def kM (k:Nat) (rd:Option Nat):Out→eM
 |.dw id _ _=>⟨rd,some id,false⟩
 |.iL _ id _ _=>⟨rd,some id,false⟩
 |.new _ _=>⟨rd,some k,false⟩
 |.km _ _ _=>⟨rd,some k,false⟩
 |.call _ args=>⟨rd,none,match oy args with|true=>false|false=>true⟩
 |_=>⟨rd,none,false⟩
def eE (k:Nat) (st:St):tZ→eM
 |.pure o=>kM k none o
 |.rd id f=>match aA st.mem id with
  |some ob=>kM k (some id) (f ob)
  |none=>⟨some id,none,false⟩
def HT (id:Nat):Option Nat→Bool
 |some j=>id==j
 |none=>false
def fk (f:eM) (id:Nat):Bool:=
 match f.all with
 |true=>true
 |false=>match HT id f.rd with
  |true=>true
  |false=>HT id f.wr
def rZ (h f:eM):Bool:=
 match(match h.wr with|some id=>fk f id|none=>false)with
 |true=>false
 |false=>match f.wr with
  |some id=>(match fk h id with|true=>false|false=>true)
  |none=>true
def iM (l:List Nat) (f:eM):Nat→List eM→Bool
 |_,[]=>true
 |i,h::hs=>match l.contains i with
  |true=>iM l f (i+1) hs
  |false=>match rZ h f with
   |true=>iM l f (i+1) hs
   |false=>false
def bN.sl:bN→List Nat
 |.t i=>[i]
 |_=>[]
def bN.ud:List bN→List Nat
 |[]=>[]
 |x::r=>x.sl++bN.ud r
def bN.slo:Option bN→List Nat
 |none=>[]
 |some x=>x.sl
def bN.X1:List (Nat×Nat×bN)→List Nat
 |[]=>[]
 |(_,_,x)::r=>x.sl++bN.X1 r
def yB.looks:yB→List Nat
 |.mv x|.box x _|.ld x _|.Xi x|.un _ x|.Xj _ x|.XW x|.Xk x|.Ri x|.Xl _ x|.pad x _|.ext x _|.len x|.lens x=>x.sl
 |.pick c a b=>c.sl++(a.sl++b.sl)
 |.alloc _|.uf _ _=>[]
 |.mk _ ps=>bN.X1 ps
 |.TK _ ps|.dB _ ps|.TL _ ps|.call _ ps=>bN.ud ps
 |.st x y _|.bin _ x y|.beq _ _ x y|.D5 _ x y|.D6 _ x y|.Cb _ _ x y|.idx x y _|.TO x y _ _|.TU x y _|.TP x y|.app _ _ x y|.TQ _ x y|.pp _ x y|.TY _ x y|.Cd _ x y=>x.sl++y.sl
 |.TN _ _ _ x y=>x.sl++y.sl
 |.Mr _ x lo hi|.ud x lo hi=>x.sl++(bN.slo lo++bN.slo hi)
 |.Ca x ps=>x.sl++bN.ud ps
 |.D7 _ ps|.TR _ ps=>bN.ud ps
 |.Ms _ x y=>x.sl++y.sl
 |.TS x|.TT x _|.TV x _ _|.Xn x|.Xo x|.Xp x|.Xq x|.HR x|.HS x|.D8 x|.Xr x|.Xs _ _ x|.TX x=>x.sl
 |.TW _ _ _|.Xm=>[]
 |.Rj _ _ _ m k v|.Cc _ m k v=>m.sl++(k.sl++v.sl)
 |.uC _ _ _ m k|.Mt _ _ _ _ m k=>m.sl++k.sl
def AI.looks (x:AI):List Nat:=x.op.looks++(match x.g with|some (j,_)=>[j]|none=>[])
def AI.apart (x y:AI):Bool:=
 (match x.d with
  |some d=> !(y.looks.contains d)&&y.d !=some d
  |none=>true)&&
 (match y.d with
  |some d=> !(x.looks.contains d)
  |none=>true)
def ib:eM:=⟨none,none,false⟩
def dv:List AI→List (List Nat)→List eM→St→(St→Prop)→Prop
 |[],_,_,st,K=>K st
 |x::xs,lt,cC,st,K=>match(match x.g with
   |none=>some true
   |some (j,want)=>match st.slot j with
    |.pv (.bool b)=>match b with
     |true=>match want with|true=>some true|false=>some false
     |false=>match want with|true=>some false|false=>some true
    |.pv (.ep _)=>some false
    |_=>none)with
  |some true=>iM (lt.headD []) (eE (st.base+x.d.getD 0) st (b6 A (st.base+x.d.getD 0) x.op st.ev)) 0 cC=true∧
    ia C A none (st.base+x.d.getD 0) x st fun st'=>dv xs lt.tail (cC++[eE (st.base+x.d.getD 0) st (b6 A (st.base+x.d.getD 0) x.op st.ev)]) st' K
  |some false=>dv xs lt.tail (cC++[ib]) (st.put x.d uZ) K
  |none=>False
structure Ev where
 d:Option Nat
 v:AV
 m:Option (Nat×Obj)
def St.wF (st:St):Option (Nat×Obj)→St
 |some (id,o)=>⟨st.cY,st.held,st.base,st.mem.set id (some o)⟩
 |none=>st
def Ev.app (e:Ev) (st:St):St:=(st.wF e.m).put e.d e.v
def guardOf (st:St):Option (Nat×Bool)→Option Bool
 |none=>some true
 |some (j,want)=>match st.slot j with
  |.pv (.bool b)=>some (b==want)
  |.pv (.ep _)=>some false
  |_=>none
def cS (p:Nat→Bool):Nat→List Ev→St→St
 |_,[],st=>st
 |k,e::es,st=>cS p (k+1) es (match p k with|true=>e.app st|false=>st)
section
variable (C:FuncId→List PV→PV→Prop) (A:Ar)
def de (d:Option Nat) (k:Nat) (st:St):Out→Ev→Prop
 |.bad,_=>False
 |.val v,e=>e=⟨d,v,none⟩
 |.dH p v,e=>p∧e=⟨d,v,none⟩
 |.dw id o v,e=>id<st.mem.length∧e=⟨d,v,some (id,o)⟩
 |.iL p id o v,e=>id<st.mem.length∧p∧e=⟨d,v,some (id,o)⟩
 |.new o v,e=>aA st.mem k=none∧k<st.mem.length∧e=⟨d,v,some (k,o)⟩
 |.km p o v,e=>aA st.mem k=none∧k<st.mem.length∧p∧e=⟨d,v,some (k,o)⟩
 |.call f args,e=>∃ps b res,et st.mem args=some (ps,b)∧C f ps res∧(b=true→res.jB=true)∧e=⟨d,.pv res,none⟩
 |.all ..,_=>False
def kV (d:Option Nat) (k:Nat) (st:St):tZ→Ev→Prop
 |.pure o,e=>de C d k st o e
 |.rd id f,e=>∃ob,aA st.mem id=some ob∧de C d k st (f ob) e
def I6 (x:AI) (st:St) (e:Ev) (f:eM):Prop:=
 (guardOf st x.g=some true∧kV C x.d (st.base+x.d.getD 0) st (b6 A (st.base+x.d.getD 0) x.op st.ev) e∧f=eE (st.base+x.d.getD 0) st (b6 A (st.base+x.d.getD 0) x.op st.ev))∨
 (guardOf st x.g=some false∧e=⟨x.d,uZ,none⟩∧f=ib)
def Trace:List AI→List (List Nat)→List eM→St→List (Ev×eM)→Prop
 |[],_,_,_,r=>r=[]
 |x::xs,lt,cC,st,r=>∃e f r',r=(e,f)::r'∧I6 C A x st e f∧iM (lt.headD []) f 0 cC=true∧Trace xs lt.tail (cC++[f]) (e.app st) r'
end
def L8:AI:=⟨none,.mv (.k .nj),none⟩
def jC (p:Nat→Bool):Nat→List AI→List AI
 |_,[]=>[]
 |i,x::r=>(match p i with|true=>L8|false=>x)::jC p (i+1) r
def zf:List AI→Bool
 |[]=>true
 |x::r=>match x.op with|.uC ..=>false|_=>zf r
def zok (n:Nat) (lt:List (List Nat)) (c:Nat) (Z:List Bool):Prop:=
 Z.length=n∧Z.getD c false=false∧(∀k∈lt.getD c [],Z.getD k false=true)∧(∀i,i<n→Z.getD i false=true→∀k∈lt.getD i [],Z.getD k false=true)∧(∀i,i<n→c∈lt.getD i []→Z.getD i false=false)
def Jn (ops:List AI) (lt:List (List Nat)) (st:St) (K:St→Prop):Prop:=
 zf ops=true∧∃c x,ops[c]? =some x∧x.g=none∧∃r,Trace C A (jC (fun i=>(i==c)||(lt.getD i []).contains c) 0 ops) lt [] st r∧
  ∀Z,zok ops.length lt c Z→ia C A (some I) ((cS (fun i=>Z.getD i false) 0 (r.map (·.1)) st).fresh x) x (cS (fun i=>Z.getD i false) 0 (r.map (·.1)) st)
   fun st'=>dv C A (jC (fun i=>(i==c)||Z.getD i false) 0 ops) lt [] st' K
inductive Ex where
 |normal|ret|exit (id:Nat)
def fw:cT→St→(Ex→St→Prop)→Prop
 |.skip,st,Q=>Q .normal st
 |.vJ ops none,st,Q=>bC C A I ops st (Q .normal)
 |.vJ ops (some lt),st,Q=>∃s0,Fg st s0∧(dv C A ops lt [] s0 (Q .normal)∨Jn C A I ops lt s0 (Q .normal))
 |.seq a b,st,Q=>fw a st fun e s=>match e with|.normal=>fw b s Q|e=>Q e s
 |.cond c a b,st,Q=>match st.ev c with
  |.pv (.bool t)=>match t with|true=>fw a st Q|false=>fw b st Q
  |_=>False
 |.block id b,st,Q=>fw b st fun e s=>match e with|.exit j=>(match j==id with|true=>Q .normal s|false=>Q e s)|e=>Q e s
 |.loop b,st,Q=>∀X:St→Prop,(∀s s0,Fg s s0→fw b s0 (fun e s'=>match e with|.normal=>X s'|e=>Q e s')→X s)→X st
 |.exit id,st,Q=>Q (.exit id) st
 |.ret,st,Q=>Q .ret st
inductive RD where
 |tmp (t:Nat)
 |cell (a:Nat) (n:Option Nat)
def MG (st:St):RD→Option AV
 |.tmp t=>some (st.slot t)
 |.cell a n=>match st.slot a with
  |.ptr id off=>match aA st.mem id with
   |some (.cells cs)=>match jP cs off n with|.val v=>some v|_=>none
   |_=>none
  |_=>none
def zg (st:St):List RD→Option (List AV)
 |[]=>some []
 |x::r=>match MG st x with
  |some d=>match zg st r with|some ds=>some (d::ds)|none=>none
  |none=>none
def one?:List AV→AV
 |[v]=>v
 |vs=>.ep vs
def mU (cN:List RD) (st:St):Option AV:=match zg st cN with|some vs=>some (one? vs)|none=>none
def enter (nt:Nat) (args:List AV) (st:St):St:=
 ⟨args++List.replicate (nt-args.length) .dead,st.cY++st.held,st.mem.length,st.mem++List.replicate nt none⟩
def qN:List (Option Obj)→Bool
 |[]=>true
 |none::r=>qN r
 |some _::_=>false
def Cj (n:Nat) (mem:List (Option Obj)):List (Option Obj):=match qN (mem.drop n)with|true=>mem.take n|false=>mem
def leave (n base:Nat) (st:St):St:=⟨st.held.take n,st.held.drop n,base,Cj st.base st.mem⟩
def wG (cN:List RD) (n base:Nat) (K:AV→St→Prop):Ex→St→Prop
 |.exit _,_=>False
 |_,s=>match mU cN s with
  |some v=>K v (leave n base s)
  |none=>False
theorem Ck {st:St} {f:FuncId} {args:List AV} {K K':AV→Prop} (h:∀v,K v→K' v) (ho:wE C st f args K):wE C st f args K':=by
 obtain⟨ps,b,res,h1,h2,h3,h4⟩:=ho;exact⟨ps,b,res,h1,h2,h3,h _ h4⟩
def HU (I:IC):Prop:=∀f args st (K K':AV→St→Prop),(∀v s,K v s→K' v s)→I f args st K→I f args st K'
def Rl:Option IC→Prop
 |some I=>HU I
 |none=>True
variable {C A I}
theorem u0 {M:Option IC} (hM:Rl M) {k:Nat} {x:AI} {st:St} {K K':St→Prop} (h:∀s,K s→K' s) {o:Out} (ho:ox C M k x st K o):ox C M k x st K' o:=by
 cases o with
 |bad=>exact ho
 |val v=>exact h _ ho
 |dH p v=>exact⟨ho.1,h _ ho.2⟩
 |dw id o v=>exact⟨ho.1,h _ ho.2⟩
 |iL p id o v=>exact⟨ho.1,ho.2.1,h _ ho.2.2⟩
 |new o v=>exact⟨ho.1,ho.2.1,h _ ho.2.2⟩
 |km p o v=>exact⟨ho.1,ho.2.1,ho.2.2.1,h _ ho.2.2.2⟩
 |call f args=>
  rcases ho with ho|ho
  ·exact .inl (Ck C (fun v hv=>h _ hv) ho)
  ·refine .inr ?_
   cases M with
   |none=>exact ho
   |some I=>exact hM _ _ _ _ _ (fun v s hv=>h _ hv) ho
 |all p id o v=>
  cases M with
  |none=>exact ho
  |some I=>exact fun i hi=>h _ (ho i hi)
theorem lY {M:Option IC} (hM:Rl M) {k:Nat} {x:AI} {st:St} {K K':St→Prop} (h:∀s,K s→K' s) (ho:ia C A M k x st K):ia C A M k x st K':=by
 unfold ia at*
 cases he:b6 A k x.op st.ev with
 |pure o=>rw[he]at ho;exact u0 hM h ho
 |rd id f=>
  rw[he]at ho;simp only[pP]at*;split at ho
  ·exact u0 hM h ho
  ·exact ho
variable (hI:HU I)
include hI
theorem gv:∀(l:List AI) {st:St} {K K':St→Prop},(∀s,K s→K' s)→bC C A I l st K→bC C A I l st K'
 |[],_,_,_,h,ho=>h _ ho
 |x::xs,st,K,K',h,ho=>by
  simp only[bC]at*;obtain⟨s0,hf,ho⟩:=ho;refine⟨s0,hf,?_⟩;split at ho
  ·exact lY (M:=some I) hI (fun s hs=>gv xs h hs) ho
  ·split at ho
   ·split at ho
    ·split at ho
     ·exact lY (M:=some I) hI (fun s hs=>gv xs h hs) ho
     ·exact gv xs h ho
    ·split at ho
     ·exact lY (M:=some I) hI (fun s hs=>gv xs h hs) ho
     ·exact gv xs h ho
   ·exact gv xs h ho
   ·exact ho
omit hI in
theorem qO:∀(l:List AI) {lt:List (List Nat)} {cC:List eM} {st:St} {K K':St→Prop},(∀s,K s→K' s)→dv C A l lt cC st K→dv C A l lt cC st K'
 |[],_,_,_,_,_,h,ho=>h _ ho
 |x::xs,lt,cC,st,K,K',h,ho=>by
  simp only[dv]at*;split at ho
  ·exact⟨ho.1,lY (M:=none) trivial (fun s hs=>qO xs h hs) ho.2⟩
  ·exact qO xs h ho
  ·exact ho
theorem zh {ops:List AI} {lt:List (List Nat)} {st:St} {K K':St→Prop} (h:∀s,K s→K' s) (ho:Jn C A I ops lt st K):Jn C A I ops lt st K':=by
 obtain⟨h0,c,x,h1,h2,r,h3,h4⟩:=ho;exact⟨h0,c,x,h1,h2,r,h3,fun Z hZ=>lY (M:=some I) hI (fun s hs=>qO (jC _ 0 ops) h hs) (h4 Z hZ)⟩
theorem e9:∀(c:cT) {st:St} {Q Q':Ex→St→Prop},(∀e s,Q e s→Q' e s)→fw C A I c st Q→fw C A I c st Q':=by
 intro c
 induction c with
 |skip=>intro st Q Q' h ho;exact h _ _ ho
 |vJ ops lt=>
  intro st Q Q' h ho
  cases lt with
  |none=>exact gv hI ops (h _) ho
  |some lt=>obtain⟨s0,hf,ho⟩:=ho;exact⟨s0,hf,ho.imp (qO ops (h _)) (zh hI (h _))⟩
 |seq a b iha ihb=>
  intro st Q Q' h ho;refine iha ?_ ho;intro e s hs
  cases e with
  |normal=>exact ihb h hs
  |ret=>exact h _ _ hs
  |exit id=>exact h _ _ hs
 |cond c a b iha ihb=>
  intro st Q Q' h ho;simp only[fw]at*;split at ho
  ·split at ho
   ·exact iha h ho
   ·exact ihb h ho
  ·exact ho
 |block id b ih=>
  intro st Q Q' h ho;refine ih ?_ ho;intro e s hs
  cases e with
  |normal=>exact h _ _ hs
  |ret=>exact h _ _ hs
  |exit j=>
   simp only at*;split
   ·rename_i hj;rw[hj]at hs;exact h _ _ hs
   ·rename_i hj;rw[hj]at hs;exact h _ _ hs
 |loop b ih=>
  intro st Q Q' h ho X hX
  refine ho X fun s s0 hf hs=>hX s s0 hf (ih ?_ hs)
  intro e s' gX
  cases e with
  |normal=>exact gX
  |ret=>exact h _ _ gX
  |exit j=>exact h _ _ gX
 |exit id=>intro st Q Q' h ho;exact h _ _ ho
 |ret=>intro st Q Q' h ho;exact h _ _ ho
theorem lZ {b:cT} {st s0:St} {Q:Ex→St→Prop} (hf:Fg st s0) (h:fw C A I b s0 (fun e s'=>match e with|.normal=>fw C A I (.loop b) s' Q|e=>Q e s')):fw C A I (.loop b) st Q:=by
 intro X hX;refine hX st s0 hf (e9 hI b ?_ h);intro e s hs
 cases e with
 |normal=>exact hs X hX
 |ret=>exact hs
 |exit j=>exact hs
theorem Jo {b:cT} {st:St} {Q:Ex→St→Prop} (J:Nat→St→Prop) (h0:∃n s,Fg st s∧J n s)
  (h:∀n s,J n s→fw C A I b s (fun e s'=>match e with|.normal=>∃m XZ,m<n∧Fg s' XZ∧J m XZ|e=>Q e s')):fw C A I (.loop b) st Q:=by
 intro X hX
 have key:∀n s s',J n s'→Fg s s'→X s:=by
  intro n
  induction n using Nat.strongRecOn with
  |ind n ih=>
   intro s s' hj hf;refine hX s s' hf (e9 hI b ?_ (h n s' hj));intro e s2 B1
   cases e with
   |normal=>obtain⟨m,s3,bL,hf3,hj3⟩:=B1;exact ih m bL _ _ hj3 hf3
   |ret=>exact B1
   |exit j=>exact B1
 obtain⟨n,s,hf,hj⟩:=h0;exact key n st s hj hf
omit hI
inductive Item where
 |code (c:cT)
 |ops (l:List AI)
 |fC (l:List AI) (lt:List (List Nat)) (cC:List eM)
 |B2 (id:Nat)
 |frame (cN:List RD) (n base:Nat) (d:Option Nat)
def exitTo (id:Nat):List Item→Option (List Item)
 |[]=>none
 |.frame ..::_=>none
 |.B2 j::r=>match j==id with|true=>some r|false=>exitTo id r
 |_::r=>exitTo id r
variable (C A I)
def bA:List Item→(Ex→St→Prop)→Ex→St→Prop
 |[],Q,e,s=>Q e s
 |.frame cN n base d::r,Q,e,s=>wG cN n base (fun v s'=>bA r Q .normal (s'.put d v)) e s
 |.code c::r,Q,.normal,s=>fw C A I c s fun e s'=>bA r Q e s'
 |.ops l::r,Q,.normal,s=>bC C A I l s fun s'=>bA r Q .normal s'
 |.fC l lt cC::r,Q,.normal,s=>dv C A l lt cC s fun s'=>bA r Q .normal s'
 |.B2 _::r,Q,.normal,s=>bA r Q .normal s
 |.B2 j::r,Q,.exit id,s=>match j==id with|true=>bA r Q .normal s|false=>bA r Q (.exit id) s
 |_::r,Q,.ret,s=>bA r Q .ret s
 |_::r,Q,.exit id,s=>bA r Q (.exit id) s
def rz (id:Nat):List Item→Bool
 |[]=>true
 |.frame ..::_=>false
 |.B2 j::r=>match j==id with|true=>false|false=>rz id r
 |_::r=>rz id r
def kW:List Item→Option ((List RD×Nat×Nat×Option Nat)×List Item)
 |[]=>none
 |.frame cN n base d::r=>some ((cN,n,base,d),r)
 |_::r=>kW r
inductive bl where
 |fin (e:Ex) (st:St)
 |pre (p:Prop) (st:St) (is:List Item)
 |call (f:FuncId) (args:List AV) (d:Option Nat) (st:St) (is:List Item)
 |u5 (f:FuncId) (args:List AV) (d:Option Nat) (st:St) (is:List Item)
 |loop (b:cT) (st:St) (is:List Item)
 |all (p:Nat→Prop) (st:Nat→St) (is:List Item)
 |go (st:St) (is:List Item)
 |stuck
def bl.holds (Q:Ex→St→Prop):bl→Prop
 |.fin e st=>Q e st
 |.pre p st is=>p∧bA C A I is Q .normal st
 |.call f args d st is=>wE C st f args (fun v=>bA C A I is Q .normal (st.put d v))∨I f args st (fun v st'=>bA C A I is Q .normal (st'.put d v))
 |.u5 f args d st is=>wE C st f args (fun v=>bA C A I is Q .normal (st.put d v))
 |.loop b st is=>fw C A I (.loop b) st fun e s=>bA C A I is Q e s
 |.all p st is=>∀i,p i→bA C A I is Q .normal (st i)
 |.go st is=>bA C A I is Q .normal st
 |.stuck=>False
abbrev yC:=FuncId→Option (cT×List RD×Nat)
def pQ (dr:Bool) (I:IC):Option IC:=match dr with|true=>none|false=>some I
def r5 (dr:Bool) (m:Nat):Nat:=match dr with|true=>m+1|false=>m
def zi (dr:Bool) (id len:Nat):Bool:=match dr with|true=>Nat.ble (id+1) len|false=>true
def Rm:yB→Bool
 |.bin ..|.beq ..|.D5 ..|.D6 ..|.Cb ..|.un ..=>true
 |_=>false
def F5 (c:Bool) (v:AV) (k:AV→bl):bl:=match c with
 |true=>match v with
  |.pv (.bool b)=>match b with|true=>k (.pv (.bool true))|false=>k (.pv (.bool false))
  |v=>k v
 |false=>k v
theorem Cl (c:Bool) (v:AV) (k:AV→bl):F5 c v k=k v:=by
 unfold F5;split
 ·split
  ·split<;>rfl
  ·rfl
 ·rfl
variable (T:yC) (U:Bool)
def nr (dr:Bool) (x:AI) (m:Nat) (st:St) (is gC:List Item) (k:List Item→St→bl):Out→bl
 |.bad=>.go st gC
 |.val v=>F5 (Rm x.op) v fun v=>k is (st.put x.d v)
 |.dH p v=>F5 (Rm x.op) v fun v=>.pre p (st.put x.d v) is
 |.dw id o v=>match zi dr id st.mem.length with
  |true=>k is ((st.aC id o).put x.d v)
  |false=>.go st gC
 |.iL p id o v=>match zi dr id st.mem.length with
  |true=>.pre p ((st.aC id o).put x.d v) is
  |false=>.go st gC
 |.new o v=>match aA st.mem m with
   |none=>match Nat.ble (r5 dr m) st.mem.length with|true=>k is ((st.aC m o).put x.d v)|false=>.go st gC
   |some _=>.go st gC
 |.km p o v=>match aA st.mem m with
   |none=>match Nat.ble (r5 dr m) st.mem.length with|true=>.pre p ((st.aC m o).put x.d v) is|false=>.go st gC
   |some _=>.go st gC
 |.call f args=>match dr with
  |true=>.u5 f args x.d st is
  |false=>match T f with
   |none=>.call f args x.d st is
   |some (ac,cN,nt)=>k (.code ac::.frame cN st.cY.length st.base x.d::is) (enter nt args st)
 |.all p id o v=>match dr with
  |true=>.go st gC
  |false=>.all p (fun i=>(st.aC id (o i)).put x.d (v i)) is
def r6 (dr:Bool) (x:AI) (m:Nat) (st:St) (is gC:List Item) (k:List Item→St→bl):tZ→bl
 |.pure o=>nr T dr x m st is gC k o
 |.rd id f=>match aA st.mem id with
  |some ob=>nr T dr x m st is gC k (f ob)
  |none=>.go st gC
def wH (x:AI) (xs:List AI) (lt:List (List Nat)) (cC:List eM) (r:List Item) (st:St) (go:List Item→St→bl):bl:=
 match iM (lt.headD []) (eE (st.base+x.d.getD 0) st (b6 A (st.base+x.d.getD 0) x.op st.ev)) 0 cC with
 |true=>r6 T true x (st.base+x.d.getD 0) st (.fC xs lt.tail (cC++[eE (st.base+x.d.getD 0) st (b6 A (st.base+x.d.getD 0) x.op st.ev)])::r) (.fC (x::xs) lt cC::r) go (b6 A (st.base+x.d.getD 0) x.op st.ev)
 |false=>.go st (.fC (x::xs) lt cC::r)
def run:Nat→List Item→St→bl
 |0,is,st=>.go st is
 |_+1,[],st=>.fin .normal st
 |n+1,.frame cN m base d::r,st=>match mU cN st with
  |some v=>run n r ((leave m base st).put d v)
  |none=>.stuck
 |n+1,.ops []::r,st=>run n r st
 |n+1,.ops (x::xs)::r,st=>match x.g with
  |none=>r6 T false x (st.fresh x) st (.ops xs::r) (.ops (x::xs)::r) (run n) (b6 A (st.fresh x) x.op st.ev)
  |some (j,want)=>match st.slot j with
   |.pv (.bool b)=>match b with
    |true=>match want with
     |true=>r6 T false x (st.fresh x) st (.ops xs::r) (.ops (x::xs)::r) (run n) (b6 A (st.fresh x) x.op st.ev)
     |false=>run n (.ops xs::r) (st.put x.d uZ)
    |false=>match want with
     |false=>r6 T false x (st.fresh x) st (.ops xs::r) (.ops (x::xs)::r) (run n) (b6 A (st.fresh x) x.op st.ev)
     |true=>run n (.ops xs::r) (st.put x.d uZ)
   |.pv (.ep _)=>run n (.ops xs::r) (st.put x.d uZ)
   |_=>.go st (.ops (x::xs)::r)
 |n+1,.fC [] _ _::r,st=>run n r st
 |n+1,.fC (x::xs) lt cC::r,st=>match x.g with
  |none=>wH A T x xs lt cC r st (run n)
  |some (j,want)=>match st.slot j with
   |.pv (.bool b)=>match b with
    |true=>match want with
     |true=>wH A T x xs lt cC r st (run n)
     |false=>run n (.fC xs lt.tail (cC++[ib])::r) (st.put x.d uZ)
    |false=>match want with
     |false=>wH A T x xs lt cC r st (run n)
     |true=>run n (.fC xs lt.tail (cC++[ib])::r) (st.put x.d uZ)
   |.pv (.ep _)=>run n (.fC xs lt.tail (cC++[ib])::r) (st.put x.d uZ)
   |_=>.go st (.fC (x::xs) lt cC::r)
 |n+1,.B2 _::r,st=>run n r st
 |n+1,.code c::r,st=>match c with
  |.skip=>run n r st
  |.vJ ops none=>run n (.ops ops::r) st
  |.vJ ops (some lt)=>run n (.fC ops lt []::r) st
  |.seq a b=>run n (.code a::.code b::r) st
  |.cond c a b=>match st.ev c with
   |.pv (.bool t)=>match t with|true=>run n (.code a::r) st|false=>run n (.code b::r) st
   |_=>.go st (.code (.cond c a b)::r)
  |.block id b=>run n (.code b::.B2 id::r) st
  |.loop b=>match U with
   |true=>run n (.code b::.code (.loop b)::r) st
   |false=>.loop b st r
  |.exit id=>match exitTo id r with|some r'=>run n r' st|none=>match rz id r with|true=>.fin (.exit id) st|false=>.go st (.code (.exit id)::r)
  |.ret=>match kW r with
   |some ((cN,m,base,d),r')=>match mU cN st with
    |some v=>run n r' ((leave m base st).put d v)
    |none=>.stuck
   |none=>.fin .ret st
variable {C A I T U}
theorem jS:∀(is:List Item) (Q:Ex→St→Prop) (s:St),bA C A I is Q .ret s=match kW is with
  |some ((cN,n,base,d),r)=>wG cN n base (fun v s'=>bA C A I r Q .normal (s'.put d v)) .ret s
  |none=>Q .ret s
 |[],Q,s=>rfl
 |.frame cN n base d::r,Q,s=>rfl
 |.code c::r,Q,s=>by simp only[bA,kW];exact jS r Q s
 |.ops c::r,Q,s=>by simp only[bA,kW];exact jS r Q s
 |.fC c _ _::r,Q,s=>by simp only[bA,kW];exact jS r Q s
 |.B2 c::r,Q,s=>by simp only[bA,kW];exact jS r Q s
theorem kX (id:Nat):∀(is:List Item) (Q:Ex→St→Prop) (s:St),rz id is=true→Q (.exit id) s→bA C A I is Q (.exit id) s
 |[],Q,s,_,hq=>hq
 |.frame ..::_,Q,s,h,_=>by simp[rz]at h
 |.B2 j::t,Q,s,h,hr=>by
  simp only[bA,rz]at h ⊢
  cases hj:j==id
  ·rw[hj]at h;exact kX id t Q s h hr
  ·rw[hj]at h;cases h
 |.code c::t,Q,s,h,hr=>by simp only[bA,rz]at h ⊢;exact kX id t Q s h hr
 |.ops c::t,Q,s,h,hr=>by simp only[bA,rz]at h ⊢;exact kX id t Q s h hr
 |.fC c _ _::t,Q,s,h,hr=>by simp only[bA,rz]at h ⊢;exact kX id t Q s h hr
theorem iD (id:Nat):∀(is:List Item) (Q:Ex→St→Prop) (s:St) (r:List Item),exitTo id is=some r→bA C A I r Q .normal s→bA C A I is Q (.exit id) s
 |[],Q,s,r,h,_=>by simp[exitTo]at h
 |.frame ..::_,Q,s,r,h,_=>by simp[exitTo]at h
 |.B2 j::t,Q,s,r,h,hr=>by
  simp only[bA,exitTo]at h ⊢
  cases hj:j==id
  ·rw[hj]at h;exact iD id t Q s r h hr
  ·rw[hj]at h;simp only[Option.some.injEq]at h;subst h;exact hr
 |.code c::t,Q,s,r,h,hr=>by simp only[bA,exitTo]at h ⊢;exact iD id t Q s r h hr
 |.ops c::t,Q,s,r,h,hr=>by simp only[bA,exitTo]at h ⊢;exact iD id t Q s r h hr
 |.fC c _ _::t,Q,s,r,h,hr=>by simp only[bA,exitTo]at h ⊢;exact iD id t Q s r h hr
def pR (C:FuncId→List PV→PV→Prop) (A:Ar) (I:IC) (T:yC):Prop:=
 ∀f ac cN nt,T f=some (ac,cN,nt)→∀(args:List AV) (st:St) (K:AV→St→Prop),fw C A I ac (enter nt args st) (wG cN st.cY.length st.base K)→I f args st K
variable (hI:HU I) (hT:pR C A I T)
include hI hT
theorem sU {dr:Bool} {x:AI} {m:Nat} {st:St} {is gC:List Item} {k:List Item→St→bl} {Q:Ex→St→Prop} (e:tZ)
  (hk:∀is s,(k is s).holds C A I Q→bA C A I is Q .normal s)
  (h:(r6 T dr x m st is gC k e).holds C A I Q):
  pP C (pQ dr I) m x st (fun s=>bA C A I is Q .normal s) e∨bA C A I gC Q .normal st:=by
 have jD:∀{n:Nat},Nat.ble (r5 dr m) n=true→AE (pQ dr I) m n:=by
  intro n hn;have:=Nat.le_of_ble_eq_true hn
  cases dr
  ·exact this
  ·exact this
 have Jp:∀{id n:Nat},zi dr id n=true→F4 (pQ dr I) id n:=by
  intro id n hn
  cases dr
  ·trivial
  ·exact Nat.le_of_ble_eq_true hn
 have jm:∀o,(nr T dr x m st is gC k o).holds C A I Q→ox C (pQ dr I) m x st (fun s=>bA C A I is Q .normal s) o∨bA C A I gC Q .normal st:=by
  intro o h
  cases o with
  |bad=>exact .inr h
  |val v=>
   simp only[nr,Cl]at h;exact .inl (hk _ _ h)
  |dH p v=>
   simp only[nr,Cl]at h;exact .inl h
  |dw id o v=>
   simp only[nr]at h;split at h
   ·rename_i hu;exact .inl ⟨Jp hu,hk _ _ h⟩
   ·exact .inr h
  |iL p id o v=>
   simp only[nr]at h;split at h
   ·rename_i hu;exact .inl ⟨Jp hu,h⟩
   ·exact .inr h
  |new o v=>
   simp only[nr]at h;split at h
   ·rename_i hm;split at h
    ·rename_i hd;exact .inl ⟨hm,jD hd,hk _ _ h⟩
    ·exact .inr h
   ·exact .inr h
  |km p o v=>
   simp only[nr]at h;split at h
   ·rename_i hm;split at h
    ·rename_i hd;exact .inl ⟨hm,jD hd,h.1,h.2⟩
    ·exact .inr h
   ·exact .inr h
  |call f args=>
   cases dr with
   |true=>exact .inl (.inl h)
   |false=>
    simp only[nr]at h;split at h
    ·exact .inl h
    ·rename_i ac cN nt ht;refine .inl (.inr ?_);exact hT f ac cN nt ht args st _ (hk _ _ h)
  |all p id o v=>
   cases dr with
   |true=>exact .inr h
   |false=>exact .inl h
 cases e with
 |pure o=>exact jm o h
 |rd id f=>
  simp only[r6,pP]at*;split at h
  ·exact jm _ h
  ·exact .inr h
theorem HV (Q:Ex→St→Prop):∀(n:Nat) (is:List Item) (st:St),(run A T U n is st).holds C A I Q→bA C A I is Q .normal st:=by
 intro n
 induction n with
 |zero=>intro is st h;exact h
 |succ n ih=>
  intro is st h
  match is with
  |[]=>exact h
  |.frame cN m base d::r=>
   simp only[run]at h;simp only[bA,wG];split at h
   ·exact ih _ _ h
   ·exact h.elim
  |.ops []::r=>exact ih r st h
  |.ops (x::xs)::r=>
   simp only[run]at h
   have key:∀(hg:x.g=none∨∃j want b,x.g=some (j,want)∧st.slot j=.pv (.bool b)∧b=want),
     (r6 T false x (st.fresh x) st (.ops xs::r) (.ops (x::xs)::r) (run A T U n) (b6 A (st.fresh x) x.op st.ev)).holds C A I Q→
     bA C A I (.ops (x::xs)::r) Q .normal st:=fun hg he=>by
    rcases sU hI hT (dr:=false) _ (fun is s hs=>ih is s hs) he with he|he
    ·simp only[bA,bC];refine⟨st,.refl _,?_⟩
     rcases hg with hg|⟨j,want,b,hg,hs,hb⟩
     ·rw[hg];exact he
     ·rw[hg];simp only[hs];subst hb;cases b<;>exact he
    ·exact he
   split at h
   ·rename_i hg;exact key (.inl hg) h
   ·rename_i j want hg
    have skip:∀b,st.slot j=.pv (.bool b)→b≠want→(run A T U n (.ops xs::r) (st.put x.d uZ)).holds C A I Q→bA C A I (.ops (x::xs)::r) Q .normal st:=fun b hs hb he=>by
     simp only[bA,bC];refine⟨st,.refl _,?_⟩;rw[hg];simp only[hs]
     cases b<;>cases want<;>first|exact absurd rfl hb|exact ih (.ops xs::r) _ he
    split at h
    ·rename_i b hs;split at h
     ·split at h
      ·exact key (.inr ⟨j,_,_,hg,hs,rfl⟩) h
      ·exact skip _ hs (by simp) h
     ·split at h
      ·exact key (.inr ⟨j,_,_,hg,hs,rfl⟩) h
      ·exact skip _ hs (by simp) h
    ·rename_i l hs;simp only[bA,bC];refine⟨st,.refl _,?_⟩;rw[hg];simp only[hs];exact ih (.ops xs::r) _ h
    ·exact h
  |.fC [] _ _::r=>exact ih r st h
  |.fC (x::xs) lt cC::r=>
   simp only[run]at h
   have key:∀(hg:(match x.g with|none=>some true|some (j,want)=>match st.slot j with|.pv (.bool b)=>(match b with|true=>(match want with|true=>some true|false=>some false)|false=>(match want with|true=>some false|false=>some true))|.pv (.ep _)=>some false|_=>none)=some true),
     (wH A T x xs lt cC r st (run A T U n)).holds C A I Q→bA C A I (.fC (x::xs) lt cC::r) Q .normal st:=fun hg h=>by
    unfold wH at h;split at h
    ·rename_i hf
     rcases sU hI hT (dr:=true) _ (fun is s hs=>ih is s hs) h with he|he
     ·simp only[bA,dv];rw[hg];exact⟨hf,he⟩
     ·exact he
    ·exact h
   have skip:∀(hg:(match x.g with|none=>some true|some (j,want)=>match st.slot j with|.pv (.bool b)=>(match b with|true=>(match want with|true=>some true|false=>some false)|false=>(match want with|true=>some false|false=>some true))|.pv (.ep _)=>some false|_=>none)=some false),
     (run A T U n (.fC xs lt.tail (cC++[ib])::r) (st.put x.d uZ)).holds C A I Q→bA C A I (.fC (x::xs) lt cC::r) Q .normal st:=fun hg h=>by
    simp only[bA,dv];rw[hg];exact ih (.fC xs lt.tail (cC++[ib])::r) _ h
   split at h
   ·rename_i hg;exact key (by rw[hg]) h
   ·rename_i j want hg;split at h
    ·rename_i b hs;split at h
     ·split at h
      ·exact key (by rw[hg];simp only[hs]) h
      ·exact skip (by rw[hg];simp only[hs]) h
     ·split at h
      ·exact key (by rw[hg];simp only[hs]) h
      ·exact skip (by rw[hg];simp only[hs]) h
    ·rename_i l hs;exact skip (by rw[hg];simp only[hs]) h
    ·exact h
  |.B2 _::r=>exact ih r st h
  |.code c::r=>
   cases c with
   |skip=>exact ih r st h
   |vJ ops lt=>
    cases lt with
    |none=>exact ih (.ops ops::r) st h
    |some lt=>exact⟨st,.refl _,.inl (ih (.fC ops lt []::r) st h)⟩
   |seq a b=>
    have:=ih (.code a::.code b::r) st h;refine e9 hI a ?_ this;intro e s hs
    cases e with
    |normal=>exact hs
    |ret=>exact hs
    |exit id=>exact hs
   |cond c a b=>
    simp only[run]at h;split at h
    ·rename_i t hc;simp only[bA,fw,hc];split at h
     ·exact ih (.code a::r) st h
     ·exact ih (.code b::r) st h
    ·exact h
   |block id b=>
    have:=ih (.code b::.B2 id::r) st h;refine e9 hI b ?_ this;intro e s hs
    cases e with
    |normal=>exact hs
    |ret=>exact hs
    |exit j=>
     simp only[bA]at hs
     have hc:(id==j)=(j==id):=by rw[Bool.eq_iff_iff];constructor<;>intro h<;>exact beq_iff_eq.2 (beq_iff_eq.1 h).symm
     rw[hc]at hs;exact hs
   |loop b=>
    simp only[run]at h;split at h
    ·have:=ih (.code b::.code (.loop b)::r) st h;refine lZ hI (.refl _) (e9 hI b ?_ this);intro e s hs
     cases e with
     |normal=>exact hs
     |ret=>exact hs
     |exit j=>exact hs
    ·exact h
   |exit id=>
    simp only[run]at h;split at h
    ·rename_i r' ri;exact iD id r Q st r' ri (ih _ st h)
    ·split at h
     ·rename_i ho;exact kX id r Q st ho h
     ·exact h
   |ret=>
    simp only[run]at h;show bA C A I r Q .ret st;rw[jS]
    cases hr:kW r with
    |none=>rw[hr]at h;exact h
    |some q=>
     obtain⟨⟨cN,m,base,d⟩,r'⟩:=q;rw[hr]at h;simp only[wG]at h ⊢
     cases hv:mU cN st with
     |none=>rw[hv]at h;exact h.elim
     |some v=>rw[hv]at h;exact ih _ _ h
theorem qP {Q:Ex→St→Prop} {is:List Item} {st:St} (n:Nat) (r:bl) (h:run A T U n is st=r) (hr:r.holds C A I Q):
  bA C A I is Q .normal st:=HV hI hT Q n is st (h▸hr)
end Go.Am
end
section
namespace Go.Am
def l0:Value→Option PV
 |.bool b=>some (.bool b)
 |.int k n=>some (.int k n)
 |.string s=>some (.str s.data.toList)
 |.pointer none=>some .nj
 |.nilFunc=>some .At
 |.nilIface=>some .kT
 |.map none=>some .pn
 |.slice none 0 0=>some (.sl [] [])
 |.func (.func f) first fW=>match first.toList,fW.toList with
  |[],[]=>some (.gZ f [])
  |_,_=>none
 |_=>none
def jT:List Value→Option (List PV)
 |[]=>some []
 |v::r=>match l0 v with
  |some p=>match jT r with|some ps=>some (p::ps)|none=>none
  |none=>none
def vM (v:Value):Option PV:=
 match v with
 |.agg cs=>match jT cs.toList with|some ps=>some (.agg ps)|none=>none
 |v=>l0 v
section
variable (P:Program) (G:Nat→Option (List PV)) (accs:List Nat)
def a8:Operand→Option bN
 |.tmp t=>some (.t t)
 |.const v=>(vM v).map .k
 |.global g=>(G g).map .g
 |.func f=>some (.k (.gZ f []))
def dO:List Operand→Option (List bN)
 |[]=>some []
 |x::r=>match a8 G x with
  |some p=>match dO r with|some ps=>some (p::ps)|none=>none
  |none=>none
def bZ (t:TypeId):Option Nat:=(P.info? t).map (·.size)
def oz (t:TypeId):Option Nat:=(P.info? t).map (·.bytes)
def uj (t:TypeId):Option PV:=(P.info? t).bind fun i=>i.zero.bind vM
def ic (t:TypeId):Option (List PV):=(P.info? t).bind fun i=>i.zero.bind fun z=>(vM z).map PV.cells
def eu (t:TypeId):Option Bool:=match P.underlying t with
 |some (.struct _)=>some true
 |some (.array ..)=>some true
 |some _=>some false
 |none=>none
def wI (t:TypeId):Option TypeId:=match P.underlying t with
 |some (.slice e)=>some e
 |_=>none
def r7 (t:TypeId) (f:Nat):Option Field:=match P.underlying t with
 |some (.struct fs)=>fs[f]?
 |_=>none
def F6 (k:Nat) (d:Option Nat):Bool:=match d with|some d=>accs.contains (3*d+k)|none=>false
def MH (d:Option Nat):Bool:=match d with|some d=>accs.contains (1000000+d)|none=>false
def r8 (t:TypeId):List (Nat×Operand)→Option (List (Nat×Nat×bN))
 |[]=>some []
 |(i,x)::r=>(r7 P t i).bind fun f=>(bZ P f.type).bind fun n=>(a8 G x).bind fun x=>(r8 t r).map fun ps=>(f.offset,n,x)::ps
def r9 (n:Nat):List (Nat×Operand)→Option (List (Nat×Nat×bN))
 |[]=>some []
 |(i,x)::r=>(a8 G x).bind fun x=>(r9 n r).map fun ps=>(i*n,n,x)::ps
def ly:Nat→List (Nat×Operand)→Option (List bN)
 |_,[]=>some []
 |k,(i,x)::r=>if i=k then(a8 G x).bind fun x=>(ly (k+1) r).map (x::·)else none
def cX (go:TypeId→Option (List Nat)):List Nat→List Field→Option (List Nat)
 |sh,[]=>some sh
 |sh,f::r=>if f.name= "_" ∨f.offset≠sh.length then none else match go f.type with
  |some k=>if bZ P f.type=some k.length then cX go (sh++k) r else none
  |none=>none
def cV:Nat→TypeId→Option (List Nat)
 |0,_=>none
 |n+1,t=>match P.underlying t with
  |some .bool=>some [0]
  |some (.int _)=>some [1]
  |some .string=>some [2]
  |some (.struct fs)=>if P.stoodInHeld t=true then none else cX P (cV n) [] fs.toList
  |some (.array m e)=>match cV n e with
   |some [k]=>if eu P e=some false∧bZ P e=some 1 then some (List.replicate m k)else none
   |_=>none
  |_=>none
def kp:Option Operand→Option (Option bN)
 |none=>some none
 |some x=>(a8 G x).map some
def isConst:Operand→Bool
 |.const _=>true
 |_=>false
def uk (o:Oper):Option yB:=
 match o.op with
 |.move x|.assign x=>match x,F6 accs 0 o.dst with
  |.const (.slice none 0 0),true=>(wI P o.type).bind fun e=>(bZ P e).map fun n=>.dB n []
  |x,_=>(a8 G x).map .mv
 |.pick c a b=>(a8 G c).bind fun c=>(a8 G a).bind fun a=>(a8 G b).map fun b=>.pick c a b
 |.alloc e=>(ic P e).map fun z=>match z with
  |[.nj,.sl [] []]=>.uf e z
  |z=>.alloc z
 |.box e x=>(a8 G x).bind fun x=>(bZ P e).map (.box x)
 |.build t parts=>(ic P t).bind fun z=>match P.underlying t with
  |some (.struct fs)=>match fs.toList.all fun f=>(P.info? f.type).isSome with
   |true=>(r8 P G t parts.toList).map (.mk z)
   |false=>none
  |some (.array _ e)=>(bZ P e).bind fun n=>(r9 G n parts.toList).map (.mk z)
  |_=>none
 |.buildSlice t len parts=>(wI P t).bind fun e=>(bZ P e).bind fun n=>(ly G 0 parts.toList).bind fun ps=>
   if ps.length=len∧0<n∧len*n≤2^24 then(match ic P e with|some _=>(match F6 accs 0 o.dst with|true=>some (.dB n ps)|false=>(match F6 accs 1 o.dst with|true=>some (.TR n ps)|false=>some (.TK n ps)))|none=>none)else none
 |.load t a=>(a8 G a).bind fun a=>(eu P t).bind fun g=>match g with
  |true=>(bZ P t).map fun n=>.ld a (some n)
  |false=>some (.ld a none)
 |.store t a x=>(a8 G a).bind fun a=>(a8 G x).bind fun x=>(bZ P t).map fun n=>.st a x n
 |.nilCheck x=>(a8 G x).map .Xi
 |.binOp op t x y _=>(a8 G x).bind fun x'=>(a8 G y).bind fun y'=>match P.underlying t with
  |some .bool=>some (.D5 op x' y')
  |some (.int _)=>some (.bin op x' y')
  |some .string=>some (.bin op x' y')
  |some (.struct _)=>match P.eqGuardType P.depth t with|true=>none|false=>(cV P 6 t).map fun sh=>.beq op sh x' y'
  |some (.interface _)=>match isConst x||isConst y with|true=>some (.D6 op x' y')|false=>none
  |some (.pointer e)=>match isConst y with
   |true=>some (.Cb false op x' y')
   |false=>match P.info? e with|some _=>some (.pp op x' y')|none=>none
  |some (.func ..)=>some (.Cb true op x' y')
  |some (.slice _)=>match op,y with|.eql,.const (.slice none 0 0)=>some (.D8 x')|_,_=>none
  |_=>none
 |.unOp op _ x=>(a8 G x).map (.un op)
 |.convert s d x=>(a8 G x).bind fun x=>match P.underlying s,P.underlying d with
  |some (.int _),some (.int k)=>some (.Xj k x)
  |some .string,some .string=>some (.Xk x)
  |some (.slice e),some .string=>match P.underlying e with|some (.int .u8)=>some (.Ri x)|_=>none
  |some (.pointer e),some .unsafePointer=>match P.info? e with
   |some i=>match i.size with|0=>none|_=>some (.Xr x)
   |none=>none
  |some .unsafePointer,some (.pointer e)=>match P.info? e with
   |some i=>match liesAt P P.depth e (i.size/P.cellsOf e) 0 e 1 with|true=>some (.Xs e i.size x)|false=>none
   |none=>none
  |_,_=>none
 |.makeInterface t x=>match P.underlying t with
  |some (.interface _)=>none
  |some _=>(a8 G x).map (.Xl t)
  |none=>none
 |.makeFunc (.func f) first fW=>match first.toList with
  |[]=>(dO G fW.toList).map (.TL f)
  |l=>match fW.toList with
   |[]=>(dO G l).map (.D7 f)
   |_=>none
 |.makeSlice t l c=>(wI P t).bind fun e=>(bZ P e).bind fun n=>(oz P e).bind fun b=>(ic P e).bind fun z=>
   if z.length=n∧0<n then(a8 G l).bind fun l=>(a8 G c).map fun c=>.TN n b z l c else none
 |.slice t x lo hi none=>(a8 G x).bind fun x=>(kp G lo).bind fun lo=>(kp G hi).bind fun hi=>match P.underlying t with
  |some .string=>some (.ud x lo hi)
  |some (.slice e)=>match F6 accs 2 o.dst,lo,hi with
   |true,none,some h=>(bZ P e).map fun n=>.Ms n x h
   |true,some (.k (.int .i64 0)),some h=>(bZ P e).map fun n=>.Ms n x h
   |_,lo,hi=>(bZ P e).map fun n=>.Mr n x lo hi
  |some (.array m e)=>match lo,hi with
   |none,none=>match bZ P e with
    |some 1=>some (.TT x m)
    |_=>none
   |_,_=>none
  |_=>none
 |.slice t x lo (some (.const (.int _ 0))) (some (.const (.int _ 0)))=>match P.underlying t,lo with
  |some (.slice e),none=>(a8 G x).bind fun x=>(bZ P e).map fun _=>.TS x
  |some (.slice e),some (.const (.int _ 0))=>(a8 G x).bind fun x=>(bZ P e).map fun _=>.TS x
  |_,_=>none
 |.field s x f=>(a8 G x).bind fun x=>(r7 P s f).bind fun fd=>(eu P fd.type).bind fun g=>match g with
  |true=>(bZ P fd.type).map fun n=>.TV x fd.offset (some n)
  |false=>some (.TV x fd.offset none)
 |.makeMap t none=>match P.underlying t with
  |some (.map k e)=>match P.underlying e with
   |some (.func ..)=>match P.underlying k with|some .string=>some .Xm|_=>none
   |_=>(eu P k).bind fun kg=>(eu P e).bind fun vg=>(bZ P k).bind fun kn=>match kg,kn with|true,kn=>some (.TW true vg kn)|false,1=>some (.TW false vg 1)|_,_=>none
  |_=>none
 |.mapUpdate t m k x|.insert t m k x=>match P.underlying t with
  |some (.map kt e)=>(a8 G m).bind fun m=>(a8 G k).bind fun k=>(a8 G x).bind fun x=>(cV P 6 kt).bind fun sh=>(eu P kt).bind fun kg=>(bZ P e).map fun n=>.Rj kg sh n m k x
  |_=>none
 |.mapEntry t m k=>match P.underlying t with
  |some (.map kt e)=>(a8 G m).bind fun m=>(a8 G k).bind fun k=>(cV P 6 kt).bind fun sh=>(eu P kt).bind fun kg=>(uj P e).map fun z=>.uC kg sh z m k
  |_=>none
 |.entryStore t m s x=>match P.underlying t with
  |some (.map _ e)=>(a8 G m).bind fun m=>(a8 G s).bind fun s=>(a8 G x).bind fun x=>(bZ P e).map fun n=>.Cc n m s x
  |_=>none
 |.lookup t m k ok=>match P.underlying t with
  |some (.map kt e)=>(a8 G m).bind fun m=>(a8 G k).bind fun k=>(cV P 6 kt).bind fun sh=>(eu P kt).bind fun kg=>(uj P e).map fun z=>.Mt kg sh z ok m k
  |_=>none
 |.range t x=>match P.underlying t with
  |some .string=>(a8 G x).map .Xo
  |some (.map _ _)=>(a8 G x).map .Xq
  |_=>none
 |.next x b=>match b with
  |true=>(a8 G x).map .Xp
  |false=>(a8 G x).map .HR
 |.entry x=>(a8 G x).map .HS
 |.fieldAddr s x f=>(a8 G x).bind fun x=>(r7 P s f).bind fun fd=>(bZ P fd.type).bind fun n=>match n with
  |0=>none
  |_=>some (.pad x fd.offset)
 |.indexAddr t x i=>(a8 G x).bind fun x=>(a8 G i).bind fun i=>match P.underlying t with
  |some (.slice e)=>(bZ P e).map fun n=>.idx x i n
  |some (.array m e)=>(bZ P e).map fun n=>.TO x i m n
  |_=>none
 |.index t x i=>(a8 G x).bind fun x=>(a8 G i).bind fun i=>match P.underlying t with
  |some .string=>some (.TP x i)
  |some (.array m e)=>match eu P e,bZ P e with
   |some false,some 1=>some (.TU x i m)
   |_,_=>none
  |_=>none
 |.extract x i=>(a8 G x).map fun x=>.ext x i
 |.call c=>match c.callee with
  |.value (.func f)=>(dO G c.args.toList).map (.call f)
  |.value x=>(a8 G x).bind fun x=>(dO G c.args.toList).map (.Ca x)
  |.builtin .len=>match c.args.toList,c.argTypes.toList with
   |[x],[t]=>match P.underlying t with
    |some (.slice _)=>(a8 G x).map .len
    |some .string=>(a8 G x).map .lens
    |some (.map _ _)=>(a8 G x).map .Xn
    |_=>none
   |_,_=>none
  |.builtin .unsafeSliceData=>match c.args.toList with
   |[x]=>(a8 G x).map .TX
   |_=>none
  |.builtin .unsafeString=>match c.args.toList,c.argTypes.toList with
   |[x,n],[t,_]=>match P.underlying t with
    |some (.pointer e)=>match decide (P.cellsOf e=1)with
     |true=>(a8 G x).bind fun x=>(a8 G n).map fun n=>.TY e x n
     |false=>none
    |_=>none
   |_,_=>none
  |.builtin .append=>match c.args.toList,c.argTypes.toList with
   |[x,y],[t,u]=>match MH accs o.dst with
    |true=>(wI P t).bind fun e=>(bZ P e).bind fun n=>(oz P e).bind fun b=>(ic P e).bind fun z=>
     match decide (n=1∧b=1∧z.length=1)with
     |true=>(a8 G x).bind fun x=>(a8 G y).bind fun y=>match P.underlying u with
      |some (.slice _)=>some (.Cd e x y)
      |some .string=>some (.Cd e x y)
      |_=>none
     |false=>none
    |false=>(wI P t).bind fun e=>(bZ P e).bind fun n=>(oz P e).bind fun b=>(ic P e).bind fun z=>if z.length=n then
     ((a8 G x).bind fun x=>(a8 G y).bind fun y=>match P.underlying u with
      |some (.slice _)=>some (.app n b x y)
      |some .string=>if n=1 then some (.app n b x y)else none
      |_=>none)else none
   |_,_=>none
  |.builtin .min=>match c.args.toList with
   |[x,y]=>(a8 G x).bind fun x=>(a8 G y).map fun y=>.TQ false x y
   |_=>none
  |.builtin .max=>match c.args.toList with
   |[x,y]=>(a8 G x).bind fun x=>(a8 G y).map fun y=>.TQ true x y
   |_=>none
  |_=>none
 |_=>none
def nP (ops:Array Oper) (o:Oper):Option AI:=
 match uk P G accs o with
 |none=>none
 |some op=>match o.guard with
  |none=>some ⟨o.dst,op,none⟩
  |some (j,want)=>match(ops[j]?).bind (·.dst)with
   |some s=>some ⟨o.dst,op,some (s,want)⟩
   |none=>none
def fY (ops:Array Oper):List Oper→Option (List AI)
 |[]=>some []
 |o::r=>match nP P G accs ops o with
  |some x=>match fY ops r with|some xs=>some (x::xs)|none=>none
  |none=>none
def iN:List Oper→List (List Nat)→List (List Nat)
 |[],acc=>acc
 |o::r,acc=>iN r (acc++[(o.after.toList.filter (Region.binds .any)).foldl (fun l e=>(e.on::(acc.getD e.on [])).foldl (fun l i=>if l.contains i then l else l++[i]) l) []])
def iY (l:List AI) (lt:List (List Nat)):Bool:=
 (List.range l.length).all fun i=>(lt.getD i []).all (fun k=>decide (k<i))&&(List.range i).all fun j=>(lt.getD i []).contains j||(match l[i]?,l[j]? with|some x,some y=>x.apart y|_,_=>false)
def Rn:PV→PV→Bool
 |.int k n,.int k' n'=>decide (k=k'∧n=n')
 |_,_=>false
def quiet:yB→Bool
 |.bin ..|.mv _=>true
 |_=>false
def Cm (x y:AI):Bool:=match x.op,x.g with
 |.Mt kg sh z ok (.t m) (.t k),none=>match y.op,y.g with
  |.uC rh Jq z' (.t m') (.t k'),none=>match ok with
   |true=>false
   |false=>decide (kg=rh∧sh=Jq∧m=m'∧k=k')&&Rn z z'&&(x.looks.all fun t=>decide (x.d≠some t))
  |_,_=>false
 |_,_=>false
def Ro (l:List AI) (x:AI) (j i:Nat):Bool:=
 (List.range i).all fun q=>match decide (q≤j)with
  |true=>true
  |false=>match l[q]? with
   |some z=>quiet z.op&&x.looks.all fun t=>decide (z.d≠some t)
   |none=>false
def nQ (l:List AI) (j i:Nat):Bool:=match l[j]? with
 |some x=>match l[i]? with
  |some y=>match Cm x y with
   |true=>Ro l x j i
   |false=>false
  |none=>false
 |none=>false
def iO (l:List AI) (lt:List (List Nat)):List (List Nat):=(List.range lt.length).map fun i=>lt.getD i []++(List.range i).filter fun j=>nQ l j i
def dn:Code→Option cT
 |.skip=>some .skip
 |.refuse _=>some (.vJ [⟨none,.ext (.k (.bool true)) 0,none⟩] none)
 |.region _ ops false=>(fY P G accs ops ops.toList).map fun l=>.vJ l none
 |.region _ ops true=>match fY P G accs ops ops.toList with
  |some l=>match iY l (iN ops.toList [])with
   |true=>some (.vJ l (some (iO l (iN ops.toList []))))
   |false=>none
  |none=>none
 |.seq a b=>match dn a with
  |some a=>match dn b with|some b=>some (.seq a b)|none=>none
  |none=>none
 |.cond c a b=>match a8 G c with
  |some c=>match dn a with
   |some a=>match dn b with|some b=>some (.cond c a b)|none=>none
   |none=>none
  |none=>none
 |.block id b=>(dn b).map (.block id)
 |.loop b=>(dn b).map .loop
 |.exit id=>some (.exit id)
 |.ret=>some .ret
 |_=>none
end
end Go.Am
end
