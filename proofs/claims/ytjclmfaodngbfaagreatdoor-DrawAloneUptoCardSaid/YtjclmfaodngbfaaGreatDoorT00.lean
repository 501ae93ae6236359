import Derived.Orders
import Derived.KernelRfl
set_option linter.all false
set_option maxRecDepth 100000
set_option maxHeartbeats 1000000
namespace Go.Am
variable {f:FuncId} {k:Nat}
inductive PV where
 |bool (b:Bool)
 |int (k:IntKind) (n:Int)
 |str (s:List UInt8)
 |mh|yS|j8|oh
 |gM (f:FuncId) (caps:List PV)
 |iface (t:TypeId) (v:PV)
 |agg (cells:List PV)
 |eN (vs:List PV)
 |sl (rows:List (List PV)) (spare:List (List PV))
 |ptr (cells:List PV)
 |mp (kg vg:Bool) (kn:Nat) (rows:List (List PV))
 deriving Inhabited
inductive AV where
 |pv (p:PV)
 |agg (cells:List AV)
 |eN (vs:List AV)
 |c8 (id ver:Nat)
 |ptr (id off:Nat)
 |cR (id ver:Nat) (j:Int) (off:Nat)
 |fQ (row:List PV) (off:Nat)
 |full (rows:List (List PV))
 |gM (f:FuncId) (caps:List AV)
 |Ay (f:FuncId) (first:List AV)
 |kM (rows:List (List AV))
 |fr (id:Nat)
 |eT (id:Nat) (i:Int)
 |iU (t:TypeId)
 |dead
 deriving Inhabited
variable {a:List AV}
inductive Obj where
 |cells (cs:List AV)
 |rows (sz:Nat) (rs:List (List PV)) (ver:Nat)
 |eO (rs:List (List PV)) (ver:Nat)
 |cg (sz:Nat) (rs:List (List AV)) (ver:Nat)
 |map (kg vg:Bool) (kn:Nat) (rows:List (List PV))
 |iw (rows:List (List UInt8×AV))
 |ry (s:List UInt8) (pos:Int)
 |eu (src:PV) (seen:List Nat)
 |cL (t:TypeId) (rs:List (List PV)) (ver:Nat)
 deriving Inhabited
inductive bR where
 |t (i:Nat)
 |k (p:PV)
 |g (row:List PV)
 deriving Inhabited
inductive wQ where
 |mv (x:bR)
 |pick (c a b:bR)
 |alloc (z:List PV)
 |box (x:bR) (n:Nat)
 |mk (z:List PV) (parts:List (Nat×Nat×bR))
 |OS (sz:Nat) (parts:List bR)
 |c8 (sz:Nat) (parts:List bR)
 |ld (x:bR) (n:Option Nat)
 |st (x y:bR) (n:Nat)
 |Ws (x:bR)
 |bin (op:BinOp) (x y:bR)
 |beq (op:BinOp) (sh:List Nat) (x y:bR)
 |CU (op:BinOp) (x y:bR)
 |ahI (op:BinOp) (x y:bR)
 |un (op:UnOp) (x:bR)
 |Wt (k:IntKind) (x:bR)
 |Xe (x:bR)
 |Wu (x:bR)
 |Ql (x:bR)
 |Wv (t:TypeId) (x:bR)
 |SJ (f:FuncId) (caps:List bR)
 |SK (sz bytes:Nat) (z:List PV) (l c:bR)
 |Li (sz:Nat) (x:bR) (lo hi:Option bR)
 |sH (x:bR) (lo hi:Option bR)
 |pad (x:bR) (off:Nat)
 |idx (x i:bR) (sz:Nat)
 |Lj (x i:bR) (n sz:Nat)
 |RX (x i:bR)
 |ext (x:bR) (i:Nat)
 |call (f:FuncId) (args:List bR)
 |AF (x:bR) (args:List bR)
 |len (x:bR)
 |lens (x:bR)
 |app (sz bytes:Nat) (x y:bR)
 |RC (mx:Bool) (x y:bR)
 |CW (f:FuncId) (first:List bR)
 |RE (sz:Nat) (parts:List bR)
 |UM (sz:Nat) (x:bR) (hi:bR)
 |SQ (x:bR)
 |SU (x:bR) (n:Nat)
 |RY (x i:bR) (n:Nat)
 |AG (fn:Bool) (op:BinOp) (x y:bR)
 |SW (x:bR) (off:Nat) (n:Option Nat)
 |SX (kg vg:Bool) (kn:Nat)
 |Ww
 |Qm (kg:Bool) (sh:List Nat) (n:Nat) (m k v:bR)
 |sI (kg:Bool) (sh:List Nat) (z:PV) (m k:bR)
 |AH (n:Nat) (m s v:bR)
 |Ll (kg:Bool) (sh:List Nat) (z:PV) (ok:Bool) (m k:bR)
 |Wx (m:bR)
 |Wy (x:bR)
 |Wz (x:bR)
 |WA (x:bR)
 |Gr (x:bR)
 |Gs (x:bR)
 |FB (x:bR)
 |sJ (t:TypeId) (z:List PV)
 |WB (x:bR)
 |WC (t:TypeId) (n:Nat) (x:bR)
 |pp (op:BinOp) (x y:bR)
 |SY (x:bR)
 |RZ (t:TypeId) (x n:bR)
 |AJ (t:TypeId) (x y:bR)
 deriving Inhabited
structure AI where
 d:Option Nat
 op:wQ
 g:Option (Nat×Bool):=none
 deriving Inhabited
variable {x:AI}
inductive cf where
 |skip
 |pA (ops:List AI) (lt:Option (List (List Nat)))
 |seq (a b:cf)
 |cond (c:bR) (a b:cf)
 |block (id:Nat) (b:cf)
 |loop (b:cf)
 |exit (id:Nat)
 |ret
 deriving Inhabited
variable {b:cf}
structure Ar where
 wrap:IntKind->Int->Int
 add:Int->Int->Int
 sub:Int->Int->Int
 mul:Int->Int->Int
 quo:Int->Int->Int
 rem:Int->Int->Int
 bits:BinOp->IntKind->Int->Int->Int
 shl:IntKind->Int->Int->Int
 shr:IntKind->Int->Int->Int
 lt:Int->Int->Bool
 le:Int->Int->Bool
 eq:Int->Int->Bool
 not:Bool->Bool
 min:Int->Int->Int
 max:Int->Int->Int
 nz:Int->Prop
 z6:Int->Prop
 ofNat:Nat->Int
 wY:List UInt8->Int
 sat:List UInt8->Int->Int
 sin:Int->List UInt8->Prop
 Lm:List UInt8->List UInt8->List UInt8
 Ln:List UInt8->List UInt8->Prop
 Lp:List UInt8->Int->Int->List UInt8
 sbd:Int->Int->List UInt8->Prop
 seq:List UInt8->List UInt8->Bool
 slt:List UInt8->List UInt8->Bool
 jA:List (List PV)->Int
 rat:List (List PV)->Int->List PV
 tu:Int->List (List PV)->Nat->Prop
 oi:List (List PV)->List (List PV)->List (List PV)
 oj:List (List PV)->List (List PV)->Nat->Nat->Prop
 Qn:List (List PV)->List (List PV)->Prop
 peq:List PV->List PV->Bool
 HP:List Nat->List PV->List PV->Prop
 bytes:List UInt8->List (List PV)
 gN:List (List PV)->List UInt8
 qE:List (List PV)->Prop
 uS:List (List PV)->Int->Int->List (List PV)
 Xg:Int->Int->List (List PV)->List (List PV)->Nat->Prop
 wZ:Int->Int->List (List PV)->Nat->Prop
 Gt:List (List PV)->Int->Nat->List PV->List (List PV)
 AK:Int->List PV->List (List PV)
 WD:Int->Int->Nat->Prop
 R3:List (List AV)->Int->List AV
 ain:Int->List (List AV)->Nat->Prop
 Lq:List (List AV)->Int->Nat->List AV->List (List AV)
 yT:List (List AV)->List (List AV)->List (List AV)
 AL:List (List AV)->List (List AV)->Nat->Nat->Prop
 Lr:List (List AV)->Int
 off:Int->Nat->Nat
 PS:Int->Nat->Prop
 CZ:List Nat->Nat->List (List PV)->List PV->Prop
 yU:Nat->List (List PV)->List PV->Bool
 HR:Nat->List (List PV)->List PV->List PV->List PV
 xJ:Nat->List (List PV)->List PV->List PV->PV
 mix:Nat->List (List PV)->List PV->Int
 HS:Nat->List (List PV)->List PV->List PV->List (List PV)
 sK:Nat->List (List PV)->List PV->List PV->List (List PV)
 PT:Nat->List (List PV)->Int->List PV->List (List PV)
 min1:Int->List (List PV)->Prop
 mleft:List Nat->List (List PV)->Nat->Prop
 AM:List Nat->List (List PV)->Bool
 Ls:Bool->Nat->List (List PV)->Nat->PV
 Lt:Bool->Nat->List (List PV)->Nat->PV
 rune:List UInt8->Int->Int
 C0:List UInt8->Int->Int
 Lu:Int->Int->Int
structure St where
 slots:List AV
 held:List AV
 base:Nat
 mem:List (Option Obj)
 deriving Inhabited
variable {st:St}
def St.slot(st:St)(i:Nat):AV:=st.slots.getD i .dead
def St.put(st:St)(d:Option Nat)(v:AV):St:=match d with|some d=>⟨st.slots.set d v,st.held,st.base,st.mem⟩|none=>st
def St.ev(st:St):bR->AV
 |.t i=>st.slot i
 |.k (.sl [] [])=>.full []
 |.k p=>.pv p
 |.g row=>.fQ row 0
def AV.cells:AV->List AV
 |.agg cs=>cs
 |.pv (.agg cs)=>cs.map .pv
 |x=>[x]
def PV.cells:PV->List PV
 |.agg cs=>cs
 |x=>[x]
inductive Out where
 |bad
 |val (v:AV)
 |dG (p:Prop) (v:AV)
 |dp (id:Nat) (o:Obj) (v:AV)
 |ix (p:Prop) (id:Nat) (o:Obj) (v:AV)
 |new (o:Obj) (v:AV)
 |jK (p:Prop) (o:Obj) (v:AV)
 |call (f:FuncId) (args:List AV)
 |all (p:Nat->Prop) (id:Nat) (o:Nat->Obj) (v:Nat->AV)
inductive sE where
 |pure (o:Out)
 |rd (id:Nat) (k:Obj->Out)
def AV.lQ:List AV->Option (List PV)
 |[]=>some []
 |.pv p::r=>match AV.lQ r with|some r=>some (p::r)|none=>none
 |.full rows::r=>match AV.lQ r with|some r=>some (.sl rows []::r)|none=>none
 |_::_=>none
def AV.flat:AV->Option PV
 |.pv p=>some p
 |.full rows=>some (.sl rows [])
 |.agg cs=>match AV.lQ cs with|some cs=>some (.agg cs)|none=>none
 |.gM f a=>match AV.lQ a with|some cs=>some (.gM f cs)|none=>none
 |_=>none
def AV.one:AV->Bool
 |.agg _|.eN _|.dead|.iU _|.pv (.agg _)|.pv (.eN _)=>false
 |_=>true
def PV.laid:PV->AV
 |.sl [] []=>.full []
 |p=>.pv p
def kE:List AV->Bool
 |[]=>true
 |x::r=>match x.one with|true=>kE r|false=>false
def place(a:Nat)(b:List AV)(c:List AV):List AV:=c.take a++b++c.drop (a+b.length)
def jL(a:Nat)(b:List PV)(c:List PV):List PV:=c.take a++b++c.drop (a+b.length)
def js(b:List AV)(a:Nat)(n:Option Nat):Out:=
 match n with
 |none=>match b[a]? with|some v=>.val v|none=>.bad
 |some n=>if a+n<=b.length then .val (.agg ((b.drop a).take n))else .bad
def il(b:List PV)(a:Nat)(n:Option Nat):Out:=
 match n with
 |none=>match b[a]? with|some v=>.val (.pv v)|none=>.bad
 |some n=>if a+n<=b.length then .val (.pv (.agg ((b.drop a).take n)))else .bad
def ur(A:Ar)(x:AV)(n:Option Nat):sE:=
 match x with
 |.ptr id off=>.rd id fun o=>match o with
  |.cells cs=>js cs off n
  |_=>.bad
 |.cR id a j off=>.rd id fun o=>match o with
  |.rows _ rs b=>match a==b with|true=>il (A.rat rs j) off n|false=>.bad
  |.eO rs b=>match a==b with|true=>il (A.rat rs j) off n|false=>.bad
  |.cg _ rs b=>match a==b with|true=>js (A.R3 rs j) off n|false=>.bad
  |_=>.bad
 |.fQ row off=>.pure (il row off n)
 |.pv (.ptr row)=>.pure (il row 0 n)
 |_=>.pure .bad
def rq(A:Ar)(x y:AV)(n:Nat):sE:=
 match x with
 |.ptr id off=>.rd id fun o=>match o with
  |.cells cs=>match kE y.cells with
   |true=>if y.cells.length=n/\off+n<=cs.length then .dp id (.cells (place off y.cells cs)) .dead else .bad
   |false=>.bad
  |_=>.bad
 |.cR id a j off=>match kE y.cells with
  |true=>.rd id fun o=>match o with
   |.rows b rs c=>match AV.lQ y.cells with
    |some ys=>match a==c with
     |true=>if ys.length=n/\off+n<=b then .dp id (.rows b (A.Gt rs j off ys) a) .dead else .bad
     |false=>.bad
    |none=>.bad
   |.cg b rs c=>match a==c with
     |true=>if y.cells.length=n/\off+n<=b then .dp id (.cg b (A.Lq rs j off y.cells) a) .dead else .bad
     |false=>.bad
   |_=>.bad
  |false=>.pure .bad
 |_=>.pure .bad
def uT(A:Ar)(c:BinOp)(k:IntKind)(a b:Int):Out:=
 match c with
 |.add=>.val (.pv (.int k (A.wrap k (A.add a b))))
 |.sub=>.val (.pv (.int k (A.wrap k (A.sub a b))))
 |.mul=>.val (.pv (.int k (A.wrap k (A.mul a b))))
 |.quo=>.dG (A.nz b) (.pv (.int k (A.wrap k (A.quo a b))))
 |.rem=>.dG (A.nz b) (.pv (.int k (A.rem a b)))
 |.lss=>.val (.pv (.bool (A.lt a b)))
 |.leq=>.val (.pv (.bool (A.le a b)))
 |.gtr=>.val (.pv (.bool (A.lt b a)))
 |.geq=>.val (.pv (.bool (A.le b a)))
 |.eql=>.val (.pv (.bool (A.eq a b)))
 |.neq=>.val (.pv (.bool (A.not (A.eq a b))))
 |.and=>.val (.pv (.int k (A.bits .and k a b)))
 |.or=>.val (.pv (.int k (A.bits .or k a b)))
 |.xor=>.val (.pv (.int k (A.bits .xor k a b)))
 |.andNot=>.val (.pv (.int k (A.bits .andNot k a b)))
 |_=>.bad
def uU(A:Ar)(c:BinOp)(a b:List UInt8):Out:=
 match c with
 |.add=>.dG (A.Ln a b) (.pv (.str (A.Lm a b)))
 |.eql=>.val (.pv (.bool (A.seq a b)))
 |.neq=>.val (.pv (.bool (A.not (A.seq a b))))
 |.lss=>.val (.pv (.bool (A.slt a b)))
 |_=>.bad
def uu(c:BinOp)(a b:Bool):Out:=
 match c with
 |.eql=>.val (.pv (.bool (match a with|true=>b|false=>(match b with|true=>false|false=>true))))
 |.neq=>.val (.pv (.bool (match b with|true=>(match a with|true=>false|false=>true)|false=>a)))
 |_=>.bad
def xK(A:Ar)(c:BinOp)(x y:AV):Out:=
 match x,y with
 |.pv (.int k a),.pv (.int d b)=>match c with
  |.shl=>.dG (A.z6 b) (.pv (.int k (A.shl k a b)))
  |.shr=>.dG (A.z6 b) (.pv (.int k (A.shr k a b)))
  |c=>if k=d then uT A c k a b else .bad
 |.pv (.str a),.pv (.str b)=>uU A c a b
 |_,_=>.bad
def yV(c:BinOp)(x y:AV):Out:=
 match x,y with
 |.pv (.bool a),.pv (.bool b)=>uu c a b
 |_,_=>.bad
def EH(a:BinOp)(x y:AV):Out:=
 match x.flat,y.flat with
 |some p,some q=>match p,q with
  |.j8,.j8=>match a with|.eql=>.val (.pv (.bool true))|.neq=>.val (.pv (.bool false))|_=>.bad
  |.j8,.iface ..=>match a with|.eql=>.val (.pv (.bool false))|.neq=>.val (.pv (.bool true))|_=>.bad
  |.iface ..,.j8=>match a with|.eql=>.val (.pv (.bool false))|.neq=>.val (.pv (.bool true))|_=>.bad
  |_,_=>.bad
 |_,_=>.bad
def mH(a:BinOp)(b:Bool):Out:=
 match a with
 |.eql=>.val (.pv (.bool b))
 |.neq=>.val (.pv (.bool (match b with|true=>false|false=>true)))
 |_=>.bad
def EI(b:Bool)(a:BinOp)(x y:AV):Out:=
 match b with
 |false=>match y with
  |.pv .mh=>match x with
   |.pv .mh=>mH a true
   |.iU _=>mH a true
   |.ptr _ _|.fQ _ _|.pv (.ptr _)=>mH a false
   |_=>.bad
  |_=>.bad
 |true=>match y with
  |.pv .yS=>match x with
   |.pv .yS=>mH a true
   |.gM _ _|.Ay _ _|.pv (.gM _ _)=>mH a false
   |_=>.bad
  |_=>.bad
def AO(A:Ar)(b:BinOp)(a:List Nat)(x y:AV):Out:=
 match x.flat,y.flat with
 |some (.agg xs),some (.agg ys)=>match b with
  |.eql=>.dG (A.HP a xs ys) (.pv (.bool (A.peq xs ys)))
  |.neq=>.dG (A.HP a xs ys) (.pv (.bool (A.not (A.peq xs ys))))
  |_=>.bad
 |_,_=>.bad
def Lv(A:Ar)(a:UnOp)(x:AV):Out:=
 match a,x with
 |.not,.pv (.bool true)=>.val (.pv (.bool false))
 |.not,.pv (.bool false)=>.val (.pv (.bool true))
 |.neg,.pv (.int k n)=>.val (.pv (.int k (A.wrap k (A.sub 0 n))))
 |_,_=>.bad
def qo(A:Ar)(a:Nat)(x:AV)(b c:Option Int):Out:=
 match x with
 |.pv (.sl rows spare)=>
  let l:=b.getD 0
  match c with
  |none=>.dG (A.wZ l (A.jA rows) rows a) (.pv (.sl (A.uS rows l (A.jA rows)) spare))
  |some h=>match spare with
   |[]=>.dG (A.wZ l h rows a) (.pv (.sl (A.uS rows l h) []))
   |s=>.dG (A.Xg l h rows s a) (.pv (.sl (A.uS (A.oi rows s) l h) []))
 |.full rows=>
  let l:=b.getD 0
  match c with
  |none=>.dG (A.wZ l (A.jA rows) rows a) (.full (A.uS rows l (A.jA rows)))
  |some h=>.dG (A.wZ l h rows a) (.pv (.sl (A.uS rows l h) []))
 |_=>.bad
def mI(A:Ar)(d:Nat)(x:AV)(c b:Option Int):sE:=
 match x with
 |.c8 id a=>.rd id fun o=>match o with
   |.eO rs e=>match a==e with|true=>qo A d (.pv (.sl rs [])) c b|false=>.bad
   |.rows _ rs e=>match a==e with
    |true=>.ix (A.wZ (c.getD 0) (b.getD (A.jA rs)) rs d) id (.eO rs a)
      (.pv (.sl (A.uS rs (c.getD 0) (b.getD (A.jA rs))) (A.uS rs (b.getD (A.jA rs)) (A.jA rs))))
    |false=>.bad
   |_=>.bad
 |x=>.pure (qo A d x c b)
def ru(A:Ar)(b:Nat)(x:AV)(h:Int):sE:=
 match x with
 |.c8 id a=>.rd id fun o=>match o with
   |.rows c rs d=>match a==d with
    |true=>.ix (A.wZ 0 h rs b) id (.rows c (A.uS rs 0 h) (a+1)) (.c8 id (a+1))
    |false=>.bad
   |_=>.bad
 |_=>.pure .bad
def oB(A:Ar)(x:AV)(a b:Option Int):Out:=
 match x with
 |.pv (.str s)=>.dG (A.sbd (a.getD 0) (b.getD (A.wY s)) s) (.pv (.str (A.Lp s (a.getD 0) (b.getD (A.wY s)))))
 |_=>.bad
def yW(A:Ar)(x:AV)(j:Int)(b:Nat):sE:=
 match x with
 |.pv (.sl rows _)=>.pure (.dG (A.tu j rows b) (.fQ (A.rat rows j) 0))
 |.full rows=>.pure (.dG (A.tu j rows b) (.fQ (A.rat rows j) 0))
 |.c8 id a=>.rd id fun o=>match o with
   |.rows _ rs c=>match a==c with|true=>.dG (A.tu j rs b) (.cR id a j 0)|false=>.bad
   |.eO rs c=>match a==c with|true=>.dG (A.tu j rs b) (.cR id a j 0)|false=>.bad
   |.cg _ rs c=>match a==c with|true=>.dG (A.ain j rs b) (.cR id a j 0)|false=>.bad
   |_=>.bad
 |_=>.pure .bad
def yX(A:Ar)(x:AV):sE:=
 match x with
 |.pv (.sl rows _)=>.pure (.val (.pv (.int .i64 (A.jA rows))))
 |.full rows=>.pure (.val (.pv (.int .i64 (A.jA rows))))
 |.c8 id a=>.rd id fun o=>match o with
   |.rows _ rs b=>match a==b with|true=>.val (.pv (.int .i64 (A.jA rs)))|false=>.bad
   |.eO rs b=>match a==b with|true=>.val (.pv (.int .i64 (A.jA rs)))|false=>.bad
   |.cg _ rs b=>match a==b with|true=>.val (.pv (.int .i64 (A.Lr rs)))|false=>.bad
   |.cL _ rs b=>match a==b with|true=>.val (.pv (.int .i64 (A.jA rs)))|false=>.bad
   |_=>.bad
 |.kM rows=>.pure (.val (.pv (.int .i64 (A.Lr rows))))
 |_=>.pure .bad
def r8(A:Ar)(x:AV):Option (List (List PV)):=
 match x with
 |.pv (.sl rows _)=>some rows
 |.full rows=>some rows
 |.pv (.str s)=>some (A.bytes s)
 |_=>none
def pB(A:Ar)(x:AV):Option (List (List AV)):=
 match x with
 |.kM rows=>some rows
 |x=>match r8 A x with|some rows=>some (rows.map (·.map .pv))|none=>none
def uv:List (List PV)->AV->Bool
 |_::_,.full []=>true
 |_,_=>false
def yY(A:Ar)(k:Nat)(c a:Nat)(x:AV)(y:AV):sE:=
 match x with
  |.full xs=>match uv xs y with
   |true=>.pure (.val (.full xs))
   |false=>match r8 A y with
    |some ys=>.pure (.jK (A.oj xs ys a c/\A.Qn xs ys) (.rows c (A.oi xs ys) 0) (.c8 k 0))
    |none=>match y with
     |.kM ys=>.pure (.jK (A.AL (xs.map (·.map .pv)) ys a c/\ys≠[]) (.cg c (A.yT (xs.map (·.map .pv)) ys) 0) (.c8 k 0))
     |_=>.pure .bad
  |.c8 id b=>.rd id fun o=>match o with
    |.rows d rs e=>match c==d with
     |true=>match b==e with
      |true=>match r8 A y with
       |some ys=>.ix (A.oj rs ys a c) id (.rows c (A.oi rs ys) (b+1)) (.c8 id (b+1))
       |none=>.bad
      |false=>.bad
     |false=>.bad
    |.cg d rs e=>match c==d with
     |true=>match b==e with
      |true=>match pB A y with
       |some ys=>.ix (A.AL rs ys a c) id (.cg c (A.yT rs ys) (b+1)) (.c8 id (b+1))
       |none=>.bad
      |false=>.bad
     |false=>.bad
    |_=>.bad
  |_=>.pure .bad
def cX(ρ:bR->AV):Option bR->Option (Option Int)
 |none=>some none
 |some x=>match ρ x with|.pv (.int _ n)=>some (some n)|_=>none
def fA(a:Nat)(ρ:bR->AV):List bR->Option (List (List PV))
 |[]=>some []
 |x::r=>match(ρ x).flat with
  |some p=>match p.cells.length==a with
   |true=>match fA a ρ r with|some rs=>some (p.cells::rs)|none=>none
   |false=>none
  |none=>none
def fB(a:Nat)(ρ:bR->AV):List bR->Option (List (List AV))
 |[]=>some []
 |x::r=>match kE (ρ x).cells with
  |true=>match(ρ x).cells.length==a with
   |true=>match fB a ρ r with|some rs=>some ((ρ x).cells::rs)|none=>none
   |false=>none
  |false=>none
def aly:AV->Bool
 |.full []=>true
 |_=>false
def uV(ρ:bR->AV):List bR->Bool
 |[]=>false
 |x::r=>match aly (ρ x)with|true=>true|false=>uV ρ r
def qF(a:Nat)(ρ:bR->AV)(parts:List bR):Option (List (List PV)):=
 match uV ρ parts with
 |true=>none
 |false=>fA a ρ parts
def PV.isAgg:PV->Bool
 |.agg _=>true
 |_=>false
def keyOf(a:Bool)(kn:Nat)(x:AV):Option (List PV):=
 match x.flat with
 |some p=>match p.isAgg==a with
  |true=>match p.cells.length==kn with|true=>some p.cells|false=>none
  |false=>none
 |none=>none
def tv(A:Ar)(a:Bool)(kn:Nat)(rows:List (List PV))(k z:List PV):AV:=
 match a with
 |true=>.pv (.agg (A.HR kn rows k z))
 |false=>.pv (A.xJ kn rows k z)
def uf(ok:Bool)(v:AV)(b:Bool):AV:=
 match ok with
 |true=>.eN [v,.pv (.bool b)]
 |false=>v
def jM(A:Ar)(k:List UInt8)(z:AV)(ok:Bool):List (List UInt8×AV)->Out
 |[]=>.val (uf ok z false)
 |(s,v)::r=>match A.seq k s with
  |true=>.val (uf ok v true)
  |false=>jM A k z ok r
def anew(s:List UInt8):List (List UInt8×AV)->Prop
 |[]=>True
 |(t,_)::r=>s≠t/\anew s r
def oC(a:Bool)(b:List Nat)(k:AV):Option (List UInt8):=
 match a with
 |true=>none
 |false=>match b with
  |[2]=>match k with
   |.pv (.str s)=>some s
   |_=>none
  |_=>none
def uW(A:Ar)(b:Bool)(c:List Nat)(z:PV)(ok:Bool)(m k:AV):sE:=
 match m with
 |.pv .oh=>match keyOf b c.length k with
  |some a=>.pure (.dG (A.CZ c c.length [] a) (uf ok (.pv z) false))
  |none=>.pure .bad
 |.pv (.mp e d kn rows)=>match(match b==e with|true=>z.isAgg==d|false=>false)with
  |true=>match keyOf b kn k with
   |some a=>.pure (.dG (A.CZ c kn rows a) (uf ok (tv A d kn rows a z.cells) (A.yU kn rows a)))
   |none=>.pure .bad
  |false=>.pure .bad
 |.fr id=>.rd id fun o=>match o with
  |.map e d kn rows=>match(match b==e with|true=>z.isAgg==d|false=>false)with
   |true=>match keyOf b kn k with
    |some a=>.dG (A.CZ c kn rows a) (uf ok (tv A d kn rows a z.cells) (A.yU kn rows a))
    |none=>.bad
   |false=>.bad
  |.iw rows=>match oC b c k with
   |some s=>jM A s (.pv z) ok rows
   |none=>.bad
  |_=>.bad
 |_=>.pure .bad
def EJ(A:Ar)(a:Bool)(b:List Nat)(n:Nat)(m k v:AV):sE:=
 match m with
 |.fr id=>.rd id fun o=>match o with
  |.map c d kn rows=>match a==c with
   |true=>match keyOf a kn k with
    |some e=>match keyOf d n v with
     |some f=>.ix (A.CZ b kn rows e) id (.map c d kn (A.HS kn rows e f)) .dead
     |none=>.bad
    |none=>.bad
   |false=>.bad
  |.iw rows=>match oC a b k with
   |some s=>match v.one with
    |true=>.ix (anew s rows) id (.iw (rows++[(s,v)])) .dead
    |false=>.bad
   |none=>.bad
  |_=>.bad
 |_=>.pure .bad
def uX(A:Ar)(c:Bool)(e:List Nat)(z:PV)(m k:AV):sE:=
 match m with
 |.fr id=>.rd id fun o=>match o with
  |.map d b kn rows=>match(match c==d with|true=>z.isAgg==b|false=>false)with
   |true=>match keyOf c kn k with
    |some a=>.ix (A.CZ e kn rows a) id (.map d b kn (A.sK kn rows a z.cells)) (.eN [tv A b kn rows a z.cells,.eT id (A.mix kn rows a)])
    |none=>.bad
   |false=>.bad
  |_=>.bad
 |_=>.pure .bad
def yZ(A:Ar)(n:Nat)(m s v:AV):sE:=
 match m,s with
 |.fr id,.eT b i=>match id==b with
  |true=>.rd id fun o=>match o with
   |.map c a kn rows=>match keyOf a n v with
    |some d=>.ix (A.min1 i rows) id (.map c a kn (A.PT kn rows i d)) .dead
    |none=>.bad
   |_=>.bad
  |false=>.pure .bad
 |_,_=>.pure .bad
def uw(A:Ar)(m:AV):sE:=
 match m with
 |.pv .oh=>.pure (.val (.pv (.int .i64 0)))
 |.pv (.mp _ _ _ rows)=>.pure (.val (.pv (.int .i64 (A.jA rows))))
 |.fr id=>.rd id fun o=>match o with
  |.map _ _ _ rows=>.val (.pv (.int .i64 (A.jA rows)))
  |_=>.bad
 |_=>.pure .bad
def ae2(A:Ar)(x:AV):sE:=
 match x with
 |.ptr id 0=>.rd id fun o=>match o with
  |.ry s pos=>match A.lt pos (A.wY s)with
   |true=>.dp id (.ry s (A.Lu pos (A.C0 s pos))) (.pv (.eN [.bool true,.int .i64 pos,.int .i32 (A.rune s pos)]))
   |false=>.val (.pv (.eN [.bool false]))
  |_=>.bad
 |_=>.pure .bad
def ae3(A:Ar)(x:AV):sE:=
 match x with
 |.ptr id 0=>.rd id fun o=>match o with
  |.eu .oh _=>.val (.pv (.eN [.bool false]))
  |.eu (.mp a b kn rows) seen=>match A.AM seen rows with
   |true=>.val (.pv (.eN [.bool false]))
   |false=>.all (fun i=>A.mleft seen rows i) id (fun i=>.eu (.mp a b kn rows) (i::seen)) (fun i=>.pv (.eN [.bool true,A.Ls a kn rows i,A.Lt b kn rows i]))
  |_=>.bad
 |_=>.pure .bad
def ux(A:Ar)(x:AV):sE:=
 match x with
 |.ptr id 0=>.rd id fun o=>match o with
  |.eu (.mp a b kn rows) (i::_)=>.val (.pv (.eN [A.Ls a kn rows i,A.Lt b kn rows i]))
  |_=>.bad
 |_=>.pure .bad
def jt(ρ:bR->AV):List (Nat×Nat×bR)->List AV->Option (List AV)
 |[],cs=>some cs
 |(off,n,x)::r,cs=>match(match kE (ρ x).cells with|true=>(ρ x).cells.length==n|false=>false)with
  |true=>match decide (off+n<=cs.length)with
   |true=>jt ρ r (place off (ρ x).cells cs)
   |false=>none
  |false=>none
def KA(A:Ar)(d:Nat)(B:wQ)(ρ:bR->AV):sE:=
 match B with
 |.mv x=>.pure (.val (ρ x))
 |.pick c a b=>match ρ c with
  |.pv (.bool true)=>.pure (.val (ρ a))
  |.pv (.bool false)=>.pure (.val (ρ b))
  |_=>.pure .bad
 |.alloc z=>.pure (.new (.cells (z.map PV.laid)) (.ptr d 0))
 |.box x n=>match kE (ρ x).cells with
  |true=>match(ρ x).cells.length==n with|true=>.pure (.new (.cells (ρ x).cells) (.ptr d 0))|false=>.pure .bad
  |false=>.pure .bad
 |.mk z parts=>match jt ρ parts (z.map PV.laid)with|some cs=>.pure (.val (.agg cs))|none=>.pure .bad
 |.OS u parts=>match qF u ρ parts with
  |some rows=>.pure (.val (.full rows))
  |none=>match fB u ρ parts with|some rows=>.pure (.val (.kM rows))|none=>.pure .bad
 |.c8 u parts=>match fA u ρ parts with|some rows=>.pure (.new (.rows u rows 0) (.c8 d 0))|none=>.pure .bad
 |.RE u parts=>match fB u ρ parts with|some rows=>.pure (.new (.cg u rows 0) (.c8 d 0))|none=>.pure .bad
 |.ld x n=>ur A (ρ x) n
 |.st x y n=>rq A (ρ x) (ρ y) n
 |.Ws x=>match ρ x with
  |.ptr id off=>.pure (.val (.ptr id off))
  |.fQ r o=>.pure (.val (.fQ r o))
  |.gM f c=>.pure (.val (.gM f c))
  |.pv (.gM f c)=>.pure (.val (.pv (.gM f c)))
  |.pv (.ptr c)=>.pure (.val (.pv (.ptr c)))
  |.Ay f c=>.pure (.val (.Ay f c))
  |.cR id e j off=>.rd id fun D=>match D with
   |.rows _ _ g=>match e==g with|true=>.val (.cR id e j off)|false=>.bad
   |.cg _ _ g=>match e==g with|true=>.val (.cR id e j off)|false=>.bad
   |_=>.bad
  |_=>.pure .bad
 |.bin B x y=>.pure (xK A B (ρ x) (ρ y))
 |.beq B sh x y=>.pure (AO A B sh (ρ x) (ρ y))
 |.CU B x y=>.pure (yV B (ρ x) (ρ y))
 |.ahI B x y=>.pure (EH B (ρ x) (ρ y))
 |.un B x=>.pure (Lv A B (ρ x))
 |.Wt k x=>match ρ x with
  |.pv (.int _ n)=>.pure (.val (.pv (.int k (A.wrap k n))))
  |_=>.pure .bad
 |.Wu x=>match ρ x with
  |.pv (.str s)=>.pure (.val (.pv (.str s)))
  |.pv (.int _ n)=>.pure (.dG (0<=n/\n<128) (.pv (.str [UInt8.ofNat n.toNat])))
  |_=>.pure .bad
 |.Xe x=>match ρ x with
  |.pv (.str s)=>.pure (.new (.rows 1 (A.bytes s) 0) (.c8 d 0))
  |_=>.pure .bad
 |.Ql x=>match ρ x with
  |.pv (.sl rows _)=>.pure (.dG (A.qE rows) (.pv (.str (A.gN rows))))
  |.full rows=>.pure (.dG (A.qE rows) (.pv (.str (A.gN rows))))
  |.c8 id e=>.rd id fun o=>match o with
   |.rows _ rs g=>match e==g with|true=>.dG (A.qE rs) (.pv (.str (A.gN rs)))|false=>.bad
   |.eO rs g=>match e==g with|true=>.dG (A.qE rs) (.pv (.str (A.gN rs)))|false=>.bad
   |_=>.bad
  |_=>.pure .bad
 |.Wv t x=>match(ρ x).flat with
  |some p=>.pure (.val (.pv (.iface t p)))
  |none=>.pure .bad
 |.SJ f w=>.pure (.val (.gM f (w.map ρ)))
 |.SK u bytes z l c=>match ρ l,ρ c with
  |.pv (.int .i64 l),.pv (.int .i64 c)=>.pure (.jK (A.WD l c bytes) (.rows u (A.AK l z) 0) (.c8 d 0))
  |_,_=>.pure .bad
 |.Li u x lo E=>match cX ρ lo,cX ρ E with
  |some l,some h=>mI A u (ρ x) l h
  |_,_=>.pure .bad
 |.sH x lo E=>match cX ρ lo,cX ρ E with
  |some l,some h=>.pure (oB A (ρ x) l h)
  |_,_=>.pure .bad
 |.pad x off=>match ρ x with
  |.ptr id o=>.pure (.val (.ptr id (o+off)))
  |.fQ row o=>.pure (.val (.fQ row (o+off)))
  |.cR id e j o=>.rd id fun D=>match D with
   |.rows _ _ g=>match e==g with|true=>.val (.cR id e j (o+off))|false=>.bad
   |.eO _ g=>match e==g with|true=>.val (.cR id e j (o+off))|false=>.bad
   |.cg _ _ g=>match e==g with|true=>.val (.cR id e j (o+off))|false=>.bad
   |_=>.bad
  |.pv (.ptr row)=>.pure (.val (.fQ row off))
  |_=>.pure .bad
 |.idx x i u=>match ρ i with
  |.pv (.int _ j)=>yW A (ρ x) j u
  |_=>.pure .bad
 |.RX x i=>match ρ x,ρ i with
  |.pv (.str s),.pv (.int _ j)=>.pure (.dG (A.sin j s) (.pv (.int .u8 (A.sat s j))))
  |_,_=>.pure .bad
 |.ext x i=>match ρ x with
  |.pv (.eN vs)=>match vs[i]? with|some v=>.pure (.val (.pv v))|none=>.pure .bad
  |.eN vs=>match vs[i]? with|some v=>.pure (.val v)|none=>.pure .bad
  |_=>.pure .bad
 |.call f args=>.pure (.call f (args.map ρ))
 |.AF x args=>match ρ x with
  |.pv (.gM f w)=>.pure (.call f (args.map ρ++w.map .pv))
  |.gM f w=>.pure (.call f (args.map ρ++w))
  |.Ay f first=>.pure (.call f (first++args.map ρ))
  |_=>.pure .bad
 |.len x=>yX A (ρ x)
 |.lens x=>match ρ x with|.pv (.str s)=>.pure (.val (.pv (.int .i64 (A.wY s))))|_=>.pure .bad
 |.app u bytes x y=>yY A d u bytes (ρ x) (ρ y)
 |.RC mx x y=>match ρ x,ρ y with
  |.pv (.int k n),.pv (.int _ m)=>.pure (.val (.pv (.int k (match mx with|true=>A.max n m|false=>A.min n m))))
  |_,_=>.pure .bad
 |.Lj x i n u=>match ρ x,ρ i with
  |.ptr id o,.pv (.int _ j)=>.pure (.dG (A.PS j n) (.ptr id (o+A.off j u)))
  |.fQ row o,.pv (.int _ j)=>.pure (.dG (A.PS j n) (.fQ row (o+A.off j u)))
  |_,_=>.pure .bad
 |.CW f first=>.pure (.val (.Ay f (first.map ρ)))
 |.UM u x E=>match ρ E with
  |.pv (.int _ h)=>ru A u (ρ x) h
  |_=>.pure .bad
 |.SQ x=>match ρ x with
  |.pv (.sl _ _)|.full _=>.pure (.val (.full []))
  |.c8 id e=>.rd id fun D=>match D with
   |.rows _ _ g=>match e==g with|true=>.val (.full [])|false=>.bad
   |.eO _ g=>match e==g with|true=>.val (.full [])|false=>.bad
   |_=>.bad
  |_=>.pure .bad
 |.RY x i n=>match ρ x,ρ i with
  |.agg cs,.pv (.int _ j)=>match cs.length==n with
   |true=>.pure (.dG (A.PS j n) (cs.getD (A.off j 1) .dead))
   |false=>.pure .bad
  |.pv (.agg ps),.pv (.int _ j)=>match ps.length==n with
   |true=>.pure (.dG (A.PS j n) (.pv (ps.getD (A.off j 1) .mh)))
   |false=>.pure .bad
  |_,_=>.pure .bad
 |.SU x n=>match ρ x with
  |.fQ row off=>match Nat.ble (off+n) row.length with
   |true=>.pure (.val (.full (((row.drop off).take n).map fun p=>[p])))
   |false=>.pure .bad
  |_=>.pure .bad
 |.AG fn B x y=>.pure (EI fn B (ρ x) (ρ y))
 |.SW x off n=>match ρ x with
  |.agg cs=>.pure (js cs off n)
  |.pv (.agg ps)=>.pure (il ps off n)
  |_=>.pure .bad
 |.SX C G kn=>.pure (.new (.map C G kn []) (.fr d))
 |.Ww=>.pure (.new (.iw []) (.fr d))
 |.Qm C sh n m k v=>EJ A C sh n (ρ m) (ρ k) (ρ v)
 |.sI C sh z m k=>uX A C sh z (ρ m) (ρ k)
 |.AH n m s v=>yZ A n (ρ m) (ρ s) (ρ v)
 |.Ll C sh z ok m k=>uW A C sh z ok (ρ m) (ρ k)
 |.Wx m=>uw A (ρ m)
 |.Wy x=>match ρ x with
  |.pv (.str s)=>.pure (.new (.ry s 0) (.ptr d 0))
  |_=>.pure .bad
 |.Wz x=>ae2 A (ρ x)
 |.WA x=>match ρ x with
  |.pv (.mp C G kn rows)=>.pure (.new (.eu (.mp C G kn rows) []) (.ptr d 0))
  |.pv .oh=>.pure (.new (.eu .oh []) (.ptr d 0))
  |_=>.pure .bad
 |.Gr x=>ae3 A (ρ x)
 |.Gs x=>ux A (ρ x)
 |.FB x=>match ρ x with
  |.pv (.sl rows sp)=>.pure (.dG (A.Qn [[]] (A.oi rows sp)) (.pv (.bool false)))
  |_=>.pure .bad
 |.sJ t z=>match z with
  |.mh::r=>.pure (.new (.cells (.iU t::r.map PV.laid)) (.ptr d 0))
  |_=>.pure .bad
 |.WB x=>match ρ x with
  |.ptr id off=>.rd id fun o=>match o with
   |.cells cs=>match Nat.ble (off+1) cs.length with
    |true=>.val (.ptr id off)
    |false=>.bad
   |_=>.bad
  |_=>.pure .bad
 |.WC t n x=>match ρ x with
  |.ptr id 0=>.rd id fun o=>match o with
   |.cells (.iU F::r)=>match t==F with
    |true=>match(r.length+1)==n with
     |true=>.val (.ptr id 0)
     |false=>.bad
    |false=>.bad
   |_=>.bad
  |_=>.pure .bad
 |.pp B x y=>match ρ x with
  |.ptr i o=>match ρ y with
   |.ptr j q=>match i==j with
    |true=>match o==q with
     |true=>.pure (mH B true)
     |false=>.pure .bad
    |false=>.pure .bad
   |_=>.pure .bad
  |_=>.pure .bad
 |.SY x=>match ρ x with
  |.c8 id e=>.rd id fun o=>match o with
   |.cL _ rs g=>match e==g with
    |true=>.dG (A.tu 0 rs 1) (.cR id e 0 0)
    |false=>.bad
   |_=>.bad
  |_=>.pure .bad
 |.RZ t x n=>match ρ n with
  |.pv (.int k n)=>match k with
   |.i64=>match ρ x with
    |.cR id e j 0=>.rd id fun o=>match o with
     |.cL F rs g=>match t==F with
      |true=>match e==g with
       |true=>.ix (A.qE rs/\n=A.jA rs/\j=0/\A.oj rs [] 1 1) id (.eO rs e) (.pv (.str (A.gN rs)))
       |false=>.bad
      |false=>.bad
     |_=>.bad
    |_=>.pure .bad
   |_=>.pure .bad
  |_=>.pure .bad
 |.AJ t x y=>match r8 A (ρ y)with
  |some ys=>match ρ x with
   |.full []=>.pure (.jK (A.oj [] ys 1 1/\ys≠[]) (.cL t ys 0) (.c8 d 0))
   |.c8 id e=>.rd id fun o=>match o with
    |.cL F rs g=>match t==F with
     |true=>match e==g with
      |true=>.ix (A.oj rs ys 1 1/\ys≠[]) id (.cL t (A.oi rs ys) (e+1)) (.c8 id (e+1))
      |false=>.bad
     |false=>.bad
    |_=>.bad
   |_=>.pure .bad
  |none=>.pure .bad
def aj(mem:List (Option Obj))(id:Nat):Option Obj:=mem.getD id none
def qG(mem:List (Option Obj))(id:Nat)(o:Obj):List (Option Obj):=
 match Nat.ble (id+1) mem.length with
 |true=>mem.set id (some o)
 |false=>mem++[some o]
def mJ(mem:List (Option Obj)):AV->Option (PV×Bool)
 |.pv p=>some (p,false)
 |.full rows=>some (.sl rows [],false)
 |.c8 id a=>match aj mem id with
  |some (.rows _ rs b)=>match a==b with|true=>some (.sl rs [],true)|false=>none
  |some (.eO rs b)=>match a==b with|true=>some (.sl rs [],false)|false=>none
  |_=>none
 |.fr id=>match aj mem id with
  |some (.map c d kn rows)=>some (.mp c d kn rows,true)
  |_=>none
 |_=>none
def nk(mem:List (Option Obj)):List AV->Option (List PV×Bool)
 |[]=>some ([],false)
 |x::r=>match mJ mem x with
  |some (p,b)=>match nk mem r with
   |some (ps,a)=>some (p::ps,match b with|true=>true|false=>a)
   |none=>none
  |none=>none
def lR(mem:List (Option Obj)):AV->Option (PV×Bool)
 |.ptr id 0=>match aj mem id with
  |some (.cells cs)=>match nk mem cs with
   |some (ps,_)=>some (.ptr ps,true)
   |none=>none
  |_=>none
 |.agg cs=>match nk mem cs with
  |some (ps,b)=>some (.agg ps,b)
  |none=>none
 |x=>mJ mem x
def sL(mem:List (Option Obj)):List AV->Option (List PV×Bool)
 |[]=>some ([],false)
 |x::r=>match lR mem x with
  |some (p,b)=>match sL mem r with
   |some (ps,a)=>some (p::ps,match b with|true=>true|false=>a)
   |none=>none
  |none=>none
def lS(mem:List (Option Obj)):AV->Option (PV×Bool)
 |.gM f cs=>match sL mem cs with
  |some (ps,b)=>some (.gM f ps,b)
  |none=>none
 |.eN cs=>match sL mem cs with
  |some (ps,b)=>some (.eN ps,b)
  |none=>none
 |x=>lR mem x
def dB(mem:List (Option Obj)):List AV->Option (List PV×Bool)
 |[]=>some ([],false)
 |x::r=>match lS mem x with
  |some (p,b)=>match dB mem r with
   |some (ps,a)=>some (p::ps,match b with|true=>true|false=>a)
   |none=>none
  |none=>none
def oD:List PV->Bool
 |[]=>true
 |.bool _::r|.int _ _::r|.str _::r=>oD r
 |_=>false
def np:List PV->Bool
 |[]=>true
 |.bool _::r|.int _ _::r|.str _::r=>np r
 |.agg cs::r=>match oD cs with|true=>np r|false=>false
 |_=>false
def PV.jf:PV->Bool
 |.bool _|.int _ _|.str _=>true
 |.agg cs=>oD cs
 |.eN cs=>np cs
 |_=>false
def St.aq(st:St)(id:Nat)(o:Obj):St:=⟨st.slots,st.held,st.base,qG st.mem id o⟩
def St.fresh(st:St)(x:AI):Nat:=
 match aj st.mem (st.base+x.d.getD 0)with
 |none=>match Nat.ble (st.base+x.d.getD 0+1) st.mem.length with
  |true=>st.base+x.d.getD 0
  |false=>st.mem.length
 |some _=>st.mem.length
def ju(φ:AV->AV):AV->AV
 |.c8 i v=>φ (.c8 i v)
 |.ptr i o=>φ (.ptr i o)
 |.cR i v j o=>φ (.cR i v j o)
 |.fr i=>φ (.fr i)
 |.eT i j=>φ (.eT i j)
 |.pv p=>.pv p
 |.full r=>.full r
 |.fQ r o=>.fQ r o
 |.iU t=>.iU t
 |_=>.dead
def kZ(φ:AV->AV):AV->AV
 |.agg cs=>.agg (cs.map (ju φ))
 |.eN cs=>.eN (cs.map (ju φ))
 |.gM f cs=>.gM f (cs.map (ju φ))
 |.Ay f cs=>.Ay f (cs.map (ju φ))
 |.kM rows=>.kM (rows.map (·.map (ju φ)))
 |x=>ju φ x
def mK(φ:AV->AV):Obj->Obj
 |.cells cs=>.cells (cs.map (kZ φ))
 |.cg b rs a=>.cg b (rs.map (·.map (kZ φ))) a
 |.iw rows=>.iw (rows.map fun(s,v)=>(s,kZ φ v))
 |o=>o
def mapM(φ:AV->AV):List (Option Obj)->List (Option Obj)
 |[]=>[]
 |none::r=>none::mapM φ r
 |some o::r=>some (mK φ o)::mapM φ r
def nV(a:Nat):Nat->List (Option Nat)->Option Nat
 |_,[]=>none
 |j,none::r=>nV a (j+1) r
 |j,some i::r=>match i==a with|true=>some j|false=>nV a (j+1) r
def ug(a:List (Option Nat)):AV->AV
 |.c8 i v=>match nV i 0 a with|some j=>.c8 j v|none=>.dead
 |.ptr i o=>match nV i 0 a with|some j=>.ptr j o|none=>.dead
 |.cR i v j o=>match nV i 0 a with|some k=>.cR k v j o|none=>.dead
 |.fr i=>match nV i 0 a with|some j=>.fr j|none=>.dead
 |.eT i k=>match nV i 0 a with|some j=>.eT j k|none=>.dead
 |_=>.dead
def oE(mem:List (Option Obj)):List (Option Nat)->List (Option Obj)
 |[]=>[]
 |none::r=>none::oE mem r
 |some i::r=>aj mem i::oE mem r
def xL(i:Nat):List (Option Nat)->Bool
 |[]=>true
 |none::r=>xL i r
 |some j::r=>match i==j with|true=>false|false=>xL i r
def jN:List (Option Nat)->Bool
 |[]=>true
 |none::r=>jN r
 |some i::r=>match xL i r with|true=>jN r|false=>false
def St.C1(st:St)(φ:AV->AV)(mem:List (Option Obj)):St:=⟨st.slots.map (kZ φ),st.held.map (kZ φ),st.base,mem⟩
def St.mj(st:St)(a:List (Option Nat)):St:=st.C1 (ug a) (mapM (ug a) (oE st.mem a))
def mL(id:Nat)(f:AV->AV):AV->AV
 |.c8 i v=>match i==id with|true=>f (.c8 i v)|false=>.c8 i v
 |.ptr i o=>match i==id with|true=>f (.ptr i o)|false=>.ptr i o
 |.cR i v j o=>match i==id with|true=>.dead|false=>.cR i v j o
 |.fr i=>match i==id with|true=>f (.fr i)|false=>.fr i
 |.eT i k=>match i==id with|true=>.dead|false=>.eT i k
 |_=>.dead
def iP(b:List (List PV))(a:Nat):AV->AV
 |.c8 _ v=>match v==a with|true=>.pv (.sl b [])|false=>.dead
 |_=>.dead
def oF(a b:Bool)(kn:Nat)(rows:List (List PV)):AV->AV
 |.fr _=>.pv (.mp a b kn rows)
 |_=>.dead
def j9(a:List PV):AV->AV
 |.ptr _ 0=>.pv (.ptr a)
 |.ptr _ o=>.fQ a o
 |_=>.dead
def Fe(mem:List (Option Obj))(id:Nat):List (Option Obj):=mem.set id none
def St.AP(st:St)(id:Nat)(f:AV->AV):St:=st.C1 (mL id f) (mapM (mL id f) (Fe st.mem id))
def im(a:List Nat):Nat->List AV->List AV
 |_,[]=>[]
 |i,x::r=>(match a.contains i with|true=>x|false=>.dead)::im a (i+1) r
def St.keep(st:St)(a:List Nat):St:=⟨im a 0 st.slots,st.held,st.base,st.mem⟩
def FZ:Option Obj->Option Nat
 |some (.rows _ _ v)=>some v
 |some (.cg _ _ v)=>some v
 |some (.eO _ v)=>some v
 |some (.cL _ _ v)=>some v
 |_=>none
def zeroV:Obj->Obj
 |.rows a rs _=>.rows a rs 0
 |.cg a rs _=>.cg a rs 0
 |.eO rs _=>.eO rs 0
 |.cL t rs _=>.cL t rs 0
 |o=>o
def mM(mem:List (Option Obj)):AV->AV
 |.c8 i v=>match FZ (aj mem i)with
  |some u=>match v==u with|true=>.c8 i 0|false=>.dead
  |none=>.dead
 |.cR i v j o=>match FZ (aj mem i)with
  |some u=>match v==u with|true=>.cR i 0 j o|false=>.dead
  |none=>.dead
 |x=>x
def oG:List (Option Obj)->List (Option Obj)
 |[]=>[]
 |none::r=>none::oG r
 |some o::r=>some (zeroV o)::oG r
def St.norm(st:St):St:=st.C1 (mM st.mem) (oG (mapM (mM st.mem) st.mem))
inductive Fg:St->St->Prop
 |refl (s:St):Fg s s
 |trans {s s' Xh:St}:Fg s s'->Fg s' Xh->Fg s Xh
 |keep (s:St) (ks:List Nat):Fg s (s.keep ks)
 |mj (s:St) (src:List (Option Nat)):jN src=true->Fg s (s.mj src)
 |norm (s:St):Fg s s.norm
 |AQ {s:St} {id sz ver:Nat} {rs:List (List PV)}:aj s.mem id=some (.rows sz rs ver)->Fg s (s.AP id (iP rs ver))
 |S4 {s:St} {id kn:Nat} {kg vg:Bool} {rows:List (List PV)}:aj s.mem id=some (.map kg vg kn rows)->Fg s (s.AP id (oF kg vg kn rows))
 |HU {s:St} {id:Nat} {cs:List AV} {ps:List PV}:aj s.mem id=some (.cells cs)->AV.lQ cs=some ps->Fg s (s.AP id (j9 ps))
 |plain {s:St} {id sz ver:Nat} {rs:List (List AV)} {fW:List (List PV)}:aj s.mem id=some (.cg sz rs ver)->rs=fW.map (·.map .pv)->Fg s (s.aq id (.rows sz fW ver))
 |Xi {s:St} {id sz ver:Nat} {rs:List (List PV)}:aj s.mem id=some (.rows sz rs ver)->Fg s (s.aq id (.cg sz (rs.map (·.map .pv)) ver))
 |full {s:St} {d:Nat} {rows:List (List PV)}:s.slot d=.full rows->Fg s (s.put (some d) (.pv (.sl rows [])))
 |own {s:St} {d id sz:Nat}:s.slot d=.full []->aj s.mem id=none->id<=s.mem.length->Fg s ((s.aq id (.rows sz [] 0)).put (some d) (.c8 id 0))
 |grow (s:St) (n:Nat):Fg s ⟨s.slots,s.held,s.base,s.mem++List.replicate n none⟩
 |Zh {s:St} {id j k sz:Nat} {cs:List AV}:aj s.mem id=some (.cells cs)->cs[j]? =some (.full [])->aj s.mem k=none->k<=s.mem.length->Fg s ((s.aq k (.rows sz [] 0)).aq id (.cells (cs.set j (.c8 k 0))))
abbrev IC:=FuncId->List AV->St->(AV->St->Prop)->Prop
variable {M:Option IC}
abbrev CT:=FuncId->List PV->Option Nat->PV->Prop
def dry:List AV->Bool
 |[]=>true
 |.pv _::r|.full _::r|.fQ _ _::r|.dead::r=>dry r
 |_::_=>false
def jW:List AV->Bool
 |[]=>true
 |.pv _::r|.full _::r|.fQ _ _::r|.dead::r=>jW r
 |.agg cs::r=>match dry cs with|true=>jW r|false=>false
 |_::_=>false
section
variable (C:CT) (A:Ar)
def uY(st:St)(f:FuncId)(c:List AV)(K:AV->Prop):Prop:=
 ∃d b a,dB st.mem c=some (d,b)/\C f d none a/\(b=true->a.jf=true)/\K (.pv a)
def rv(k:Nat)(st:St)(f:FuncId)(a:List AV)(K:Nat->List (List PV)->Prop):Prop:=
 jW a=true/\∃b c rows,dB st.mem a=some (b,false)/\C f b (some c) (.sl rows [])/\aj st.mem k=none/\k<st.mem.length/\K c rows
def ae4(M:Option IC)(k len:Nat):Prop:=
 match M with
 |some _=>k<=len
 |none=>k<len
def EK(M:Option IC)(id len:Nat):Prop:=
 match M with
 |some _=>True
 |none=>id<len
def ml(M:Option IC)(k:Nat)(x:AI)(st:St)(K:St->Prop):Out->Prop
 |.bad=>False
 |.val v=>K (st.put x.d v)
 |.dG p v=>p/\K (st.put x.d v)
 |.dp id o v=>EK M id st.mem.length/\K ((st.aq id o).put x.d v)
 |.ix p id o v=>EK M id st.mem.length/\p/\K ((st.aq id o).put x.d v)
 |.new o v=>aj st.mem k=none/\ae4 M k st.mem.length/\K ((st.aq k o).put x.d v)
 |.jK p o v=>aj st.mem k=none/\ae4 M k st.mem.length/\p/\K ((st.aq k o).put x.d v)
 |.call f args=>uY C st f args (fun v=>K (st.put x.d v))\/(match M with|some I=>I f args st (fun v st'=>K (st'.put x.d v))|none=>rv C k st f args (fun a rows=>K ((st.aq k (.rows a rows 0)).put x.d (.c8 k 0))))
 |.all p id o v=>match M with|some _=>∀i,p i->K ((st.aq id (o i)).put x.d (v i))|none=>False
def jB(M:Option IC)(k:Nat)(x:AI)(st:St)(K:St->Prop):sE->Prop
 |.pure o=>ml C M k x st K o
 |.rd id f=>match aj st.mem id with
  |some a=>ml C M k x st K (f a)
  |none=>False
def gO(M:Option IC)(k:Nat)(x:AI)(st:St)(K:St->Prop):Prop:=jB C M k x st K (KA A k x.op st.ev)
section
variable (I:IC)
def tw:AV:=.pv (.eN [])
def bP:List AI->St->(St->Prop)->Prop
 |[],st,K=>K st
 |x::xs,st,K=>∃s0,Fg st s0/\match x.g with
  |none=>gO C A (some I) (s0.fresh x) x s0 fun st'=>bP xs st' K
  |some (j,want)=>match s0.slot j with
   |.pv (.bool b)=>match b with
    |true=>match want with
     |true=>gO C A (some I) (s0.fresh x) x s0 fun st'=>bP xs st' K
     |false=>bP xs (s0.put x.d tw) K
    |false=>match want with
     |false=>gO C A (some I) (s0.fresh x) x s0 fun st'=>bP xs st' K
     |true=>bP xs (s0.put x.d tw) K
   |.pv (.eN _)=>bP xs (s0.put x.d tw) K
   |_=>False
structure eP where
 rd:Option Nat
 wr:Option Nat
 all:Bool
def fJ(k:Nat)(rd:Option Nat):Out->eP
 |.dp id _ _=>⟨rd,some id,false⟩
 |.ix _ id _ _=>⟨rd,some id,false⟩
 |.new _ _=>⟨rd,some k,false⟩
 |.jK _ _ _=>⟨rd,some k,false⟩
 |.call _ args=>match jW args with|true=>⟨rd,some k,false⟩|false=>⟨rd,none,true⟩
 |_=>⟨rd,none,false⟩
def eC(k:Nat)(st:St):sE->eP
 |.pure o=>fJ k none o
 |.rd id f=>match aj st.mem id with
  |some a=>fJ k (some id) (f a)
  |none=>⟨some id,none,false⟩
def Gu(id:Nat):Option Nat->Bool
 |some j=>id==j
 |none=>false
def dq(f:eP)(id:Nat):Bool:=
 match f.all with
 |true=>true
 |false=>match Gu id f.rd with
  |true=>true
  |false=>Gu id f.wr
def qH(h f:eP):Bool:=
 match(match h.wr with|some id=>dq f id|none=>false)with
 |true=>false
 |false=>match f.wr with
  |some id=>(match dq h id with|true=>false|false=>true)
  |none=>true
def iy(l:List Nat)(f:eP):Nat->List eP->Bool
 |_,[]=>true
 |i,h::hs=>match l.contains i with
  |true=>iy l f (i+1) hs
  |false=>match qH h f with
   |true=>iy l f (i+1) hs
   |false=>false
def bR.sl:bR->List Nat
 |.t i=>[i]
 |_=>[]
def bR.sH:List bR->List Nat
 |[]=>[]
 |x::r=>x.sl++bR.sH r
def bR.slo:Option bR->List Nat
 |none=>[]
 |some x=>x.sl
def bR.Xj:List (Nat×Nat×bR)->List Nat
 |[]=>[]
 |(_,_,x)::r=>x.sl++bR.Xj r
def wQ.looks:wQ->List Nat
 |.mv x|.box x _|.ld x _|.Ws x|.un _ x|.Wt _ x|.Xe x|.Wu x|.Ql x|.Wv _ x|.pad x _|.ext x _|.len x|.lens x=>x.sl
 |.pick c a b=>c.sl++(a.sl++b.sl)
 |.alloc _|.sJ _ _=>[]
 |.mk _ ps=>bR.Xj ps
 |.OS _ ps|.c8 _ ps|.SJ _ ps|.call _ ps=>bR.sH ps
 |.st x y _|.bin _ x y|.beq _ _ x y|.CU _ x y|.ahI _ x y|.AG _ _ x y|.idx x y _|.Lj x y _ _|.RY x y _|.RX x y|.app _ _ x y|.RC _ x y|.pp _ x y|.RZ _ x y|.AJ _ x y=>x.sl++y.sl
 |.SK _ _ _ x y=>x.sl++y.sl
 |.Li _ x lo d|.sH x lo d=>x.sl++(bR.slo lo++bR.slo d)
 |.AF x ps=>x.sl++bR.sH ps
 |.CW _ ps|.RE _ ps=>bR.sH ps
 |.UM _ x y=>x.sl++y.sl
 |.SQ x|.SU x _|.SW x _ _|.Wx x|.Wy x|.Wz x|.WA x|.Gr x|.Gs x|.FB x|.WB x|.WC _ _ x|.SY x=>x.sl
 |.SX _ _ _|.Ww=>[]
 |.Qm _ _ _ m k v|.AH _ m k v=>m.sl++(k.sl++v.sl)
 |.sI _ _ _ m k|.Ll _ _ _ _ m k=>m.sl++k.sl
def AI.looks(x:AI):List Nat:=x.op.looks++(match x.g with|some (j,_)=>[j]|none=>[])
def AI.apart(x y:AI):Bool:=
 (match x.d with
  |some d=> !(y.looks.contains d)&&y.d !=some d
  |none=>true)&&
 (match y.d with
  |some d=> !(x.looks.contains d)
  |none=>true)
def gR:eP:=⟨none,none,false⟩
def ek:List AI->List (List Nat)->List eP->St->(St->Prop)->Prop
 |[],_,_,st,K=>K st
 |x::xs,lt,cE,st,K=>match(match x.g with
   |none=>some true
   |some (j,want)=>match st.slot j with
    |.pv (.bool b)=>match b with
     |true=>match want with|true=>some true|false=>some false
     |false=>match want with|true=>some false|false=>some true
    |.pv (.eN _)=>some false
    |_=>none)with
  |some true=>iy (lt.headD []) (eC (st.base+x.d.getD 0) st (KA A (st.base+x.d.getD 0) x.op st.ev)) 0 cE=true/\
    gO C A none (st.base+x.d.getD 0) x st fun st'=>ek xs lt.tail (cE++[eC (st.base+x.d.getD 0) st (KA A (st.base+x.d.getD 0) x.op st.ev)]) st' K
  |some false=>ek xs lt.tail (cE++[gR]) (st.put x.d tw) K
  |none=>False
structure Ev where
 d:Option Nat
 v:AV
 m:Option (Nat×Obj)
def St.uZ(st:St):Option (Nat×Obj)->St
 |some (id,o)=>⟨st.slots,st.held,st.base,st.mem.set id (some o)⟩
 |none=>st
def Ev.app(e:Ev)(st:St):St:=(st.uZ e.m).put e.d e.v
def guardOf(st:St):Option (Nat×Bool)->Option Bool
 |none=>some true
 |some (j,want)=>match st.slot j with
  |.pv (.bool b)=>some (b==want)
  |.pv (.eN _)=>some false
  |_=>none
def cM(p:Nat->Bool):Nat->List Ev->St->St
 |_,[],st=>st
 |k,e::es,st=>cM p (k+1) es (match p k with|true=>e.app st|false=>st)
section
variable (C:CT) (A:Ar)
def dd(d:Option Nat)(k:Nat)(st:St):Out->Ev->Prop
 |.bad,_=>False
 |.val v,e=>e=⟨d,v,none⟩
 |.dG p v,e=>p/\e=⟨d,v,none⟩
 |.dp id o v,e=>id<st.mem.length/\e=⟨d,v,some (id,o)⟩
 |.ix p id o v,e=>id<st.mem.length/\p/\e=⟨d,v,some (id,o)⟩
 |.new o v,e=>aj st.mem k=none/\k<st.mem.length/\e=⟨d,v,some (k,o)⟩
 |.jK p o v,e=>aj st.mem k=none/\k<st.mem.length/\p/\e=⟨d,v,some (k,o)⟩
 |.call f args,e=>(∃c b a,dB st.mem args=some (c,b)/\C f c none a/\(b=true->a.jf=true)/\e=⟨d,.pv a,none⟩)\/
   rv C k st f args (fun g rows=>e=⟨d,.c8 k 0,some (k,.rows g rows 0)⟩)
 |.all ..,_=>False
def ka(d:Option Nat)(k:Nat)(st:St):sE->Ev->Prop
 |.pure o,e=>dd C d k st o e
 |.rd id f,e=>∃a,aj st.mem id=some a/\dd C d k st (f a) e
def Jd(x:AI)(st:St)(e:Ev)(f:eP):Prop:=
 (guardOf st x.g=some true/\ka C x.d (st.base+x.d.getD 0) st (KA A (st.base+x.d.getD 0) x.op st.ev) e/\f=eC (st.base+x.d.getD 0) st (KA A (st.base+x.d.getD 0) x.op st.ev))\/
 (guardOf st x.g=some false/\e=⟨x.d,tw,none⟩/\f=gR)
def Trace:List AI->List (List Nat)->List eP->St->List (Ev×eP)->Prop
 |[],_,_,_,r=>r=[]
 |x::xs,lt,cE,st,r=>∃e f a,r=(e,f)::a/\Jd C A x st e f/\iy (lt.headD []) f 0 cE=true/\Trace xs lt.tail (cE++[f]) (e.app st) a
end
def K1:AI:=⟨none,.mv (.k .mh),none⟩
def jg(p:Nat->Bool):Nat->List AI->List AI
 |_,[]=>[]
 |i,x::r=>(match p i with|true=>K1|false=>x)::jg p (i+1) r
def xM:List AI->Bool
 |[]=>true
 |x::r=>match x.op with|.sI ..=>false|_=>xM r
def zok(n:Nat)(lt:List (List Nat))(c:Nat)(Z:List Bool):Prop:=
 Z.length=n/\Z.getD c false=false/\(∀k∈lt.getD c [],Z.getD k false=true)/\(∀i,i<n->Z.getD i false=true->∀k∈lt.getD i [],Z.getD k false=true)/\(∀i,i<n->c∈lt.getD i []->Z.getD i false=false)
def HV(ops:List AI)(lt:List (List Nat))(st:St)(K:St->Prop):Prop:=
 xM ops=true/\∃c x,ops[c]? =some x/\∃r,Trace C A (jg (fun i=>(i==c)||(lt.getD i []).contains c) 0 ops) lt [] st r/\
  ∀Z,zok ops.length lt c Z->guardOf (cM (fun i=>Z.getD i false) 0 (r.map (·.1)) st) x.g=some true/\gO C A (some I) ((cM (fun i=>Z.getD i false) 0 (r.map (·.1)) st).fresh x) x (cM (fun i=>Z.getD i false) 0 (r.map (·.1)) st)
   fun st'=>ek C A (jg (fun i=>(i==c)||Z.getD i false) 0 ops) lt [] st' K
inductive Ex where
 |normal|ret|exit (id:Nat)
end
end
variable {Q:Ex->St->Prop}
section
variable (C:CT) (A:Ar) (I:IC)
def fw:cf->St->(Ex->St->Prop)->Prop
 |.skip,st,Q=>Q .normal st
 |.pA ops none,st,Q=>bP C A I ops st (Q .normal)
 |.pA ops (some lt),st,Q=>∃s0,Fg st s0/\(ek C A ops lt [] s0 (Q .normal)\/HV C A I ops lt s0 (Q .normal))
 |.seq a b,st,Q=>fw a st fun e s=>match e with|.normal=>fw b s Q|e=>Q e s
 |.cond c a b,st,Q=>match st.ev c with
  |.pv (.bool t)=>match t with|true=>fw a st Q|false=>fw b st Q
  |_=>False
 |.block id b,st,Q=>fw b st fun e s=>match e with|.exit j=>(match j==id with|true=>Q .normal s|false=>Q e s)|e=>Q e s
 |.loop b,st,Q=>∀X:St->Prop,(∀s s0,Fg s s0->fw b s0 (fun e d=>match e with|.normal=>X d|e=>Q e d)->X s)->X st
 |.exit id,st,Q=>Q (.exit id) st
 |.ret,st,Q=>Q .ret st
inductive RD where
 |tmp (t:Nat)
 |cell (a:Nat) (n:Option Nat)
def Lx(st:St):RD->Option AV
 |.tmp t=>some (st.slot t)
 |.cell a n=>match st.slot a with
  |.ptr id off=>match aj st.mem id with
   |some (.cells cs)=>match js cs off n with|.val v=>some v|_=>none
   |_=>none
  |_=>none
def mN(st:St):List RD->Option (List AV)
 |[]=>some []
 |x::r=>match Lx st x with
  |some d=>match mN st r with|some ds=>some (d::ds)|none=>none
  |none=>none
def one?:List AV->AV
 |[v]=>v
 |vs=>.eN vs
def lT(a:List RD)(st:St):Option AV:=match mN st a with|some vs=>some (one? vs)|none=>none
def enter(b:Nat)(a:List AV)(st:St):St:=
 ⟨a++List.replicate (b-a.length) .dead,st.slots++st.held,st.mem.length,st.mem++List.replicate b none⟩
def pD:List (Option Obj)->Bool
 |[]=>true
 |none::r=>pD r
 |some _::_=>false
def AR(n:Nat)(mem:List (Option Obj)):List (Option Obj):=match pD (mem.drop n)with|true=>mem.take n|false=>mem
def leave(n a:Nat)(st:St):St:=⟨st.held.take n,st.held.drop n,a,AR st.base st.mem⟩
def xu(b:List RD)(n a:Nat)(K:AV->St->Prop):Ex->St->Prop
 |.exit _,_=>False
 |_,s=>match lT b s with
  |some v=>K v (leave n a s)
  |none=>False
theorem AU{K d:AV->Prop}(h:∀v,K v->d v)(e:uY C st f a K):uY C st f a d:=by obtain⟨g,b,c,i,j,k,l⟩:=e;exact⟨g,b,c,i,j,k,h _ l⟩
theorem ae5{K c:Nat->List (List PV)->Prop}(h:∀b rows,K b rows->c b rows)(d:rv C k st f a K):rv C k st f a c:=by obtain⟨e,g,b,rows,i,j,l,m,n⟩:=d;exact⟨e,g,b,rows,i,j,l,m,h _ _ n⟩
def Gv(I:IC):Prop:=∀f args st (K a:AV->St->Prop),(∀v s,K v s->a v s)->I f args st K->I f args st a
def Qo:Option IC->Prop
 |some I=>Gv I
 |none=>True
section
variable {C A I}
theorem tz(d:Qo M){K c:St->Prop}(h:∀s,K s->c s){o:Out}(a:ml C M k x st K o):ml C M k x st c o:=by cases o with|bad=>exact a|val v=>exact h _ a|dG p v=>exact⟨a.1,h _ a.2⟩|dp id o v=>exact⟨a.1,h _ a.2⟩|ix p id o v=>exact⟨a.1,a.2.1,h _ a.2.2⟩|new o v=>exact⟨a.1,a.2.1,h _ a.2.2⟩|jK p o v=>exact⟨a.1,a.2.1,a.2.2.1,h _ a.2.2.2⟩|call f args=>{rcases a with a|a;{exact .inl (AU C (fun v b=>h _ b) a)};refine .inr ?_;cases M with|none=>grind[ae5]|some I=>exact d _ _ _ _ _ (fun v s b=>h _ b) a}|all p id o v=>cases M with|none=>exact a|some I=>exact fun i e=>h _ (a i e)
theorem k7(c:Qo M){K a:St->Prop}(h:∀s,K s->a s)(b:gO C A M k x st K):gO C A M k x st a:=by unfold gO at*;cases he:KA A k x.op st.ev with|pure o=>rw[he]at b;exact tz c h b|rd id f=>grind[jB,tz]
section
variable (hI:Gv I)
include hI
theorem gS:∀(l:List AI) {st:St} {K c:St->Prop},(∀s,K s->c s)->bP C A I l st K->bP C A I l st c
|[],_,_,_,h,a=>h _ a
|x::xs,st,K,c,h,a=>by obtain⟨s0,d,a⟩:=a;refine⟨s0,d,?_⟩;split at a;{exact k7 (M:=some I) hI (fun s b=>gS xs h b) a};split at a;{split at a;{split at a;{exact k7 (M:=some I) hI (fun s b=>gS xs h b) a};exact gS xs h a};split at a;{exact k7 (M:=some I) hI (fun s b=>gS xs h b) a};exact gS xs h a};{exact gS xs h a};omega
omit hI in
theorem pE:∀(l:List AI) {lt:List (List Nat)} {cE:List eP} {st:St} {K b:St->Prop},(∀s,K s->b s)->ek C A l lt cE st K->ek C A l lt cE st b
|[],_,_,_,_,_,h,a=>h _ a
|x::xs,lt,cE,st,K,b,h,a=>by simp only[ek]at*;split at a;{exact⟨a.1,k7 (M:=none) trivial (fun s c=>pE xs h c) a.2⟩};{exact pE xs h a};omega
theorem xN{ops:List AI}{lt:List (List Nat)}{K a:St->Prop}(h:∀s,K s->a s)(e:HV C A I ops lt st K):HV C A I ops lt st a:=by obtain⟨f,c,x,g,r,i,b⟩:=e;exact⟨f,c,x,g,r,i,fun Z d=>⟨(b Z d).1,k7 (M:=some I) hI (fun s j=>pE (jg _ 0 ops) h j) (b Z d).2⟩⟩
theorem fC:∀(c:cf) {st:St} {Q f:Ex->St->Prop},(∀e s,Q e s->f e s)->fw C A I c st Q->fw C A I c st f:=by intro c;induction c with|skip=>intro st Q f h d;exact h _ _ d|pA ops lt=>{intro st Q f h d;cases lt with|none=>exact gS hI ops (h _) d|some lt=>obtain⟨s0,i,d⟩:=d;exact⟨s0,i,d.imp (pE ops (h _)) (xN hI (h _))⟩}|seq a b g j=>intro st Q f h d;refine g ?_ d;grind|cond c a b g j=>grind[fw]|block id b k=>intro st Q f h d;refine k ?_ d;grind|loop b k=>intro st Q f h d X l;refine d X fun s s0 i m=>l s s0 i (k ?_ m);grind|exit id=>intro st Q f h d;exact h _ _ d|ret=>intro st Q f h d;exact h _ _ d
theorem k8{s0:St}(f:Fg st s0)(h:fw C A I b s0 (fun e c=>match e with|.normal=>fw C A I (.loop b) c Q|e=>Q e c)):fw C A I (.loop b) st Q:=by intro X d;refine d st s0 f (fC hI b ?_ h);intro e s a;cases e with|normal=>exact a X d|ret=>exact a|exit j=>exact a
theorem HW(J:Nat->St->Prop)(d:∃n s,Fg st s/\J n s)(h:∀n s,J n s->fw C A I b s (fun e a=>match e with|.normal=>∃m c,m<n/\Fg a c/\J m c|e=>Q e a)):fw C A I (.loop b) st Q:=by intro X f;have key:∀n s a,J n a->Fg s a->X s:=by{intro n;induction n using Nat.strongRecOn with|ind n g=>grind[fC]};grind
section
omit hI
inductive Item where
 |code (c:cf)
 |ops (l:List AI)
 |fD (l:List AI) (lt:List (List Nat)) (cE:List eP)
 |Az (id:Nat)
 |frame (eF:List RD) (n base:Nat) (d:Option Nat)
def exitTo(id:Nat):List Item->Option (List Item)
 |[]=>none
 |.frame ..::_=>none
 |.Az j::r=>match j==id with|true=>some r|false=>exitTo id r
 |_::r=>exitTo id r
section
variable (C A I)
def bH:List Item->(Ex->St->Prop)->Ex->St->Prop
 |[],Q,e,s=>Q e s
 |.frame b n base d::r,Q,e,s=>xu b n base (fun v a=>bH r Q .normal (a.put d v)) e s
 |.code c::r,Q,.normal,s=>fw C A I c s fun e a=>bH r Q e a
 |.ops l::r,Q,.normal,s=>bP C A I l s fun a=>bH r Q .normal a
 |.fD l lt cE::r,Q,.normal,s=>ek C A l lt cE s fun a=>bH r Q .normal a
 |.Az _::r,Q,.normal,s=>bH r Q .normal s
 |.Az j::r,Q,.exit id,s=>match j==id with|true=>bH r Q .normal s|false=>bH r Q (.exit id) s
 |_::r,Q,.ret,s=>bH r Q .ret s
 |_::r,Q,.exit id,s=>bH r Q (.exit id) s
def qf(id:Nat):List Item->Bool
 |[]=>true
 |.frame ..::_=>false
 |.Az j::r=>match j==id with|true=>false|false=>qf id r
 |_::r=>qf id r
def kb:List Item->Option ((List RD×Nat×Nat×Option Nat)×List Item)
 |[]=>none
 |.frame a n base d::r=>some ((a,n,base,d),r)
 |_::r=>kb r
inductive bp where
 |fin (e:Ex) (st:St)
 |pre (p:Prop) (st:St) (is:List Item)
 |call (f:FuncId) (args:List AV) (d:Option Nat) (st:St) (is:List Item)
 |afq (f:FuncId) (args:List AV) (d:Option Nat) (st:St) (is:List Item)
 |loop (b:cf) (st:St) (is:List Item)
 |all (p:Nat->Prop) (st:Nat->St) (is:List Item)
 |go (st:St) (is:List Item)
 |stuck
def bp.holds(Q:Ex->St->Prop):bp->Prop
 |.fin e st=>Q e st
 |.pre p st is=>p/\bH C A I is Q .normal st
 |.call f args d st is=>uY C st f args (fun v=>bH C A I is Q .normal (st.put d v))\/I f args st (fun v st'=>bH C A I is Q .normal (st'.put d v))
 |.afq f args d st is=>uY C st f args (fun v=>bH C A I is Q .normal (st.put d v))\/
   rv C (st.base+d.getD 0) st f args (fun a rows=>bH C A I is Q .normal ((st.aq (st.base+d.getD 0) (.rows a rows 0)).put d (.c8 (st.base+d.getD 0) 0)))
 |.loop b st is=>fw C A I (.loop b) st fun e s=>bH C A I is Q e s
 |.all p st is=>∀i,p i->bH C A I is Q .normal (st i)
 |.go st is=>bH C A I is Q .normal st
 |.stuck=>False
abbrev Mj:=FuncId->Option (cf×List RD×Nat)
def oH(a:Bool)(I:IC):Option IC:=match a with|true=>none|false=>some I
def qI(a:Bool)(m:Nat):Nat:=match a with|true=>m+1|false=>m
def xO(a:Bool)(id len:Nat):Bool:=match a with|true=>Nat.ble (id+1) len|false=>true
def Qp:wQ->Bool
 |.bin ..|.beq ..|.CU ..|.ahI ..|.AG ..|.un ..=>true
 |_=>false
def EL(c:Bool)(v:AV)(k:AV->bp):bp:=match c with
 |true=>match v with
  |.pv (.bool b)=>match b with|true=>k (.pv (.bool true))|false=>k (.pv (.bool false))
  |v=>k v
 |false=>k v
theorem AW(c:Bool)(v:AV)(k:AV->bp):EL c v k=k v:=by unfold EL;grind
section
variable (T:Mj) (U:Bool)
def mm(c:Bool)(x:AI)(m:Nat)(st:St)(a b:List Item)(k:List Item->St->bp):Out->bp
 |.bad=>.go st b
 |.val v=>EL (Qp x.op) v fun v=>k a (st.put x.d v)
 |.dG p v=>EL (Qp x.op) v fun v=>.pre p (st.put x.d v) a
 |.dp id o v=>match xO c id st.mem.length with
  |true=>k a ((st.aq id o).put x.d v)
  |false=>.go st b
 |.ix p id o v=>match xO c id st.mem.length with
  |true=>.pre p ((st.aq id o).put x.d v) a
  |false=>.go st b
 |.new o v=>match aj st.mem m with
   |none=>match Nat.ble (qI c m) st.mem.length with|true=>k a ((st.aq m o).put x.d v)|false=>.go st b
   |some _=>.go st b
 |.jK p o v=>match aj st.mem m with
   |none=>match Nat.ble (qI c m) st.mem.length with|true=>.pre p ((st.aq m o).put x.d v) a|false=>.go st b
   |some _=>.go st b
 |.call f args=>match c with
  |true=>.afq f args x.d st a
  |false=>match T f with
   |none=>.call f args x.d st a
   |some (ac,e,g)=>k (.code ac::.frame e st.slots.length st.base x.d::a) (enter g args st)
 |.all p id o v=>match c with
  |true=>.go st b
  |false=>.all p (fun i=>(st.aq id (o i)).put x.d (v i)) a
def qJ(b:Bool)(x:AI)(m:Nat)(st:St)(c a:List Item)(k:List Item->St->bp):sE->bp
 |.pure o=>mm T b x m st c a k o
 |.rd id f=>match aj st.mem id with
  |some d=>mm T b x m st c a k (f d)
  |none=>.go st a
def aek(x:AI)(xs:List AI)(lt:List (List Nat))(cE:List eP)(r:List Item)(st:St)(go:List Item->St->bp):bp:=
 match iy (lt.headD []) (eC (st.base+x.d.getD 0) st (KA A (st.base+x.d.getD 0) x.op st.ev)) 0 cE with
 |true=>qJ T true x (st.base+x.d.getD 0) st (.fD xs lt.tail (cE++[eC (st.base+x.d.getD 0) st (KA A (st.base+x.d.getD 0) x.op st.ev)])::r) (.fD (x::xs) lt cE::r) go (KA A (st.base+x.d.getD 0) x.op st.ev)
 |false=>.go st (.fD (x::xs) lt cE::r)
def run:Nat->List Item->St->bp
 |0,is,st=>.go st is
 |_+1,[],st=>.fin .normal st
 |n+1,.frame e m base d::r,st=>match lT e st with
  |some v=>run n r ((leave m base st).put d v)
  |none=>.stuck
 |n+1,.ops []::r,st=>run n r st
 |n+1,.ops (x::xs)::r,st=>match x.g with
  |none=>qJ T false x (st.fresh x) st (.ops xs::r) (.ops (x::xs)::r) (run n) (KA A (st.fresh x) x.op st.ev)
  |some (j,want)=>match st.slot j with
   |.pv (.bool b)=>match b with
    |true=>match want with
     |true=>qJ T false x (st.fresh x) st (.ops xs::r) (.ops (x::xs)::r) (run n) (KA A (st.fresh x) x.op st.ev)
     |false=>run n (.ops xs::r) (st.put x.d tw)
    |false=>match want with
     |false=>qJ T false x (st.fresh x) st (.ops xs::r) (.ops (x::xs)::r) (run n) (KA A (st.fresh x) x.op st.ev)
     |true=>run n (.ops xs::r) (st.put x.d tw)
   |.pv (.eN _)=>run n (.ops xs::r) (st.put x.d tw)
   |_=>.go st (.ops (x::xs)::r)
 |n+1,.fD [] _ _::r,st=>run n r st
 |n+1,.fD (x::xs) lt cE::r,st=>match x.g with
  |none=>aek A T x xs lt cE r st (run n)
  |some (j,want)=>match st.slot j with
   |.pv (.bool b)=>match b with
    |true=>match want with
     |true=>aek A T x xs lt cE r st (run n)
     |false=>run n (.fD xs lt.tail (cE++[gR])::r) (st.put x.d tw)
    |false=>match want with
     |false=>aek A T x xs lt cE r st (run n)
     |true=>run n (.fD xs lt.tail (cE++[gR])::r) (st.put x.d tw)
   |.pv (.eN _)=>run n (.fD xs lt.tail (cE++[gR])::r) (st.put x.d tw)
   |_=>.go st (.fD (x::xs) lt cE::r)
 |n+1,.Az _::r,st=>run n r st
 |n+1,.code c::r,st=>match c with
  |.skip=>run n r st
  |.pA ops none=>run n (.ops ops::r) st
  |.pA ops (some lt)=>run n (.fD ops lt []::r) st
  |.seq a b=>run n (.code a::.code b::r) st
  |.cond c a b=>match st.ev c with
   |.pv (.bool t)=>match t with|true=>run n (.code a::r) st|false=>run n (.code b::r) st
   |_=>.go st (.code (.cond c a b)::r)
  |.block id b=>run n (.code b::.Az id::r) st
  |.loop b=>match U with
   |true=>run n (.code b::.code (.loop b)::r) st
   |false=>.loop b st r
  |.exit id=>match exitTo id r with|some r'=>run n r' st|none=>match qf id r with|true=>.fin (.exit id) st|false=>.go st (.code (.exit id)::r)
  |.ret=>match kb r with
   |some ((e,m,base,d),r')=>match lT e st with
    |some v=>run n r' ((leave m base st).put d v)
    |none=>.stuck
   |none=>.fin .ret st
section
variable {C A I T U}
theorem jv:∀(a:List Item) (Q:Ex->St->Prop) (s:St),bH C A I a Q .ret s=match kb a with
  |some ((b,n,base,d),r)=>xu b n base (fun v e=>bH C A I r Q .normal (e.put d v)) .ret s
  |none=>Q .ret s
 |[],Q,s=>rfl
 |.frame b n base d::r,Q,s=>rfl
 |.code c::r,Q,s=>by exact jv r Q s
 |.ops c::r,Q,s=>by exact jv r Q s
 |.fD c _ _::r,Q,s=>by exact jv r Q s
 |.Az c::r,Q,s=>by exact jv r Q s
theorem acx(id:Nat):∀(b:List Item) (Q:Ex->St->Prop) (s:St),qf id b=true->Q (.exit id) s->bH C A I b Q (.exit id) s
|[],Q,s,_,d=>d
|.frame ..::_,Q,s,h,_=>by grind[qf]
|.Az j::t,Q,s,h,a=>by simp[bH,qf]at h ⊢;cases e:j==id;{rw[e]at h;exact acx id t Q s h a};simp_all
|.code c::t,Q,s,h,a=>by exact acx id t Q s h a
|.ops c::t,Q,s,h,a=>by exact acx id t Q s h a
|.fD c _ _::t,Q,s,h,a=>by exact acx id t Q s h a
theorem iq(id:Nat):∀(b:List Item) (Q:Ex->St->Prop) (s:St) (r:List Item),exitTo id b=some r->bH C A I r Q .normal s->bH C A I b Q (.exit id) s
|[],Q,s,r,h,_=>by grind[exitTo]
|.frame ..::_,Q,s,r,h,_=>by grind[exitTo]
|.Az j::t,Q,s,r,h,a=>by simp[bH,exitTo]at h ⊢;cases d:j==id;{rw[d]at h;exact iq id t Q s r h a};simp_all
|.code c::t,Q,s,r,h,a=>by exact iq id t Q s r h a
|.ops c::t,Q,s,r,h,a=>by exact iq id t Q s r h a
|.fD c _ _::t,Q,s,r,h,a=>by exact iq id t Q s r h a
def oI(C:CT)(A:Ar)(I:IC)(T:Mj):Prop:=
 ∀f b c d,T f=some (b,c,d)->∀(a:List AV) (st:St) (K:AV->St->Prop),fw C A I b (enter d a st) (xu c st.slots.length st.base K)->I f a st K
section
variable (hI:Gv I) (hT:oI C A I T)
include hI hT
theorem rz{dr:Bool}{m:Nat}{a c:List Item}{k:List Item->St->bp}(e:sE)(b:dr=true->m=st.base+x.d.getD 0)(g:∀a s,(k a s).holds C A I Q->bH C A I a Q .normal s)(h:(qJ T dr x m st a c k e).holds C A I Q): jB C (oH dr I) m x st (fun s=>bH C A I a Q .normal s) e\/bH C A I c Q .normal st:=by have q:∀{n:Nat},Nat.ble (qI dr m) n=true->ae4 (oH dr I) m n:=by{intro n i;have:=Nat.le_of_ble_eq_true i;cases dr;{exact this};exact this};have r:∀{id n:Nat},xO dr id n=true->EK (oH dr I) id n:=by{intro id n i;cases dr;{trivial};exact Nat.le_of_ble_eq_true i};have t:∀o,(mm T dr x m st a c k o).holds C A I Q->ml C (oH dr I) m x st (fun s=>bH C A I a Q .normal s) o\/bH C A I c Q .normal st:=by{intro o h;cases o with|bad=>exact .inr h|val v=>simp[mm,AW]at h;exact .inl (g _ _ h)|dG p v=>simp[mm,AW]at h;exact .inl h|dp id o v=>simp[mm]at h;split at h;{rename_i j;exact .inl ⟨r j,g _ _ h⟩};exact .inr h|ix p id o v=>simp[mm]at h;split at h;{rename_i j;exact .inl ⟨r j,h⟩};exact .inr h|new o v=>simp[mm]at h;split at h;{rename_i b;split at h;{rename_i l;exact .inl ⟨b,q l,g _ _ h⟩};exact .inr h};exact .inr h|jK p o v=>simp[mm]at h;split at h;{rename_i b;split at h;{rename_i l;exact .inl ⟨b,q l,h.1,h.2⟩};exact .inr h};exact .inr h|call f args=>{cases dr with|true=>rw[b rfl];exact .inl h|false=>simp[mm]at h;split at h;{exact .inl h};rename_i u w y z;refine .inl (.inr ?_);exact hT f u w y z args st _ (g _ _ h)}|all p id o v=>cases dr with|true=>exact .inr h|false=>exact .inl h};cases e with|pure o=>exact t o h|rd id f=>simp only[qJ,jB]at*;split at h;{simp_all};exact .inr h
theorem Gw(Q:Ex->St->Prop):∀(n:Nat) (u:List Item) (st:St),(run A T U n u st).holds C A I Q->bH C A I u Q .normal st:=by intro n;induction n with|zero=>intro u st h;exact h|succ n k=>intro u st h;match u with|[]=>exact h|.frame z m w d::r=>simp[run]at h;simp[bH,xu];split at h;{simp_all};exact h.elim|.ops []::r=>exact k r st h|.ops (x::xs)::r=>{simp[run]at h;have key:∀(o:x.g=none\/∃j f b,x.g=some (j,f)/\st.slot j=.pv (.bool b)/\b=f),(qJ T false x (st.fresh x) st (.ops xs::r) (.ops (x::xs)::r) (run A T U n) (KA A (st.fresh x) x.op st.ev)).holds C A I Q->bH C A I (.ops (x::xs)::r) Q .normal st:=fun o p=>by{rcases rz hI hT (dr:=false) _ (fun h=>nomatch h) (fun u s i=>k u s i) p with p|p;{refine⟨st,.refl _,?_⟩;rcases o with o|⟨j,f,b,o,i,y⟩;{rw[o];exact p};rw[o];simp[i];subst y;cases b<;>exact p};omega};split at h;{simp_all};rename_i j f o;have skip:∀b,st.slot j=.pv (.bool b)->b≠f->(run A T U n (.ops xs::r) (st.put x.d tw)).holds C A I Q->bH C A I (.ops (x::xs)::r) Q .normal st:=fun b i y p=>by{refine⟨st,.refl _,?_⟩;rw[o];simp[i];cases b<;>cases f<;>first|exact absurd rfl y|exact k (.ops xs::r) _ p};split at h;{grind};{rename_i l i;refine⟨st,.refl _,?_⟩;rw[o];simp[i];exact k (.ops xs::r) _ h};exact h}|.fD [] _ _::r=>exact k r st h|.fD (x::xs) lt cE::r=>{simp[run]at h;have key:∀(o:(match x.g with|none=>some true|some (j,f)=>match st.slot j with|.pv (.bool b)=>(match b with|true=>(match f with|true=>some true|false=>some false)|false=>(match f with|true=>some false|false=>some true))|.pv (.eN _)=>some false|_=>none)=some true),(aek A T x xs lt cE r st (run A T U n)).holds C A I Q->bH C A I (.fD (x::xs) lt cE::r) Q .normal st:=fun o h=>by{unfold aek at h;split at h;{rename_i E;rcases rz hI hT (dr:=true) _ (fun _=>rfl) (fun u s i=>k u s i) h with p|p;{simp only[bH,ek];rw[o];exact⟨E,p⟩};omega};exact h};have skip:∀(o:(match x.g with|none=>some true|some (j,f)=>match st.slot j with|.pv (.bool b)=>(match b with|true=>(match f with|true=>some true|false=>some false)|false=>(match f with|true=>some false|false=>some true))|.pv (.eN _)=>some false|_=>none)=some false),(run A T U n (.fD xs lt.tail (cE++[gR])::r) (st.put x.d tw)).holds C A I Q->bH C A I (.fD (x::xs) lt cE::r) Q .normal st:=fun o h=>by{simp only[bH,ek];rw[o];exact k (.fD xs lt.tail (cE++[gR])::r) _ h};split at h;{simp_all};split at h;{grind};{simp_all};exact h}|.Az _::r=>exact k r st h|.code c::r=>cases c with|skip=>exact k r st h|pA ops lt=>{cases lt with|none=>exact k (.ops ops::r) st h|some lt=>exact⟨st,.refl _,.inl (k (.fD ops lt []::r) st h)⟩}|seq a b=>{have:=k (.code a::.code b::r) st h;refine fC hI a ?_ this;intro e s i;cases e with|normal=>exact i|ret=>exact i|exit id=>exact i}|cond c a b=>simp[run]at h;split at h;{rename_i t F;simp[bH,fw,F];split at h;{exact k (.code a::r) st h};exact k (.code b::r) st h};exact h|block id b=>{have:=k (.code b::.Az id::r) st h;refine fC hI b ?_ this;intro e s i;cases e with|normal=>exact i|ret=>exact i|exit j=>grind[bH]}|loop b=>{simp[run]at h;split at h;{have:=k (.code b::.code (.loop b)::r) st h;refine k8 hI (.refl _) (fC hI b ?_ this);intro e s i;cases e with|normal=>exact i|ret=>exact i|exit j=>exact i};exact h}|exit id=>simp[run]at h;split at h;{rename_i B G;exact iq id r Q st B G (k _ st h)};split at h;{rename_i H;exact acx id r Q st H h};exact h|ret=>simp[run]at h;show bH C A I r Q .ret st;rw[jv];cases D:kb r with|none=>rw[D]at h;exact h|some q=>obtain⟨⟨z,m,w,d⟩,B⟩:=q;rw[D]at h;simp[xu]at h ⊢;cases J:lT z st with|none=>rw[J]at h;exact h.elim|some v=>simp_all
theorem pF{is:List Item}(n:Nat)(r:bp)(h:run A T U n is st=r)(a:r.holds C A I Q): bH C A I is Q .normal st:=Gw hI hT Q n is st (h▸a)
end
end
end
end
end
end
end
end
def k9:Value->Option PV
 |.bool b=>some (.bool b)
 |.int k n=>some (.int k n)
 |.string s=>some (.str s.data.toList)
 |.pointer none=>some .mh
 |.nilFunc=>some .yS
 |.nilIface=>some .j8
 |.map none=>some .oh
 |.slice none 0 0=>some (.sl [] [])
 |.func (.func f) first a=>match first.toList,a.toList with
  |[],[]=>some (.gM f [])
  |_,_=>none
 |_=>none
def jx:List Value->Option (List PV)
 |[]=>some []
 |v::r=>match k9 v with
  |some p=>match jx r with|some ps=>some (p::ps)|none=>none
  |none=>none
def uh(v:Value):Option PV:=
 match v with
 |.agg cs=>match jx cs.toList with|some ps=>some (.agg ps)|none=>none
 |v=>k9 v
variable (P:Program) (G:Nat->Option (List PV)) (accs:List Nat)
def aZ:Operand->Option bR
 |.tmp t=>some (.t t)
 |.const v=>(uh v).map .k
 |.global g=>(G g).map .g
 |.func f=>some (.k (.gM f []))
def dP:List Operand->Option (List bR)
 |[]=>some []
 |x::r=>match aZ G x with
  |some p=>match dP r with|some ps=>some (p::ps)|none=>none
  |none=>none
def dK(t:TypeId):Option Nat:=(P.info? t).map (·.size)
def nu(t:TypeId):Option Nat:=(P.info? t).map (·.bytes)
def sN(t:TypeId):Option PV:=(P.info? t).bind fun i=>i.zero.bind uh
def gT(t:TypeId):Option (List PV):=(P.info? t).bind fun i=>i.zero.bind fun z=>(uh z).map PV.cells
def ey(t:TypeId):Option Bool:=match P.underlying t with
 |some (.struct _)=>some true
 |some (.array ..)=>some true
 |some _=>some false
 |none=>none
def u7(t:TypeId):Option TypeId:=match P.underlying t with
 |some (.slice e)=>some e
 |_=>none
def qK(t:TypeId)(f:Nat):Option Field:=match P.underlying t with
 |some (.struct fs)=>fs[f]?
 |_=>none
def EM(k:Nat)(d:Option Nat):Bool:=match d with|some d=>accs.contains (3*d+k)|none=>false
def Ly(d:Option Nat):Bool:=match d with|some d=>accs.contains (1000000+d)|none=>false
def qL(t:TypeId):List (Nat×Operand)->Option (List (Nat×Nat×bR))
 |[]=>some []
 |(i,x)::r=>(qK P t i).bind fun f=>(dK P f.type).bind fun n=>(aZ G x).bind fun x=>(qL t r).map fun a=>(f.offset,n,x)::a
def qM(n:Nat):List (Nat×Operand)->Option (List (Nat×Nat×bR))
 |[]=>some []
 |(i,x)::r=>(aZ G x).bind fun x=>(qM n r).map fun a=>(i*n,n,x)::a
def kF:Nat->List (Nat×Operand)->Option (List bR)
 |_,[]=>some []
 |k,(i,x)::r=>if i=k then(aZ G x).bind fun x=>(kF (k+1) r).map (x::·)else none
def cS(go:TypeId->Option (List Nat)):List Nat->List Field->Option (List Nat)
 |sh,[]=>some sh
 |sh,f::r=>if f.name= "_" \/f.offset≠sh.length then none else match go f.type with
  |some k=>if dK P f.type=some k.length then cS go (sh++k) r else none
  |none=>none
def cQ:Nat->TypeId->Option (List Nat)
 |0,_=>none
 |n+1,t=>match P.underlying t with
  |some .bool=>some [0]
  |some (.int _)=>some [1]
  |some .string=>some [2]
  |some (.struct fs)=>if P.stoodInHeld t=true then none else cS P (cQ n) [] fs.toList
  |some (.array m e)=>match cQ n e with
   |some [k]=>if ey P e=some false/\dK P e=some 1 then some (List.replicate m k)else none
   |_=>none
  |_=>none
def jO:Option Operand->Option (Option bR)
 |none=>some none
 |some x=>(aZ G x).map some
def isConst:Operand->Bool
 |.const _=>true
 |_=>false
def oJ(o:Oper):Option wQ:=
 match o.op with
 |.move x|.assign x=>match x,EM accs 0 o.dst with
  |.const (.slice none 0 0),true=>(u7 P o.type).bind fun e=>(dK P e).map fun n=>.c8 n []
  |x,_=>(aZ G x).map .mv
 |.pick c a b=>(aZ G c).bind fun c=>(aZ G a).bind fun a=>(aZ G b).map fun b=>.pick c a b
 |.alloc e=>(gT P e).map fun z=>match z with
  |[.mh,.sl [] []]=>.sJ e z
  |z=>.alloc z
 |.box e x=>(aZ G x).bind fun x=>(dK P e).map (.box x)
 |.build t parts=>(gT P t).bind fun z=>match P.underlying t with
  |some (.struct fs)=>match fs.toList.all fun f=>(P.info? f.type).isSome with
   |true=>(qL P G t parts.toList).map (.mk z)
   |false=>none
  |some (.array _ e)=>(dK P e).bind fun n=>(qM G n parts.toList).map (.mk z)
  |_=>none
 |.buildSlice t len parts=>(u7 P t).bind fun e=>(dK P e).bind fun n=>(kF G 0 parts.toList).bind fun D=>
   if D.length=len/\0<n/\len*n<=2^24 then(match gT P e with|some _=>(match EM accs 0 o.dst with|true=>some (.c8 n D)|false=>(match EM accs 1 o.dst with|true=>some (.RE n D)|false=>some (.OS n D)))|none=>none)else none
 |.load t a=>(aZ G a).bind fun a=>(ey P t).bind fun g=>match g with
  |true=>(dK P t).map fun n=>.ld a (some n)
  |false=>some (.ld a none)
 |.store t a x=>(aZ G a).bind fun a=>(aZ G x).bind fun x=>(dK P t).map fun n=>.st a x n
 |.nilCheck x=>(aZ G x).map .Ws
 |.binOp op t x y _=>(aZ G x).bind fun j=>(aZ G y).bind fun q=>match P.underlying t with
  |some .bool=>some (.CU op j q)
  |some (.int _)=>some (.bin op j q)
  |some .string=>some (.bin op j q)
  |some (.struct _)=>match P.eqGuardType P.depth t with|true=>none|false=>(cQ P 6 t).map fun w=>.beq op w j q
  |some (.interface _)=>match isConst x||isConst y with|true=>some (.ahI op j q)|false=>none
  |some (.pointer e)=>match isConst y with
   |true=>some (.AG false op j q)
   |false=>match P.info? e with|some _=>some (.pp op j q)|none=>none
  |some (.func ..)=>some (.AG true op j q)
  |some (.slice _)=>match op,y with|.eql,.const (.slice none 0 0)=>some (.FB j)|_,_=>none
  |_=>none
 |.unOp op _ x=>(aZ G x).map (.un op)
 |.convert s d x=>(aZ G x).bind fun x=>match P.underlying s,P.underlying d with
  |some (.int _),some (.int k)=>some (.Wt k x)
  |some .string,some .string=>some (.Wu x)
  |some (.int _),some .string=>some (.Wu x)
  |some .string,some (.slice e)=>match P.underlying e with|some (.int .u8)=>some (.Xe x)|_=>none
  |some (.slice e),some .string=>match P.underlying e with|some (.int .u8)=>some (.Ql x)|_=>none
  |some (.pointer e),some .unsafePointer=>match P.info? e with
   |some i=>match i.size with|0=>none|_=>some (.WB x)
   |none=>none
  |some .unsafePointer,some (.pointer e)=>match P.info? e with
   |some i=>match liesAt P P.depth e (i.size/P.cellsOf e) 0 e 1 with|true=>some (.WC e i.size x)|false=>none
   |none=>none
  |_,_=>none
 |.makeInterface t x=>match P.underlying t with
  |some (.interface _)=>none
  |some _=>(aZ G x).map (.Wv t)
  |none=>none
 |.makeFunc (.func f) first r=>match first.toList with
  |[]=>(dP G r.toList).map (.SJ f)
  |l=>match r.toList with
   |[]=>(dP G l).map (.CW f)
   |_=>none
 |.makeSlice t l c=>(u7 P t).bind fun e=>(dK P e).bind fun n=>(nu P e).bind fun b=>(gT P e).bind fun z=>
   if z.length=n/\0<n then(aZ G l).bind fun l=>(aZ G c).map fun c=>.SK n b z l c else none
 |.slice t x p A none=>(aZ G x).bind fun x=>(jO G p).bind fun p=>(jO G A).bind fun A=>match P.underlying t with
  |some .string=>some (.sH x p A)
  |some (.slice e)=>match EM accs 2 o.dst,p,A with
   |true,none,some h=>(dK P e).map fun n=>.UM n x h
   |true,some (.k (.int .i64 0)),some h=>(dK P e).map fun n=>.UM n x h
   |_,p,A=>(dK P e).map fun n=>.Li n x p A
  |some (.array m e)=>match p,A with
   |none,none=>match dK P e with
    |some 1=>some (.SU x m)
    |_=>none
   |_,_=>none
  |_=>none
 |.slice t x p (some (.const (.int _ 0))) (some (.const (.int _ 0)))=>match P.underlying t,p with
  |some (.slice e),none=>(aZ G x).bind fun x=>(dK P e).map fun _=>.SQ x
  |some (.slice e),some (.const (.int _ 0))=>(aZ G x).bind fun x=>(dK P e).map fun _=>.SQ x
  |_,_=>none
 |.field s x f=>(aZ G x).bind fun x=>(qK P s f).bind fun B=>(ey P B.type).bind fun g=>match g with
  |true=>(dK P B.type).map fun n=>.SW x B.offset (some n)
  |false=>some (.SW x B.offset none)
 |.makeMap t none=>match P.underlying t with
  |some (.map k e)=>match P.underlying e with
   |some (.func ..)=>match P.underlying k with|some .string=>some .Ww|_=>none
   |_=>(ey P k).bind fun C=>(ey P e).bind fun E=>(dK P k).bind fun kn=>match C,kn with|true,kn=>some (.SX true E kn)|false,1=>some (.SX false E 1)|_,_=>none
  |_=>none
 |.mapUpdate t m k x|.insert t m k x=>match P.underlying t with
  |some (.map v e)=>(aZ G m).bind fun m=>(aZ G k).bind fun k=>(aZ G x).bind fun x=>(cQ P 6 v).bind fun w=>(ey P v).bind fun C=>(dK P e).map fun n=>.Qm C w n m k x
  |_=>none
 |.mapEntry t m k=>match P.underlying t with
  |some (.map v e)=>(aZ G m).bind fun m=>(aZ G k).bind fun k=>(cQ P 6 v).bind fun w=>(ey P v).bind fun C=>(sN P e).map fun z=>.sI C w z m k
  |_=>none
 |.entryStore t m s x=>match P.underlying t with
  |some (.map _ e)=>(aZ G m).bind fun m=>(aZ G s).bind fun s=>(aZ G x).bind fun x=>(dK P e).map fun n=>.AH n m s x
  |_=>none
 |.lookup t m k ok=>match P.underlying t with
  |some (.map v e)=>(aZ G m).bind fun m=>(aZ G k).bind fun k=>(cQ P 6 v).bind fun w=>(ey P v).bind fun C=>(sN P e).map fun z=>.Ll C w z ok m k
  |_=>none
 |.range t x=>match P.underlying t with
  |some .string=>(aZ G x).map .Wy
  |some (.map _ _)=>(aZ G x).map .WA
  |_=>none
 |.next x b=>match b with
  |true=>(aZ G x).map .Wz
  |false=>(aZ G x).map .Gr
 |.entry x=>(aZ G x).map .Gs
 |.fieldAddr s x f=>(aZ G x).bind fun x=>(qK P s f).bind fun B=>(dK P B.type).bind fun n=>match n with
  |0=>none
  |_=>some (.pad x B.offset)
 |.indexAddr t x i=>(aZ G x).bind fun x=>(aZ G i).bind fun i=>match P.underlying t with
  |some (.slice e)=>(dK P e).map fun n=>.idx x i n
  |some (.array m e)=>(dK P e).map fun n=>.Lj x i m n
  |_=>none
 |.index t x i=>(aZ G x).bind fun x=>(aZ G i).bind fun i=>match P.underlying t with
  |some .string=>some (.RX x i)
  |some (.array m e)=>match ey P e,dK P e with
   |some false,some 1=>some (.RY x i m)
   |_,_=>none
  |_=>none
 |.extract x i=>(aZ G x).map fun x=>.ext x i
 |.call c=>match c.callee with
  |.value (.func f)=>(dP G c.args.toList).map (.call f)
  |.value x=>(aZ G x).bind fun x=>(dP G c.args.toList).map (.AF x)
  |.builtin .len=>match c.args.toList,c.argTypes.toList with
   |[x],[t]=>match P.underlying t with
    |some (.slice _)=>(aZ G x).map .len
    |some .string=>(aZ G x).map .lens
    |some (.map _ _)=>(aZ G x).map .Wx
    |_=>none
   |_,_=>none
  |.builtin .unsafeSliceData=>match c.args.toList with
   |[x]=>(aZ G x).map .SY
   |_=>none
  |.builtin .unsafeString=>match c.args.toList,c.argTypes.toList with
   |[x,n],[t,_]=>match P.underlying t with
    |some (.pointer e)=>match decide (P.cellsOf e=1)with
     |true=>(aZ G x).bind fun x=>(aZ G n).map fun n=>.RZ e x n
     |false=>none
    |_=>none
   |_,_=>none
  |.builtin .append=>match c.args.toList,c.argTypes.toList with
   |[x,y],[t,u]=>match Ly accs o.dst with
    |true=>(u7 P t).bind fun e=>(dK P e).bind fun n=>(nu P e).bind fun b=>(gT P e).bind fun z=>
     match decide (n=1/\b=1/\z.length=1)with
     |true=>(aZ G x).bind fun x=>(aZ G y).bind fun y=>match P.underlying u with
      |some (.slice _)=>some (.AJ e x y)
      |some .string=>some (.AJ e x y)
      |_=>none
     |false=>none
    |false=>(u7 P t).bind fun e=>(dK P e).bind fun n=>(nu P e).bind fun b=>(gT P e).bind fun z=>if z.length=n then
     ((aZ G x).bind fun x=>(aZ G y).bind fun y=>match P.underlying u with
      |some (.slice _)=>some (.app n b x y)
      |some .string=>if n=1 then some (.app n b x y)else none
      |_=>none)else none
   |_,_=>none
  |.builtin .min=>match c.args.toList with
   |[x,y]=>(aZ G x).bind fun x=>(aZ G y).map fun y=>.RC false x y
   |_=>none
  |.builtin .max=>match c.args.toList with
   |[x,y]=>(aZ G x).bind fun x=>(aZ G y).map fun y=>.RC true x y
   |_=>none
  |_=>none
 |_=>none
def iO(ops:Array Oper)(o:Oper):Option AI:=
 match oJ P G accs o with
 |none=>none
 |some op=>match o.guard with
  |none=>some ⟨o.dst,op,none⟩
  |some (j,want)=>match(ops[j]?).bind (·.dst)with
   |some s=>some ⟨o.dst,op,some (s,want)⟩
   |none=>none
def V6(ops:Array Oper):List Oper->Option (List AI)
 |[]=>some []
 |o::r=>match iO P G accs ops o with
  |some x=>match V6 ops r with|some xs=>some (x::xs)|none=>none
  |none=>none
def iz:List Oper->List (List Nat)->List (List Nat)
 |[],acc=>acc
 |o::r,acc=>iz r (acc++[(o.after.toList.filter (Region.binds .any)).foldl (fun l e=>(e.on::(acc.getD e.on [])).foldl (fun l i=>if l.contains i then l else l++[i]) l) []])
def iF(l:List AI)(lt:List (List Nat)):Bool:=
 (List.range l.length).all fun i=>(lt.getD i []).all (fun k=>decide (k<i))&&(List.range i).all fun j=>(lt.getD i []).contains j||(match l[i]?,l[j]? with|some x,some y=>x.apart y|_,_=>false)
def Qq:PV->PV->Bool
 |.int k n,.int a b=>decide (k=a/\n=b)
 |_,_=>false
def quiet:wQ->Bool
 |.bin ..|.mv _=>true
 |_=>false
def AX(x y:AI):Bool:=match x.op,x.g with
 |.Ll a sh z ok (.t m) (.t k),none=>match y.op,y.g with
  |.sI b c e (.t m') (.t f),none=>match ok with
   |true=>false
   |false=>decide (a=b/\sh=c/\m=m'/\k=f)&&Qq z e&&(x.looks.all fun t=>decide (x.d≠some t))
  |_,_=>false
 |_,_=>false
def Qr(l:List AI)(x:AI)(j i:Nat):Bool:=
 (List.range i).all fun q=>match decide (q<=j)with
  |true=>true
  |false=>match l[q]? with
   |some z=>quiet z.op&&x.looks.all fun t=>decide (z.d≠some t)
   |none=>false
def mO(l:List AI)(j i:Nat):Bool:=match l[j]? with
 |some x=>match l[i]? with
  |some y=>match AX x y with
   |true=>Qr l x j i
   |false=>false
  |none=>false
 |none=>false
def iA(l:List AI)(lt:List (List Nat)):List (List Nat):=(List.range lt.length).map fun i=>lt.getD i []++(List.range i).filter fun j=>mO l j i
def bD:Code->Option cf
 |.skip=>some .skip
 |.refuse _=>some (.pA [⟨none,.ext (.k (.bool true)) 0,none⟩] none)
 |.region _ ops false=>(V6 P G accs ops ops.toList).map fun l=>.pA l none
 |.region _ ops true=>match V6 P G accs ops ops.toList with
  |some l=>match iF l (iz ops.toList [])with
   |true=>some (.pA l (some (iA l (iz ops.toList []))))
   |false=>none
  |none=>none
 |.seq a b=>match bD a with
  |some a=>match bD b with|some b=>some (.seq a b)|none=>none
  |none=>none
 |.cond c a b=>match aZ G c with
  |some c=>match bD a with
   |some a=>match bD b with|some b=>some (.cond c a b)|none=>none
   |none=>none
  |none=>none
 |.block id b=>(bD b).map (.block id)
 |.loop b=>(bD b).map .loop
 |.exit id=>some (.exit id)
 |.ret=>some .ret
 |_=>none
end Go.Am
