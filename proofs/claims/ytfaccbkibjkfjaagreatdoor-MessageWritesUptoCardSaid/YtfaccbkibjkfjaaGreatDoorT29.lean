import Derived.Test.YtfaccbkibjkfjaaGreatDoorT07
set_option linter.all false
set_option maxRecDepth 100000
set_option maxHeartbeats 1000000
section
namespace Go.Am
theorem XN {C:FuncId→List PV→PV→Prop} {A:Ar} {I:IC} {is r:List Item} {Q:Ex→St→Prop} {N:St→Prop} {s s':St} {cN:List RD} {n base:Nat} {d:Option Nat} {v:AV} (hr:kW is=some ((cN,n,base,d),r)) (hv:mU cN s=some v) (hs:(leave n base s).put d v=s')
  (h:bA C A I r Q .normal s'):(bl.fin .ret s).holds C A I (cO C A I is Q N):=by
 show cO C A I is Q N .ret s;simp only[cO,hr,wG,hv,hs];exact h
theorem VX {C:FuncId→List PV→PV→Prop} {A:Ar} {I:IC} {is is2 r:List Item} {Q:Ex→St→Prop} {N N2:St→Prop} {s s':St} {cN:List RD} {n base:Nat} {d:Option Nat} {v:AV} (Jc:kW is2=none) (hr:kW is=some ((cN,n,base,d),r)) (hv:mU cN s=some v) (hs:(leave n base s).put d v=s')
  (h:bA C A I r Q .normal s'):(bl.fin .ret s).holds C A I (cO C A I is2 (cO C A I is Q N) N2):=by
 show cO C A I is2 _ N2 .ret s;simp only[cO,Jc,hr,wG,hv,hs];exact h
def fQ (p:Nat→Prop) (n:Nat) (r:Int):Prop:=((∀k,k<n→¬p k)∧r= -1)∨∃v,v<n∧p v∧(∀k,k<v→¬p k)∧r=Int.ofNat v
theorem fQ.ex (p:Nat→Prop) (n:Nat):∃r,fQ p n r:=by
 have:(∀k,k<n→¬p k)∨∃v,v<n∧p v∧∀k,k<v→¬p k:=by
  induction n with
  |zero=>exact Or.inl (fun k h=>by omega)
  |succ n ih=>
   rcases ih with h|⟨v,h1,h2,h3⟩
   ·by_cases hp:p n
    ·exact Or.inr ⟨n,by omega,hp,h⟩
    ·left
     intro k hk
     by_cases e:k=n
     ·subst e;exact hp
     ·exact h k (by omega)
   ·exact Or.inr ⟨v,by omega,h2,h3⟩
 rcases this with h|⟨v,h1,h2,h3⟩
 ·exact⟨_,.inl ⟨h,rfl⟩⟩
 ·exact⟨_,.inr ⟨v,h1,h2,h3,rfl⟩⟩
theorem fQ.at {p:Nat→Prop} {n:Nat} {r:Int} (h:fQ p n r) {v:Nat} (hv:v<n) (hp:p v) (hk:∀k,k<v→¬p k):r=Int.ofNat v:=by
 rcases h with⟨h,-⟩|⟨u,h1,h2,h3,h4⟩
 ·exact absurd hp (h v hv)
 ·rcases Nat.lt_trichotomy u v with hl|hl|hl
  ·exact absurd h2 (hk u hl)
  ·subst hl;exact h4
  ·exact absurd hp (h3 v hl)
theorem fQ.none {p:Nat→Prop} {n:Nat} {r:Int} (h:fQ p n r) (hk:∀k,k<n→¬p k):r= -1:=by
 rcases h with⟨-,h⟩|⟨u,h1,h2,h3,h4⟩
 ·exact h
 ·exact absurd h2 (hk u h1)
theorem fQ.iff {p:Nat→Prop} {n:Nat} {r:Int} (h:fQ p n r):0≤r↔∃v,v<n∧p v:=by
 rcases h with⟨h,rfl⟩|⟨u,h1,h2,h3,rfl⟩
 ·constructor
  ·intro h;omega
  ·rintro⟨v,hv,hp⟩;exact absurd hp (h v hv)
 ·constructor
  ·intro _;exact⟨u,h1,h2⟩
  ·intro _;simp
theorem yd {C:FuncId→List PV→PV→Prop} {A:Ar} {I:IC} {x:AI} {xs:List AI} {r:List Item} {st s0:St} {Q:Ex→St→Prop} (hf:Fg st s0) (h:bA C A I (.ops (x::xs)::r) Q .normal s0):bA C A I (.ops (x::xs)::r) Q .normal st:=by
 simp only[bA,bC]at h ⊢;obtain⟨s1,h1,h2⟩:=h;exact⟨s1,Fg.trans hf h1,h2⟩
theorem tL {C:FuncId→List PV→PV→Prop} {A:Ar} {I:IC} {is:List Item} {st:St} {Q:Ex→St→Prop} (h:bA C A I is Q .normal st):(bl.go st is).holds C A I Q:=h
theorem Iu {C:FuncId→List PV→PV→Prop} {A:Ar} {I:IC} {is:List Item} {p:Nat→Prop} {st:Nat→St} {Q:Ex→St→Prop} (h:∀i,p i→bA C A I is Q .normal (st i)):(bl.all p st is).holds C A I Q:=h
theorem Fg.Pf {s s':St} {id:Nat} {cs:List AV} {ps:List PV} (h1:aA s.mem id=some (.cells cs)) (h2:AV.mR cs=some ps) (h3:s.Ci id (kU ps)=s'):Fg s s':=h3▸Fg.Jm h1 h2
theorem Fg.abg {s s':St} {id kn:Nat} {kg vg:Bool} {rows:List (List PV)} (h1:aA s.mem id=some (.map kg vg kn rows)) (h3:s.Ci id (pN kg vg kn rows)=s'):Fg s s':=h3▸Fg.T0 h1
theorem Fg.frowsE {s s':St} {id sz ver:Nat} {rs:List (List PV)} (h1:aA s.mem id=some (.rows sz rs ver)) (h3:s.Ci id (jj rs ver)=s'):Fg s s':=h3▸Fg.ze h1
end Go.Am
end
section
open Go Go.Am
namespace Go.Am
theorem yo {P:Program} {G:Nat→Option (List PV)} {f:FuncId} (bJ:∀v w,(callFunc f #[v]).run P w=.ok (.value v) w) {x:AV} {st:St} {K:AV→St→Prop} (hk:K x st):bB P G f [x] st K:=by
 intro w0 own0 hvs S0 γ S a w vs h0 h1 hs hx;simp only[aF]at hx;obtain⟨v,r,rfl,hv,rfl⟩:=hx;unfold fM;rw[show([v]:List Value).toArray=#[v] from rfl,bJ v w];exact⟨x,st,γ,S,hk,h0,h1,hs,hv⟩
theorem oh {P:Program} {G:Nat→Option (List PV)} {A:Ar} {Q:Ex→St→Prop} {f:FuncId} {x:AV} {d:Option Nat} {st:St} {is:List Item} (bJ:∀v w,(callFunc f #[v]).run P w=.ok (.value v) w)
  (hk:bA (ar P G) A (bB P G) is Q .normal (st.put d x)):(bl.call f [x] d st is).holds (ar P G) A (bB P G) Q:=.inr (yo bJ hk)
theorem call_h {P:Program} {G:Nat→Option (List PV)} {A:Ar} {Q:Ex→St→Prop} {f:FuncId} {args:List AV} {d:Option Nat} {st:St} {is:List Item} (h:bB P G f args st (fun v st'=>bA (ar P G) A (bB P G) is Q .normal (st'.put d v))):(bl.call f args d st is).holds (ar P G) A (bB P G) Q:=.inr h
end Go.Am
end
section
namespace Go.Am
mutual
def PV.mN:PV→PV→Bool
 |.bool a,.bool b=>a==b
 |.int k a,.int k' b=>decide (k=k')&&decide (a=b)
 |.str a,.str b=>decide (a=b)
 |.nj,.nj=>true
 |.At,.At=>true
 |.kT,.kT=>true
 |.pn,.pn=>true
 |.gZ f a,.gZ g b=>decide (f=g)&&PV.lv a b
 |.iface t a,.iface u b=>decide (t=u)&&PV.mN a b
 |.agg a,.agg b=>PV.lv a b
 |.ep a,.ep b=>PV.lv a b
 |.sl a b,.sl c d=>PV.jh a c&&PV.jh b d
 |.ptr a,.ptr b=>PV.lv a b
 |.mp a b c d,.mp a' b' c' d'=>(a==a')&&(b==b')&&decide (c=c')&&PV.jh d d'
 |_,_=>false
def PV.lv:List PV→List PV→Bool
 |[],[]=>true
 |a::r,b::s=>PV.mN a b&&PV.lv r s
 |_,_=>false
def PV.jh:List (List PV)→List (List PV)→Bool
 |[],[]=>true
 |a::r,b::s=>PV.lv a b&&PV.jh r s
 |_,_=>false
end
mutual
theorem PV.mJ:∀(a b:PV),PV.mN a b=true→a=b
 |.bool a,b,h=>by cases b<;>simp_all [PV.mN]
 |.int k a,b,h=>by cases b<;>simp_all [PV.mN]
 |.str a,b,h=>by cases b<;>simp_all [PV.mN]
 |.nj,b,h=>by cases b<;>simp_all [PV.mN]
 |.At,b,h=>by cases b<;>simp_all [PV.mN]
 |.kT,b,h=>by cases b<;>simp_all [PV.mN]
 |.pn,b,h=>by cases b<;>simp_all [PV.mN]
 |.gZ f a,b,h=>by
  cases b<;>simp[PV.mN]at h
  obtain⟨rfl,h⟩:=h;rw[PV.fp _ _ h]
 |.iface t a,b,h=>by
  cases b<;>simp[PV.mN]at h
  obtain⟨rfl,h⟩:=h;rw[PV.mJ _ _ h]
 |.agg a,b,h=>by
  cases b<;>simp[PV.mN]at h
  rw[PV.fp _ _ h]
 |.ep a,b,h=>by
  cases b<;>simp[PV.mN]at h
  rw[PV.fp _ _ h]
 |.sl a c,b,h=>by
  cases b<;>simp[PV.mN]at h
  rw[PV.gq _ _ h.1,PV.gq _ _ h.2]
 |.ptr a,b,h=>by
  cases b<;>simp[PV.mN]at h
  rw[PV.fp _ _ h]
 |.mp a c d e,b,h=>by
  cases b<;>simp[PV.mN]at h
  obtain⟨⟨⟨rfl,rfl⟩,rfl⟩,h⟩:=h;rw[PV.gq _ _ h]
theorem PV.fp:∀(a b:List PV),PV.lv a b=true→a=b
 |[],[],_=>rfl
 |[],_::_,h=>by simp[PV.lv]at h
 |_::_,[],h=>by simp[PV.lv]at h
 |a::r,b::s,h=>by
  simp[PV.lv]at h;rw[PV.mJ _ _ h.1,PV.fp _ _ h.2]
theorem PV.gq:∀(a b:List (List PV)),PV.jh a b=true→a=b
 |[],[],_=>rfl
 |[],_::_,h=>by simp[PV.jh]at h
 |_::_,[],h=>by simp[PV.jh]at h
 |a::r,b::s,h=>by
  simp[PV.jh]at h;rw[PV.fp _ _ h.1,PV.gq _ _ h.2]
end
end Go.Am
end
section
namespace Go.Am
def iV:Out→Prop
 |.dH p _|.iL p _ _ _|.km p _ _=>p
 |_=>True
def FE (mem:List (Option Obj)):tZ→Prop
 |.pure o=>iV o
 |.rd id f=>∀ob,aA mem id=some ob→iV (f ob)
def wm (sz:Nat) (rows:List (List PV)):Bool:=rows.all fun r=>r.length==sz
theorem sO {sz:Nat} {rows:List (List PV)} (h:wm sz rows=true):aS sz rows:=by
 intro r hr;have:=List.all_eq_true.1 h r hr;simpa using this
def Hu (sz:Nat) (rows:List (List PV)):Bool:=rows.all fun r=>(r.length==sz)&&r.all fun p=>(AV.pv p).one
theorem FF {sz:Nat} {rows:List (List PV)} (h:Hu sz rows=true):cr sz rows:=by
 intro r hr;have:=List.all_eq_true.1 h r hr;simp only[Bool.and_eq_true,beq_iff_eq,List.all_eq_true]at this;exact this
def rU (xs ys:List (List PV)) (bytes sz:Nat):Bool:=
 Nat.ble ((xs.length+ys.length+256)*bytes) 70368744177664&&(Nat.ble (xs.length+ys.length) 70368744177664&&(Hu sz ys&&wm sz xs))
theorem qI {xs ys:List (List PV)} {bytes sz:Nat} (h:rU xs ys bytes sz=true):aG.po xs ys bytes sz:=by
 simp only[rU,Bool.and_eq_true]at h;exact⟨Nat.le_of_ble_eq_true h.1,Nat.le_of_ble_eq_true h.2.1,FF h.2.2.1,sO h.2.2.2⟩
def kb {α:Type}:List α→Bool
 |[]=>true
 |_::_=>false
theorem XT {α:Type} {l:List α}:kb l=true↔l=[]:=by cases l<;>simp[kb]
def WD (xs ys:List (List PV)):Bool:=kb xs|| !kb ys
theorem PI {xs ys:List (List PV)} (h:WD xs ys=true):aG.Rk xs ys:=by
 cases xs<;>cases ys<;>simp_all [WD,kb,aG]
def Hv (xs ys:List (List AV)) (bytes sz:Nat):Bool:=
 Nat.ble ((xs.length+ys.length+256)*bytes) 70368744177664&&(Nat.ble (xs.length+ys.length) 70368744177664&&((ys.all fun r=>(r.length==sz)&&fr r)&&(xs.all fun r=>r.length==sz)))
theorem DI {xs ys:List (List AV)} {bytes sz:Nat} (h:Hv xs ys bytes sz=true):aG.Cf xs ys bytes sz:=by
 simp only[Hv,Bool.and_eq_true,List.all_eq_true,beq_iff_eq]at h;exact⟨Nat.le_of_ble_eq_true h.1,Nat.le_of_ble_eq_true h.2.1,h.2.2.1,h.2.2.2⟩
def y5 (j:Int) (rows:List (List PV)) (sz:Nat):Bool:=decide (0≤j)&&(decide (j<rows.length)&&((rows.getD j.toNat []).length==sz))
theorem tR {j:Int} {rows:List (List PV)} {sz:Nat} (h:y5 j rows sz=true):aG.wx j rows sz:=by
 simp only[y5,Bool.and_eq_true,decide_eq_true_eq,beq_iff_eq]at h;exact h
def PJ (j:Int) (rows:List (List AV)) (sz:Nat):Bool:=decide (0≤j)&&(decide (j<rows.length)&&((rows.getD j.toNat []).length==sz))
theorem PK {j:Int} {rows:List (List AV)} {sz:Nat} (h:PJ j rows sz=true):aG.ain j rows sz:=by
 simp only[PJ,Bool.and_eq_true,decide_eq_true_eq,beq_iff_eq]at h;exact h
def tS (l h:Int) (rows:List (List PV)) (sz:Nat):Bool:=decide (0≤l)&&(decide (l≤h)&&(decide (h≤rows.length)&&(decide (l=0)||wm sz rows)))
theorem om {l h:Int} {rows:List (List PV)} {sz:Nat} (e:tS l h rows sz=true):aG.yI l h rows sz:=by
 simp only[tS,Bool.and_eq_true,Bool.or_eq_true,decide_eq_true_eq]at e;exact⟨e.1,e.2.1,e.2.2.1,e.2.2.2.imp id sO⟩
def WE (l h:Int) (rows spare:List (List PV)) (sz:Nat):Bool:=decide (0≤l)&&(decide (l≤h)&&(decide (h≤rows.length+spare.length)&&(decide (l=0)||wm sz (rows++spare))))
theorem PL {l h:Int} {rows spare:List (List PV)} {sz:Nat} (e:WE l h rows spare sz=true):aG.XY l h rows spare sz:=by
 simp only[WE,Bool.and_eq_true,Bool.or_eq_true,decide_eq_true_eq]at e;exact⟨e.1,e.2.1,e.2.2.1,e.2.2.2.imp id sO⟩
def tT (rows:List (List PV)):Bool:=rows.all fun r=>match r with|[.int .u8 _]=>true|_=>false
theorem qJ {rows:List (List PV)} (h:tT rows=true):aG.rW rows:=by
 intro r hr;have:=List.all_eq_true.1 h r hr;split at this
 ·exact⟨_,rfl⟩
 ·cases this
def iH:List Nat→List PV→List PV→Bool
 |[],[],[]=>true
 |0::sh,.bool _::r,.bool _::s=>iH sh r s
 |1::sh,.int k _::r,.int k' _::s=>decide (k=k')&&iH sh r s
 |2::sh,.str _::r,.str _::s=>iH sh r s
 |_,_,_=>false
theorem o4:∀{sh:List Nat} {a b:List PV},iH sh a b=true→aX sh a b:=by
 intro sh a b h
 fun_induction iH sh a b with
 |case1=>simp[aX]
 |case2 sh _ r _ s ih=>simp only[aX];exact ih h
 |case3 sh k _ r k' _ s ih=>simp only[aX];simp only[Bool.and_eq_true,decide_eq_true_eq]at h;exact⟨h.1,ih h.2⟩
 |case4 sh _ r _ s ih=>simp only[aX];exact ih h
 |case5=>cases h
def vS (sh:List Nat) (kn:Nat) (rows:List (List PV)) (k:List PV):Bool:=(k.length==kn)&&(iH sh k k&&rows.all fun r=>iH sh k (r.take kn))
theorem tU {sh:List Nat} {kn:Nat} {rows:List (List PV)} {k:List PV} (h:vS sh kn rows k=true):aG.Ea sh kn rows k:=by
 simp only[vS,Bool.and_eq_true,beq_iff_eq,List.all_eq_true]at h;exact⟨h.1,o4 h.2.1,fun r hr=>o4 (h.2.2 r hr)⟩
def DJ (s:List UInt8):List (List UInt8×AV)→Bool
 |[]=>true
 |(t,_)::r=>(!decide (s=t))&&DJ s r
theorem DK {s:List UInt8}:∀{l:List (List UInt8×AV)},DJ s l=true→MF s l
 |[],_=>trivial
 |(t,v)::r,h=>by
  simp only[DJ,Bool.and_eq_true,Bool.not_eq_true',decide_eq_false_iff_not]at h;exact⟨h.1,DK h.2⟩
def IJ (j:Int) (n:Nat):Bool:=decide (0≤j)&&decide (j<n)
theorem wo {j:Int} {n:Nat} (h:IJ j n=true):aG.Ji j n:=by
 simp only[IJ,Bool.and_eq_true,decide_eq_true_eq]at h;exact h
def PM (l c:Int) (b:Nat):Bool:=decide (0≤l)&&(decide (l≤c)&&(decide (c*b≤140737488355328)&&decide (c≤140737488355328)))
theorem PN {l c:Int} {b:Nat} (h:PM l c b=true):aG.Xt l c b:=by
 simp only[PM,Bool.and_eq_true,decide_eq_true_eq]at h;exact h
def uO (sz:Nat) (x:AV) (lo hi:Option Int):Bool:=
 match x with
 |.pv (.sl rows spare)=>match hi with
  |none=>tS (lo.getD 0) rows.length rows sz
  |some h=>match spare with
   |[]=>tS (lo.getD 0) h rows sz
   |s=>WE (lo.getD 0) h rows s sz
 |.full rows=>match hi with
  |none=>tS (lo.getD 0) rows.length rows sz
  |some h=>tS (lo.getD 0) h rows sz
 |_=>true
theorem tV {sz:Nat} {x:AV} {lo hi:Option Int} (h:uO sz x lo hi=true):iV (ot aG sz x lo hi):=by
 unfold ot;split
 ·rename_i rows spare
  cases hi with
  |none=>exact om h
  |some hh=>
   cases spare with
   |nil=>exact om h
   |cons a r=>exact PL h
 ·cases hi with
  |none=>exact om h
  |some hh=>exact om h
 ·trivial
def wq (mem:List (Option Obj)) (sz:Nat) (x:AV) (lo hi:Option Int):Bool:=
 match x with
 |.dB id _=>match aA mem id with
  |some (.eL rs _)=>uO sz (.pv (.sl rs [])) lo hi
  |some (.rows _ rs _)=>tS (lo.getD 0) (hi.getD rs.length) rs sz
  |_=>true
 |x=>uO sz x lo hi
theorem FG {mem:List (Option Obj)} {sz:Nat} {x:AV} {lo hi:Option Int} (h:wq mem sz x lo hi=true):FE mem (nK aG sz x lo hi):=by
 unfold wq at h;split at h
 ·simp only[nK,FE];intro ob bH;rw[bH]at h;split
  ·split
   ·exact tV h
   ·trivial
  ·split
   ·exact om h
   ·trivial
  ·trivial
 ·rename_i hn;unfold nK;split
  ·rename_i a b;exact(hn a b rfl).elim
  ·exact tV h
def jO (mem:List (Option Obj)) (id:Nat) (f:List (List PV)→Bool) (g:List (List AV)→Bool):Bool:=
 match aA mem id with
 |some (.rows _ rs _)=>f rs
 |some (.eL rs _)=>f rs
 |some (.cH _ rs _)=>f rs
 |some (.cf _ rs _)=>g rs
 |_=>true
def LH (mem:List (Option Obj)) (sz bytes:Nat) (x y:AV):Bool:=
 match x with
 |.full xs=>match vV xs y with
  |true=>true
  |false=>match gU aG y with
   |some ys=>rU xs ys bytes sz&&WD xs ys
   |none=>match y with
    |.lF ys=>Hv (xs.map (·.map .pv)) ys bytes sz&& !kb ys
    |_=>true
 |.dB id _=>jO mem id
  (fun rs=>match gU aG y with|some ys=>rU rs ys bytes sz|none=>true)
  (fun rs=>match qM aG y with|some ys=>Hv rs ys bytes sz|none=>true)
 |_=>true
def ck (mem:List (Option Obj)) (op:yB) (ρ:bN→AV):Bool:=
 match op with
 |.bin op x y=>match ρ x,ρ y with
  |.pv (.int _ _),.pv (.int _ b)=>match op with
   |.quo|.rem=> !decide (b=0)
   |.shl|.shr=>decide (0≤b)
   |_=>true
  |.pv (.str a),.pv (.str b)=>match op with
   |.add=>Nat.ble (a.length+b.length) 9223372036854775807
   |_=>true
  |_,_=>true
 |.beq _ sh x y=>match(ρ x).flat,(ρ y).flat with
  |some (.agg xs),some (.agg ys)=>iH sh xs ys
  |_,_=>true
 |.Mr sz x lo hi=>match da ρ lo,da ρ hi with
  |some l,some h=>wq mem sz (ρ x) l h
  |_,_=>true
 |.ud x lo hi=>match da ρ lo,da ρ hi with
  |some l,some h=>match ρ x with
   |.pv (.str s)=>decide (0≤l.getD 0)&&(decide (l.getD 0≤h.getD s.length)&&decide (h.getD s.length≤s.length))
   |_=>true
  |_,_=>true
 |.idx x i sz=>match ρ i with
  |.pv (.int _ j)=>match ρ x with
   |.pv (.sl rows _)=>y5 j rows sz
   |.full rows=>y5 j rows sz
   |.dB id _=>jO mem id (fun rs=>y5 j rs sz) (fun rs=>PJ j rs sz)
   |_=>true
  |_=>true
 |.TP x i=>match ρ x,ρ i with
  |.pv (.str s),.pv (.int _ j)=>decide (0≤j)&&decide (j<s.length)
  |_,_=>true
 |.app sz bytes x y=>LH mem sz bytes (ρ x) (ρ y)
 |.Ri x=>match ρ x with
  |.pv (.sl rows _)=>tT rows
  |.full rows=>tT rows
  |.dB id _=>jO mem id tT fun _=>true
  |_=>true
 |.TN _ bytes _ l c=>match ρ l,ρ c with
  |.pv (.int .i64 l),.pv (.int .i64 c)=>PM l c bytes
  |_,_=>true
 |.Ms sz x hi=>match ρ hi with
  |.pv (.int _ h)=>match ρ x with
   |.dB id _=>jO mem id (fun rs=>tS 0 h rs sz) fun _=>true
   |_=>true
  |_=>true
 |.TO _ i n _=>match ρ i with
  |.pv (.int _ j)=>IJ j n
  |_=>true
 |.TU _ i n=>match ρ i with
  |.pv (.int _ j)=>IJ j n
  |_=>true
 |.Mt kg sh _ _ m k=>match ρ m with
  |.pv .pn=>match keyOf kg sh.length (ρ k)with|some kc=>vS sh sh.length [] kc|none=>true
  |.pv (.mp _ _ kn rows)=>match keyOf kg kn (ρ k)with|some kc=>vS sh kn rows kc|none=>true
  |.dt id=>match aA mem id with
   |some (.map _ _ kn rows)=>match keyOf kg kn (ρ k)with|some kc=>vS sh kn rows kc|none=>true
   |_=>true
  |_=>true
 |.Rj kg sh _ m k _=>match ρ m with
  |.dt id=>match aA mem id with
   |some (.map _ _ kn rows)=>match keyOf kg kn (ρ k)with|some kc=>vS sh kn rows kc|none=>true
   |some (.iK rows)=>match pK kg sh (ρ k)with|some s=>DJ s rows|none=>true
   |_=>true
  |_=>true
 |.uC kg sh _ m k=>match ρ m with
  |.dt id=>match aA mem id with
   |some (.map _ _ kn rows)=>match keyOf kg kn (ρ k)with|some kc=>vS sh kn rows kc|none=>true
   |_=>true
  |_=>true
 |.Cc _ m s _=>match ρ m,ρ s with
  |.dt id,.eR _ i=>match aA mem id with
   |some (.map _ _ _ rows)=>decide (0≤i)&&decide (i<rows.length)
   |_=>true
  |_,_=>true
 |.D8 x=>match ρ x with
  |.pv (.sl rows _)=> !kb rows
  |_=>true
 |.TX x=>match ρ x with
  |.dB id _=>jO mem id (fun rs=>y5 0 rs 1) fun _=>true
  |_=>true
 |.TY _ x n=>match ρ n,ρ x with
  |.pv (.int _ n),.cW id _ j _=>jO mem id (fun rs=>tT rs&&(decide (n=rs.length)&&(decide (j=0)&&rU rs [] 1 1))) fun _=>true
  |_,_=>true
 |.Cd _ x y=>match gU aG (ρ y)with
  |some ys=>match ρ x with
   |.full []=>rU [] ys 1 1&& !kb ys
   |.dB id _=>jO mem id (fun rs=>rU rs ys 1 1&& !kb ys) fun _=>true
   |_=>true
  |none=>true
 |_=>true
theorem lS {α:Type} {l:List α} (h:(!kb l)=true):l≠[]:=by
 intro e;subst e;simp[kb]at h
theorem yr {cs:List AV} {off:Nat} {n:Option Nat}:iV (jP cs off n):=by
 unfold jP;split<;>split<;>trivial
theorem vI {cs:List PV} {off:Nat} {n:Option Nat}:iV (iB cs off n):=by
 unfold iB;split<;>split<;>trivial
theorem Ak {op:BinOp} {b:Bool}:iV (nJ op b):=by
 unfold nJ;split<;>trivial
theorem yt {k:List UInt8} {z:AV} {ok:Bool}:∀{l:List (List UInt8×AV)},iV (ko aG k z ok l)
 |[]=>trivial
 |(s,v)::r=>by
  unfold ko;split
  ·trivial
  ·exact yt
theorem Td {mem:List (Option Obj)} {k:Nat} {op:yB} {ρ:bN→AV} (h:ck mem op ρ=true):FE mem (b6 aG k op ρ):=by
 cases op with
 |mv|alloc|TL|call|D7|TW|Xm|TR|dB|TK=>
  simp only[b6];repeat' (first|trivial|split)
 |pick|box|mk|Xj|Xk|XW|Xl|ext|Ca|lens|TQ|Xi|pad|TS|TT|Xo|Xq|uf|Xr|Xs|pp=>
  simp only[b6];repeat' (first|trivial|exact Ak|(intro ob bH;dsimp only)|split)
 |len x=>simp only[b6,Ay];repeat' (first|trivial|(intro ob bH;dsimp only)|split)
 |Xn x=>simp only[b6,vW];repeat' (first|trivial|(intro ob bH;dsimp only)|split)
 |Xp x=>simp only[b6,AB];repeat' (first|trivial|(intro ob bH;dsimp only)|split)
 |HR x=>simp only[b6,AD];repeat' (first|trivial|(intro ob bH;dsimp only)|split)
 |HS x=>simp only[b6,vX];repeat' (first|trivial|(intro ob bH;dsimp only)|split)
 |ld x n=>simp only[b6,vT];repeat' (first|trivial|exact yr|exact vI|(intro ob bH;dsimp only)|split)
 |st x y n=>simp only[b6,sS];repeat' (first|trivial|(intro ob bH;dsimp only)|split)
 |TV x off n=>simp only[b6];repeat' (first|trivial|exact yr|exact vI|split)
 |Cb fn op x y=>simp only[b6];show iV _;unfold F2;repeat' (first|trivial|exact Ak|split)
 |D6 op x y=>simp only[b6];show iV _;unfold F1;repeat' (first|trivial|split)
 |D5 op x y=>simp only[b6];show iV _;unfold Aw vU;repeat' (first|trivial|split)
 |un op x=>simp only[b6];show iV _;unfold ME;repeat' (first|trivial|split)
 |bin op x y=>
  simp only[b6];show iV (zc aG op (ρ x) (ρ y));simp only[ck]at h;unfold zc;split
  ·rename_i k a k' b hx hy;rw[hx,hy]at h;simp only at h;split
   ·exact(of_decide_eq_true h:(0:Int)≤b)
   ·exact(of_decide_eq_true h:(0:Int)≤b)
   ·split
    ·cases op<;>simp only[wz]<;>first|trivial|(exact(by simpa using h:b≠0))
    ·trivial
  ·rename_i a b hx hy;rw[hx,hy]at h;simp only at h
   cases op<;>simp only[wA]<;>first|trivial|exact Nat.le_of_ble_eq_true h
  ·trivial
 |beq op sh x y=>
  simp only[b6];show iV (Ch aG op sh (ρ x) (ρ y));simp only[ck]at h;unfold Ch;split
  ·rename_i xs ys hx hy;rw[hx,hy]at h;simp only at h
   cases op<;>first|trivial|exact o4 h
  ·trivial
 |Mr sz x lo hi=>
  simp only[b6];simp only[ck]at h;split
  ·rename_i l hh h1 h2;rw[h1,h2]at h;exact FG h
  ·trivial
 |ud x lo hi=>
  simp only[b6];simp only[ck]at h;split
  ·rename_i l hh h1 h2;rw[h1,h2]at h;show iV (pJ aG (ρ x) l hh);unfold pJ;split
   ·rename_i s hx;rw[hx]at h;simp only[Bool.and_eq_true,decide_eq_true_eq]at h;exact h
   ·trivial
  ·trivial
 |idx x i sz=>
  simp only[b6];simp only[ck]at h;split
  ·rename_i k j hi;rw[hi]at h;simp only at h;unfold Ax;split
   ·rename_i hx;rw[hx]at h;exact tR h
   ·rename_i hx;rw[hx]at h;exact tR h
   ·rename_i hx;rw[hx]at h;intro ob bH;dsimp only;simp only[jO,bH]at h;split
    ·split
     ·exact tR h
     ·trivial
    ·split
     ·exact tR h
     ·trivial
    ·split
     ·exact PK h
     ·trivial
    ·trivial
   ·trivial
  ·trivial
 |TP x i=>
  simp only[b6];simp only[ck]at h;split
  ·rename_i s k j hx hi;rw[hx,hi]at h;simp only[Bool.and_eq_true,decide_eq_true_eq]at h;exact h
  ·trivial
 |app sz bytes x y=>
  simp only[b6];simp only[ck]at h;unfold LH at h;unfold Az;split
  ·rename_i xs hx;rw[hx]at h;simp only at h;split
   ·trivial
   ·rename_i he;rw[he]at h;simp only at h;split
    ·rename_i ys hy;rw[hy]at h;simp only[Bool.and_eq_true]at h;exact⟨qI h.1,PI h.2⟩
    ·rename_i hy;rw[hy]at h;simp only at h;split
     ·rename_i ys hya;rw[hya]at h;simp only[Bool.and_eq_true]at h;exact⟨DI h.1,lS h.2⟩
     ·trivial
  ·rename_i id ver hx;rw[hx]at h;simp only at h;intro ob bH;dsimp only;simp only[jO,bH]at h;split
   ·split
    ·split
     ·split
      ·rename_i ys hy;simp only[hy]at h;exact qI h
      ·trivial
     ·trivial
    ·trivial
   ·split
    ·split
     ·split
      ·rename_i ys hy;simp only[hy]at h;exact DI h
      ·trivial
     ·trivial
    ·trivial
   ·trivial
  ·trivial
 |Ri x=>
  simp only[b6];simp only[ck]at h;split
  ·rename_i hx;rw[hx]at h;exact qJ h
  ·rename_i hx;rw[hx]at h;exact qJ h
  ·rename_i hx;rw[hx]at h;intro ob bH;dsimp only;simp only[jO,bH]at h;split
   ·split
    ·exact qJ h
    ·trivial
   ·split
    ·exact qJ h
    ·trivial
   ·trivial
  ·trivial
 |TN sz bytes z l c=>
  simp only[b6];simp only[ck]at h;split
  ·rename_i h1 h2;rw[h1,h2]at h;exact PN h
  ·trivial
 |Ms sz x hi=>
  simp only[b6];simp only[ck]at h;split
  ·rename_i k hh h1;rw[h1]at h;simp only at h;unfold sT;split
   ·rename_i hx;rw[hx]at h;intro ob bH;dsimp only;simp only[jO,bH]at h;split
    ·split
     ·exact om h
     ·trivial
    ·trivial
   ·trivial
  ·trivial
 |TO x i n sz=>
  simp only[b6];simp only[ck]at h;split
  ·rename_i hi;rw[hi]at h;exact wo h
  ·rename_i hi;rw[hi]at h;exact wo h
  ·trivial
 |TU x i n=>
  simp only[b6];simp only[ck]at h;split
  ·rename_i hi;rw[hi]at h;split
   ·exact wo h
   ·trivial
  ·rename_i hi;rw[hi]at h;split
   ·exact wo h
   ·trivial
  ·trivial
 |Mt kg sh z ok m k=>
  simp only[b6,wC];simp only[ck]at h;split
  ·rename_i hm;rw[hm]at h;split
   ·rename_i hk;simp only[hk]at h;exact tU h
   ·trivial
  ·rename_i hm;rw[hm]at h;split
   ·split
    ·rename_i hk;simp only[hk]at h;exact tU h
    ·trivial
   ·trivial
  ·rename_i hm;rw[hm]at h;intro ob bH;dsimp only;simp only[bH]at h;split
   ·split
    ·split
     ·rename_i hk;simp only[hk]at h;exact tU h
     ·trivial
    ·trivial
   ·split
    ·exact yt
    ·trivial
   ·trivial
  ·trivial
 |Rj kg sh n m k v=>
  simp only[b6,F3];simp only[ck]at h;split
  ·rename_i hm;rw[hm]at h;intro ob bH;dsimp only;simp only[bH]at h;split
   ·split
    ·split
     ·rename_i hk;split
      ·simp only[hk]at h;exact tU h
      ·trivial
     ·trivial
    ·trivial
   ·split
    ·rename_i hk;split
     ·simp only[hk]at h;exact DK h
     ·trivial
    ·trivial
   ·trivial
  ·trivial
 |uC kg sh z m k=>
  simp only[b6,wD];simp only[ck]at h;split
  ·rename_i hm;rw[hm]at h;intro ob bH;dsimp only;simp only[bH]at h;split
   ·split
    ·split
     ·rename_i hk;simp only[hk]at h;exact tU h
     ·trivial
    ·trivial
   ·trivial
  ·trivial
 |Cc n m s v=>
  simp only[b6,AA];simp only[ck]at h;split
  ·rename_i hm hs;rw[hm,hs]at h;simp only at h;split
   ·intro ob bH;dsimp only;simp only[bH]at h;split
    ·split
     ·simp only[Bool.and_eq_true,decide_eq_true_eq]at h;exact h
     ·trivial
    ·trivial
   ·trivial
  ·trivial
 |D8 x=>
  simp only[b6];simp only[ck]at h;split
  ·rename_i hx;rw[hx]at h;exact .inr (lS h)
  ·trivial
 |TX x=>
  simp only[b6];simp only[ck]at h;split
  ·rename_i hx;rw[hx]at h;intro ob bH;dsimp only;simp only[jO,bH]at h;split
   ·split
    ·exact tR h
    ·trivial
   ·trivial
  ·trivial
 |TY t x n=>
  simp only[b6];simp only[ck]at h;split
  ·rename_i hn;split
   ·split
    ·rename_i hx;rw[hn,hx]at h;simp only at h;intro ob bH;dsimp only;simp only[jO,bH]at h;split
     ·split
      ·split
       ·simp only[Bool.and_eq_true,decide_eq_true_eq]at h;exact⟨qJ h.1,h.2.1,h.2.2.1,qI h.2.2.2⟩
       ·trivial
      ·trivial
     ·trivial
    ·trivial
   ·trivial
  ·trivial
 |Cd t x y=>
  simp only[b6];simp only[ck]at h;split
  ·rename_i ys hy;rw[hy]at h;simp only at h;split
   ·rename_i hx;rw[hx]at h;simp only[Bool.and_eq_true]at h;exact⟨qI h.1,lS h.2⟩
   ·rename_i hx;rw[hx]at h;intro ob bH;dsimp only;simp only[jO,bH]at h;split
    ·split
     ·split
      ·simp only[Bool.and_eq_true]at h;exact⟨qI h.1,lS h.2⟩
      ·trivial
     ·trivial
    ·trivial
   ·trivial
  ·trivial
end Go.Am
end
section
namespace Go.Am
mutual
def AV.mN:AV→AV→Bool
 |.pv a,.pv b=>PV.mN a b
 |.agg a,.agg b=>AV.lv a b
 |.ep a,.ep b=>AV.lv a b
 |.dB i v,.dB j u=>decide (i=j)&&decide (v=u)
 |.ptr i o,.ptr j q=>decide (i=j)&&decide (o=q)
 |.cW i v j o,.cW i' v' j' o'=>decide (i=i')&&(decide (v=v')&&(decide (j=j')&&decide (o=o')))
 |.fX r o,.fX s q=>PV.lv r s&&decide (o=q)
 |.full a,.full b=>PV.jh a b
 |.gZ f a,.gZ g b=>decide (f=g)&&AV.lv a b
 |.B0 f a,.B0 g b=>decide (f=g)&&AV.lv a b
 |.lF a,.lF b=>AV.jh a b
 |.dt i,.dt j=>decide (i=j)
 |.eR i n,.eR j m=>decide (i=j)&&decide (n=m)
 |.iJ t,.iJ u=>decide (t=u)
 |.dead,.dead=>true
 |_,_=>false
def AV.lv:List AV→List AV→Bool
 |[],[]=>true
 |a::r,b::s=>AV.mN a b&&AV.lv r s
 |_,_=>false
def AV.jh:List (List AV)→List (List AV)→Bool
 |[],[]=>true
 |a::r,b::s=>AV.lv a b&&AV.jh r s
 |_,_=>false
end
mutual
theorem AV.mJ:∀(a b:AV),AV.mN a b=true→a=b
 |.pv a,b,h=>by
  cases b<;>simp[AV.mN]at h
  rw[PV.mJ _ _ h]
 |.agg a,b,h=>by
  cases b<;>simp[AV.mN]at h
  rw[AV.fp _ _ h]
 |.ep a,b,h=>by
  cases b<;>simp[AV.mN]at h
  rw[AV.fp _ _ h]
 |.dB i v,b,h=>by cases b<;>simp_all [AV.mN]
 |.ptr i v,b,h=>by cases b<;>simp_all [AV.mN]
 |.cW i v j o,b,h=>by cases b<;>simp_all [AV.mN]
 |.fX r o,b,h=>by
  cases b<;>simp[AV.mN]at h
  rw[PV.fp _ _ h.1,h.2]
 |.full a,b,h=>by
  cases b<;>simp[AV.mN]at h
  rw[PV.gq _ _ h]
 |.gZ f a,b,h=>by
  cases b<;>simp[AV.mN]at h
  rw[h.1,AV.fp _ _ h.2]
 |.B0 f a,b,h=>by
  cases b<;>simp[AV.mN]at h
  rw[h.1,AV.fp _ _ h.2]
 |.lF a,b,h=>by
  cases b<;>simp[AV.mN]at h
  rw[AV.gq _ _ h]
 |.dt i,b,h=>by cases b<;>simp_all [AV.mN]
 |.eR i n,b,h=>by cases b<;>simp_all [AV.mN]
 |.iJ i,b,h=>by cases b<;>simp_all [AV.mN]
 |.dead,b,h=>by cases b<;>simp_all [AV.mN]
theorem AV.fp:∀(a b:List AV),AV.lv a b=true→a=b
 |[],[],_=>rfl
 |[],_::_,h=>by simp[AV.lv]at h
 |_::_,[],h=>by simp[AV.lv]at h
 |a::r,b::s,h=>by
  simp[AV.lv]at h;rw[AV.mJ _ _ h.1,AV.fp _ _ h.2]
theorem AV.gq:∀(a b:List (List AV)),AV.jh a b=true→a=b
 |[],[],_=>rfl
 |[],_::_,h=>by simp[AV.jh]at h
 |_::_,[],h=>by simp[AV.jh]at h
 |a::r,b::s,h=>by
  simp[AV.jh]at h;rw[AV.fp _ _ h.1,AV.gq _ _ h.2]
end
def Al:List (List UInt8×AV)→List (List UInt8×AV)→Bool
 |[],[]=>true
 |(a,x)::r,(b,y)::s=>decide (a=b)&&(AV.mN x y&&Al r s)
 |_,_=>false
theorem DL:∀(a b:List (List UInt8×AV)),Al a b=true→a=b
 |[],[],_=>rfl
 |[],_::_,h=>by simp[Al]at h
 |_::_,[],h=>by simp[Al]at h
 |(a,x)::r,(b,y)::s,h=>by
  simp[Al]at h;rw[h.1,AV.mJ _ _ h.2.1,DL _ _ h.2.2]
def Obj.mN:Obj→Obj→Bool
 |.cells a,.cells b=>AV.lv a b
 |.rows n a v,.rows m b u=>decide (n=m)&&(PV.jh a b&&decide (v=u))
 |.eL a v,.eL b u=>PV.jh a b&&decide (v=u)
 |.cf n a v,.cf m b u=>decide (n=m)&&(AV.jh a b&&decide (v=u))
 |.map a b c d,.map a' b' c' d'=>(a==a')&&((b==b')&&(decide (c=c')&&PV.jh d d'))
 |.iK a,.iK b=>Al a b
 |.fz s i,.fz t j=>decide (s=t)&&decide (i=j)
 |.er a l,.er b m=>PV.mN a b&&decide (l=m)
 |.cH n a v,.cH m b u=>decide (n=m)&&(PV.jh a b&&decide (v=u))
 |_,_=>false
theorem Obj.mJ (a b:Obj) (h:Obj.mN a b=true):a=b:=by
 cases a<;>cases b<;>simp[Obj.mN]at h
 ·rw[AV.fp _ _ h]
 ·rw[h.1,PV.gq _ _ h.2.1,h.2.2]
 ·rw[PV.gq _ _ h.1,h.2]
 ·rw[h.1,AV.gq _ _ h.2.1,h.2.2]
 ·rw[h.1,h.2.1,h.2.2.1,PV.gq _ _ h.2.2.2]
 ·rw[DL _ _ h]
 ·rw[h.1,h.2]
 ·rw[PV.mJ _ _ h.1,h.2]
 ·rw[h.1,PV.gq _ _ h.2.1,h.2.2]
def nE:List (Option Obj)→List (Option Obj)→Bool
 |[],[]=>true
 |none::r,none::s=>nE r s
 |some a::r,some b::s=>Obj.mN a b&&nE r s
 |_,_=>false
theorem uP:∀(a b:List (Option Obj)),nE a b=true→a=b
 |[],[],_=>rfl
 |[],_::_,h=>by simp[nE]at h
 |_::_,[],h=>by simp[nE]at h
 |none::r,none::s,h=>by
  simp only[nE]at h;rw[uP _ _ h]
 |none::r,some b::s,h=>by simp[nE]at h
 |some a::r,none::s,h=>by simp[nE]at h
 |some a::r,some b::s,h=>by
  simp[nE]at h;rw[Obj.mJ _ _ h.1,uP _ _ h.2]
def St.mN (a b:St):Bool:=AV.lv a.cY b.cY&&(AV.lv a.held b.held&&(decide (a.base=b.base)&&nE a.mem b.mem))
theorem St.mJ (a b:St) (h:St.mN a b=true):a=b:=by
 cases a;cases b
 simp[St.mN]at h;rw[AV.fp _ _ h.1,AV.fp _ _ h.2.1,h.2.2.1,uP _ _ h.2.2.2]
end Go.Am
end
section
namespace Go.Am
noncomputable def nth {α:Type} (z:α) (l:List α):Nat→α:=
 List.rec (motive:=fun _=>Nat→α) (fun _=>z) (fun x _ ih n=>Nat.rec (motive:=fun _=>α) x (fun m _=>ih m) n) l
theorem FH {α:Type} (z:α):∀(l:List α) (i:Nat),nth z l i=l.getD i z
 |[],i=>by simp[nth]
 |x::r,0=>rfl
 |x::r,m+1=>(FH z r m).trans (by simp)
noncomputable def BR (mem:List (Option Obj)) (id:Nat):Option Obj:=nth none mem id
theorem o5 (mem:List (Option Obj)) (id:Nat):BR mem id=aA mem id:=FH none mem id
noncomputable def LI (st:St) (x:bN):AV:=match st with
 |⟨s,_,_,_⟩=>match x with
  |.t i=>nth .dead s i
  |.k p=>match p with
   |.sl rows spare=>match rows with
    |[]=>match spare with
     |[]=>.full []
     |y::r=>.pv (.sl [] (y::r))
    |y::r=>.pv (.sl (y::r) spare)
   |p=>.pv p
  |.g row=>.fX row 0
theorem uQ (st:St):LI st=st.ev:=by
 funext x
 cases st with
 |mk s h b m=>
 cases x with
 |t i=>exact FH .dead s i
 |g row=>rfl
 |k p=>
  cases p with
  |sl rows spare=>cases rows<;>cases spare<;>rfl
  |_=>rfl
section
variable {R:Type}
def iW (n:Nat) (k:Nat→R):R:=match n with
 |0=>k 0
 |m+1=>k (Nat.succ m)
theorem jl (n:Nat) (k:Nat→R):iW n k=k n:=by cases n<;>rfl
def DM (n:Int) (k:Int→R):R:=match n with
 |.ofNat m=>iW m fun m=>k (.ofNat m)
 |.negSucc m=>iW m fun m=>k (.negSucc m)
theorem q9 (n:Int) (k:Int→R):DM n k=k n:=by cases n<;>simp only[DM,jl]
def Hw (b:Bool) (k:Bool→R):R:=match b with
 |true=>k true
 |false=>k false
theorem yu (b:Bool) (k:Bool→R):Hw b k=k b:=by cases b<;>rfl
noncomputable def ra {α:Type} (l:List α):(List α→R)→R:=
 List.rec (motive:=fun _=>(List α→R)→R) (fun k=>k []) (fun x _ ih k=>ih fun r'=>k (x::r')) l
theorem jA {α:Type}:∀(l:List α) (k:List α→R),ra l k=k l
 |[],_=>rfl
 |x::r,k=>jA r fun r'=>k (x::r')
noncomputable def PO {α:Type} (l:List α):Nat→α→(List α→R)→R:=
 List.rec (motive:=fun _=>Nat→α→(List α→R)→R) (fun _ _ k=>k []) (fun x r ih n v k=>Nat.rec (motive:=fun _=>R) (k (v::r)) (fun m _=>ih m v fun r'=>k (x::r')) n) l
theorem wu {α:Type}:∀(l:List α) (n:Nat) (v:α) (k:List α→R),PO l n v k=k (l.set n v)
 |[],_,_,_=>rfl
 |x::r,0,v,k=>rfl
 |x::r,m+1,v,k=>wu r m v fun r'=>k (x::r')
noncomputable def yw:List UInt8→(List UInt8→R)→R
 |[],k=>k []
 |x::r,k=>iW x.toNat fun n=>yw r fun r'=>k (UInt8.ofNat n::r')
theorem uR:∀(l:List UInt8) (k:List UInt8→R),yw l k=k l
 |[],_=>rfl
 |x::r,k=>by simp only[yw,jl,uR r,UInt8.ofNat_toNat]
noncomputable def pvF (rV:Bool) (p:PV) (k:PV→R):R:=match p with
 |.bool b=>Hw b fun b=>k (.bool b)
 |.int t n=>DM n fun n=>k (.int t n)
 |.str s=>match rV with
  |true=>yw s fun s=>k (.str s)
  |false=>k (.str s)
 |.sl rows spare=>match rV with
  |true=>ra rows fun rows=>k (.sl rows spare)
  |false=>k (.sl rows spare)
 |p=>k p
theorem WG (h:Bool) (p:PV) (k:PV→R):pvF h p k=k p:=by
 cases p<;>simp only[pvF,yu,q9]<;>cases h<;>simp only[uR,jA]
noncomputable def Ml (rV:Bool) (v:AV) (k:AV→R):R:=match v with
 |.pv p=>pvF rV p fun p=>k (.pv p)
 |.dB id ver=>iW id fun id=>iW ver fun ver=>k (.dB id ver)
 |.ptr id off=>iW id fun id=>iW off fun off=>k (.ptr id off)
 |.cW id ver j off=>iW id fun id=>iW ver fun ver=>DM j fun j=>iW off fun off=>k (.cW id ver j off)
 |.fX row off=>iW off fun off=>k (.fX row off)
 |.full rows=>ra rows fun rows=>k (.full rows)
 |.agg cs=>ra cs fun cs=>k (.agg cs)
 |.ep vs=>ra vs fun vs=>k (.ep vs)
 |v=>k v
theorem iX (h:Bool) (v:AV) (k:AV→R):Ml h v k=k v:=by
 cases v<;>simp only[Ml,WG,jl,q9,jA]
noncomputable def WH (o:Obj) (k:Obj→R):R:=match o with
 |.cells cs=>ra cs fun cs=>k (.cells cs)
 |.rows sz rs ver=>ra rs fun rs=>iW ver fun ver=>k (.rows sz rs ver)
 |.eL rs ver=>k (.eL rs ver)
 |.cf sz rs ver=>ra rs fun rs=>iW ver fun ver=>k (.cf sz rs ver)
 |.map a b c rows=>ra rows fun rows=>k (.map a b c rows)
 |.iK rows=>ra rows fun rows=>k (.iK rows)
 |.fz s pos=>DM pos fun pos=>k (.fz s pos)
 |.er src seen=>k (.er src seen)
 |.cH t rs ver=>ra rs fun rs=>iW ver fun ver=>k (.cH t rs ver)
theorem PQ (o:Obj) (k:Obj→R):WH o k=k o:=by
 cases o<;>simp only[WH,jl,q9,jA]
noncomputable def nF (st:St) (d:Option Nat) (v:AV) (k:St→R):R:=match st with
 |⟨s,h,b,m⟩=>match d with
  |none=>k ⟨s,h,b,m⟩
  |some d=>PO s d v fun s=>k ⟨s,h,b,m⟩
theorem gI (st:St) (d:Option Nat) (v:AV) (k:St→R):nF st d v k=k (st.put d v):=by
 cases st;cases d<;>simp only[nF,St.put,wu]
noncomputable def IK (st:St) (id:Nat) (o:Obj) (k:St→R):R:=match st with
 |⟨s,h,b,m⟩=>WH o fun o=>match Nat.ble (id+1) m.length with
  |true=>PO m id (some o) fun m=>k ⟨s,h,b,m⟩
  |false=>ra (m++[some o]) fun m=>k ⟨s,h,b,m⟩
theorem ni (st:St) (id:Nat) (o:Obj) (k:St→R):IK st id o k=k (st.aC id o):=by
 cases st with
 |mk s h b m=>
  simp only[IK,PQ,St.aC,rY,wu,jA];split<;>rename_i hb<;>simp only[hb]
noncomputable def Jg (st:St) (k:St→R):R:=match st with
 |⟨s,h,b,m⟩=>ra s fun s=>ra h fun h=>iW b fun b=>ra m fun m=>k ⟨s,h,b,m⟩
theorem mK (st:St) (k:St→R):Jg st k=k st:=by
 cases st;simp only[Jg,jA,jl]
end
def Hx:Nat→Nat→List (Option Nat)
 |_,0=>[]
 |i,n+1=>some i::Hx (i+1) n
def dA:Nat→List (Option Obj)→List (Option Nat)
 |_,[]=>[]
 |i,none::r=>dA (i+1) r
 |i,some _::r=>some i::dA (i+1) r
def St.closer (st:St):List (Option Nat):=Hx 0 (st.base+st.cY.length)++dA (st.base+st.cY.length) (st.mem.drop (st.base+st.cY.length))
noncomputable def uS {R:Type} (st:St) (k:St→R):R:=
 match Nat.ble st.mem.length (st.base+st.cY.length+120)with
 |true=>k st
 |false=>ra st.closer fun src=>match lx src with
  |true=>Jg (st.nq src) k
  |false=>k st
theorem IL {R:Type} (st:St) (k:St→R):∃st',Fg st st'∧uS st k=k st':=by
 unfold uS;split
 ·exact⟨st,.refl _,rfl⟩
 ·rw[jA];split
  ·rename_i h;exact⟨_,.nq st _ h,mK _ _⟩
  ·exact⟨st,.refl _,rfl⟩
inductive RC where
 |fin (e:Ex) (st:St)
 |stop (x:Option AI) (f:FuncId) (args:List AV) (st:St) (is:List Item) (why:Nat)
def RC.holds (Q:Ex→St→Prop):RC→Prop
 |.fin e st=>Q e st
 |.stop ..=>False
abbrev BI:=FuncId→List PV→Option PV
def o6:yB→Bool
 |.bin ..|.ud ..|.Ri _|.XW _|.Mr ..|.Ms ..|.TT ..=>true
 |_=>false
def uT:List AV→Option (List PV)
 |[]=>some []
 |.pv p::r=>match uT r with|some l=>some (p::l)|none=>none
 |_::_=>none
theorem An:∀{l:List AV} {ps:List PV},uT l=some ps→l=ps.map .pv
 |[],ps,h=>by simp only[uT,Option.some.injEq]at h;subst h;rfl
 |x::r,ps,h=>by
  cases x with
  |pv p=>
   simp only[uT]at h;split at h
   ·rename_i l hl;simp only[Option.some.injEq]at h;subst h;rw[An hl];rfl
   ·cases h
  |_=>simp[uT]at h
def tW:List (List AV)→Option (List (List PV))
 |[]=>some []
 |x::r=>match uT x with
  |some p=>match tW r with|some l=>some (p::l)|none=>none
  |none=>none
theorem yx:∀{l:List (List AV)} {ps:List (List PV)},tW l=some ps→l=ps.map (·.map .pv)
 |[],ps,h=>by simp only[tW,Option.some.injEq]at h;subst h;rfl
 |x::r,ps,h=>by
  simp only[tW]at h;split at h
  ·rename_i p hp;split at h
   ·rename_i l hl;simp only[Option.some.injEq]at h;subst h;rw[yx hl,An hp];rfl
   ·cases h
  ·cases h
def BS (st:St) (id:Nat):St:=match aA st.mem id with
 |some (.rows _ rs ver)=>st.Ci id (jj rs ver)
 |some (.cf sz rs ver)=>match tW rs with
  |some rs'=>match aA (st.aC id (.rows sz rs' ver)).mem id with
   |some (.rows _ rs2 ver2)=>(st.aC id (.rows sz rs' ver)).Ci id (jj rs2 ver2)
   |_=>st
  |none=>st
 |some (.map kg vg kn rows)=>st.Ci id (pN kg vg kn rows)
 |_=>st
theorem IM (st:St) (id:Nat):Fg st (BS st id):=by
 unfold BS;split
 ·rename_i h;exact .ze h
 ·rename_i h;split
  ·rename_i rs' hr;split
   ·rename_i h2;exact .trans (.plain h (yx hr)) (.ze h2)
   ·exact .refl _
  ·exact .refl _
 ·rename_i h;exact .T0 h
 ·exact .refl _
noncomputable def nG {R:Type}:List (Option Nat)→St→(St→R)→R
 |[],st,k=>k st
 |none::r,st,k=>nG r st k
 |some id::r,st,k=>Jg (BS st id) fun st=>nG r st k
theorem lT {R:Type}:∀(l:List (Option Nat)) (st:St) (k:St→R),∃st',Fg st st'∧nG l st k=k st'
 |[],st,k=>⟨st,.refl _,rfl⟩
 |none::r,st,k=>lT r st k
 |some id::r,st,k=>by
  obtain⟨st',h1,h2⟩:=lT r (BS st id) k;exact⟨st',.trans (IM st id) h1,by simp only[nG,mK];exact h2⟩
section
variable (T:yC) (B:BI)
def y6 (d:Option Nat) (k:Nat) (st:St):Out→Option Ev
 |.val v=>some ⟨d,v,none⟩
 |.dH _ v=>some ⟨d,v,none⟩
 |.dw id o v=>match Nat.ble (id+1) st.mem.length with|true=>some ⟨d,v,some (id,o)⟩|false=>none
 |.iL _ id o v=>match Nat.ble (id+1) st.mem.length with|true=>some ⟨d,v,some (id,o)⟩|false=>none
 |.new o v=>match aA st.mem k with
  |none=>match Nat.ble (k+1) st.mem.length with|true=>some ⟨d,v,some (k,o)⟩|false=>none
  |some _=>none
 |.km _ o v=>match aA st.mem k with
  |none=>match Nat.ble (k+1) st.mem.length with|true=>some ⟨d,v,some (k,o)⟩|false=>none
  |some _=>none
 |.call f args=>match et st.mem args with
  |some (ps,b)=>match B f ps with
   |some res=>match(match b with|true=>res.jB|false=>true)with|true=>some ⟨d,.pv res,none⟩|false=>none
   |none=>none
  |none=>none
 |_=>none
def ab2 (d:Option Nat) (k:Nat) (st:St):tZ→Option Ev
 |.pure o=>y6 B d k st o
 |.rd id f=>match aA st.mem id with
  |some ob=>y6 B d k st (f ob)
  |none=>none
def LJ (x:AI) (st:St):Option (Ev×eM):=
 match guardOf st x.g with
 |some true=>match ck st.mem x.op st.ev with
  |true=>match ab2 B x.d (st.base+x.d.getD 0) st (b6 aG (st.base+x.d.getD 0) x.op st.ev)with
   |some e=>some (e,eE (st.base+x.d.getD 0) st (b6 aG (st.base+x.d.getD 0) x.op st.ev))
   |none=>none
  |false=>none
 |some false=>some (⟨x.d,uZ,none⟩,ib)
 |none=>none
def yy:List AI→List (List Nat)→List eM→St→Option (List (Ev×eM))
 |[],_,_,_=>some []
 |x::xs,lt,cC,st=>match LJ B x st with
  |some (e,f)=>match iM (lt.headD []) f 0 cC with
   |true=>match yy xs lt.tail (cC++[f]) (e.app st)with
    |some r=>some ((e,f)::r)
    |none=>none
   |false=>none
  |none=>none
def BT (lt:List (List Nat)) (c:Nat):Nat→Nat→List (List Bool)
 |_,0=>[[]]
 |i,n+1=>match(i==c)||(lt.getD i []).contains c with
  |true=>(BT lt c (i+1) n).map (false::·)
  |false=>match(lt.getD c []).contains i with
   |true=>(BT lt c (i+1) n).map (true::·)
   |false=>(BT lt c (i+1) n).map (false::·)++(BT lt c (i+1) n).map (true::·)
def LK (lt:List (List Nat)) (Z:List Bool):Bool:=(List.range Z.length).all fun i=> !(Z.getD i false)||(lt.getD i []).all fun k=>Z.getD k false
noncomputable def Hy (go:List Item→St→RC) (x:AI) (l2:List AI) (lt:List (List Nat)) (st:St):Option St:=
 match b6 aG (st.fresh x) x.op st.ev with
 |.pure (.call f args)=>match T f with
  |some (ac,cN,nt)=>match Jg (enter nt args st) (go [.code ac,.frame cN st.cY.length st.base x.d,.fC l2 lt []])with
   |.fin .normal s=>some s
   |_=>none
  |none=>none
 |_=>none
def pk (hs:FuncId→Bool):Nat→List AI→Option (Nat×AI)
 |_,[]=>none
 |i,x::r=>match x.op with
  |.call f _=>match hs f with|true=>some (i,x)|false=>pk hs (i+1) r
  |.Ca _ _=>match hs 999999 with|true=>some (i,x)|false=>pk hs (i+1) r
  |_=>pk hs (i+1) r
noncomputable def LL (go:List Item→St→RC) (c:Nat) (x:AI) (ops:List AI) (lt:List (List Nat)) (es:List Ev) (st:St) (s1:St):List (List Bool)→Bool
 |[]=>true
 |Z::r=>match LK lt Z with
  |false=>LL go c x ops lt es st s1 r
  |true=>match Jg (cS (fun i=>Z.getD i false) 0 es st) fun stz=>Hy T go x (jC (fun i=>(i==c)||Z.getD i false) 0 ops) lt stz with
   |some s=>match St.mN s s1 with|true=>LL go c x ops lt es st s1 r|false=>false
   |none=>false
noncomputable def Hz (go:List Item→St→RC) (c:Nat) (x:AI) (ops:List AI) (lt:List (List Nat)) (st:St):Option St:=
 match zf ops with
 |false=>none
 |true=>match x.g with
  |some _=>none
  |none=>match yy B (jC (fun i=>(i==c)||(lt.getD i []).contains c) 0 ops) lt [] st with
   |none=>none
   |some r=>match Jg (cS (fun i=> !((i==c)||(lt.getD i []).contains c)) 0 (r.map (·.1)) st) fun stz=>Hy T go x (jC (fun i=>(i==c)|| !((i==c)||(lt.getD i []).contains c)) 0 ops) lt stz with
    |none=>none
    |some s1=>match LL T go c x ops lt (r.map (·.1)) st s1 (BT lt c 0 ops.length)with
     |true=>some s1
     |false=>none
end
section
variable (T:yC) (B:BI) (pF pf hs:FuncId→Bool)
noncomputable def pG (dr:Bool) (x:AI) (m:Nat) (st:St) (is gC:List Item) (go:List Item→St→RC):Out→RC
 |.bad=>.stop (some x) 0 [] st gC 0
 |.val v=>Ml (o6 x.op) v fun v=>nF st x.d v (go is)
 |.dH _ v=>Ml (o6 x.op) v fun v=>nF st x.d v (go is)
 |.dw id o v=>match zi dr id st.mem.length with
  |true=>IK st id o fun st'=>Ml (o6 x.op) v fun v=>nF st' x.d v (go is)
  |false=>.stop (some x) 0 [] st gC 1
 |.iL _ id o v=>match zi dr id st.mem.length with
  |true=>IK st id o fun st'=>Ml (o6 x.op) v fun v=>nF st' x.d v (go is)
  |false=>.stop (some x) 0 [] st gC 1
 |.new o v=>match BR st.mem m with
  |none=>match Nat.ble (r5 dr m) st.mem.length with
   |true=>IK st m o fun st'=>Ml (o6 x.op) v fun v=>nF st' x.d v (go is)
   |false=>.stop (some x) 0 [] st gC 2
  |some _=>.stop (some x) 0 [] st gC 3
 |.km _ o v=>match BR st.mem m with
  |none=>match Nat.ble (r5 dr m) st.mem.length with
   |true=>IK st m o fun st'=>Ml (o6 x.op) v fun v=>nF st' x.d v (go is)
   |false=>.stop (some x) 0 [] st gC 2
  |some _=>.stop (some x) 0 [] st gC 3
 |.call f args=>match(match dr with|true=>none|false=>match pf f with|true=>none|false=>T f)with
  |some (ac,cN,nt)=>Jg (enter nt args st) (go (.code ac::.frame cN st.cY.length st.base x.d::is))
  |none=>match(match dr with|true=>false|false=>pF f)with
   |true=>match args with
    |[a]=>nF st x.d a (go is)
    |_=>.stop (some x) f args st gC 4
   |false=>match et st.mem args with
    |some (ps,b)=>match B f ps with
     |some res=>match(match b with|true=>res.jB|false=>true)with
      |true=>nF st x.d (.pv res) (go is)
      |false=>.stop (some x) f args st gC 5
     |none=>.stop (some x) f args st gC 6
    |none=>.stop (some x) f args st gC 7
 |.all ..=>.stop (some x) 0 [] st gC 8
noncomputable def IP (dr:Bool) (x:AI) (m:Nat) (st:St) (is gC:List Item) (go:List Item→St→RC):RC:=
 match ck st.mem x.op (LI st)with
 |true=>match b6 aG m x.op (LI st)with
  |.pure o=>pG T B pF pf dr x m st is gC go o
  |.rd id f=>match BR st.mem id with
   |some ob=>pG T B pF pf dr x m st is gC go (f ob)
   |none=>.stop (some x) 0 [] st gC 9
 |false=>.stop (some x) 0 [] st gC 10
noncomputable def HA (x:AI) (xs:List AI) (lt:List (List Nat)) (cC:List eM) (r:List Item) (st:St) (go:List Item→St→RC):RC:=
 match iM (lt.headD []) (eE (st.base+x.d.getD 0) st (b6 aG (st.base+x.d.getD 0) x.op st.ev)) 0 cC with
 |true=>IP T B pF pf true x (st.base+x.d.getD 0) st (.fC xs lt.tail (cC++[eE (st.base+x.d.getD 0) st (b6 aG (st.base+x.d.getD 0) x.op st.ev)])::r) (.fC (x::xs) lt cC::r) go
 |false=>.stop (some x) 0 [] st (.fC (x::xs) lt cC::r) 11
noncomputable def y7 (st:St):Option (Nat×Bool)→Option Bool
 |none=>some true
 |some (j,want)=>match LI st (.t j)with
  |.pv (.bool b)=>match b with
   |true=>match want with|true=>some true|false=>some false
   |false=>match want with|true=>some false|false=>some true
  |.pv (.ep _)=>some false
  |_=>none
noncomputable def e8:Nat→List Item→St→RC
 |0,is,st=>.stop none 0 [] st is 12
 |_+1,[],st=>.fin .normal st
 |n+1,i::r,st=>match i with
  |.frame cN m base d=>match mU cN st with
   |some v=>Jg (leave m base st) fun st'=>Ml false v fun v=>nF st' d v (e8 n r)
   |none=>.stop none 0 [] st (i::r) 13
  |.ops l=>match l with
   |[]=>e8 n r st
   |x::xs=>match y7 st x.g with
    |some true=>IP T B pF pf false x (st.fresh x) st (.ops xs::r) (.ops (x::xs)::r) (e8 n)
    |some false=>nF st x.d uZ (e8 n (.ops xs::r))
    |none=>.stop (some x) 0 [] st (.ops (x::xs)::r) 14
  |.fC l lt cC=>match l with
   |[]=>e8 n r st
   |x::xs=>match y7 st x.g with
    |some true=>HA T B pF pf x xs lt cC r st (e8 n)
    |some false=>nF st x.d uZ (e8 n (.fC xs lt.tail (cC++[ib])::r))
    |none=>.stop (some x) 0 [] st (.ops (x::xs)::r) 14
  |.B2 _=>e8 n r st
  |.code c=>match c with
   |.skip=>e8 n r st
   |.vJ ops lt=>match lt with
    |none=>match hs 2000000 with
     |false=>e8 n (.ops ops::r) st
     |true=>match pk (fun f=>hs (f+3000000)) 0 ops with
      |none=>e8 n (.ops ops::r) st
      |some _=>ra (dA 0 st.mem) fun l=>nG l st fun st=>nG l st fun st=>nG l st fun st=>e8 n (.ops ops::r) st
    |some lt=>match pk hs 0 ops with
     |none=>match pk (fun f=>hs (f+1000000)) 0 ops with
      |none=>e8 n (.fC ops lt []::r) st
      |some _=>ra (dA 0 st.mem) fun l=>nG l st fun st=>e8 n (.fC ops lt []::r) st
     |some (c,x)=>match Hz T B (e8 n) c x ops lt st with
      |some s1=>Jg s1 (e8 n r)
      |none=>.stop (some x) 0 [] st (.code (.vJ ops (some lt))::r) 18
   |.seq a b=>e8 n (.code a::.code b::r) st
   |.cond c a b=>match LI st c with
    |.pv (.bool t)=>match t with|true=>e8 n (.code a::r) st|false=>e8 n (.code b::r) st
    |_=>.stop none 0 [] st r 15
   |.block id b=>e8 n (.code b::.B2 id::r) st
   |.loop b=>uS st fun st=>e8 n (.code b::.code (.loop b)::r) st
   |.exit id=>match exitTo id r with|some r'=>e8 n r' st|none=>.stop none 0 [] st r 16
   |.ret=>match kW r with
    |some ((cN,m,base,d),r')=>match mU cN st with
     |some v=>Jg (leave m base st) fun st'=>Ml false v fun v=>nF st' d v (e8 n r')
     |none=>.stop none 0 [] st r 17
    |none=>.fin .ret st
end
section
variable {C:FuncId→List PV→PV→Prop} {I:IC} {T:yC} {B:BI} {pF pf hs:FuncId→Bool}
variable (hI:HU I) (hT:pR C aG I T) (hB:∀f ps res,B f ps=some res→C f ps res) (hid:∀f,pF f=true→∀x st K,K x st→I f [x] st K)
include hI hT hB hid
theorem yz {dr:Bool} {x:AI} {m:Nat} {st:St} {is gC:List Item} {go:List Item→St→RC} {Q:Ex→St→Prop} {o:Out} (hp:iV o)
  (hk:∀is s,(go is s).holds Q→bA C aG I is Q .normal s)
  (h:(pG T B pF pf dr x m st is gC go o).holds Q):ox C (pQ dr I) m x st (fun s=>bA C aG I is Q .normal s) o:=by
 have jD:∀{n:Nat},Nat.ble (r5 dr m) n=true→AE (pQ dr I) m n:=by
  intro n hn;have:=Nat.le_of_ble_eq_true hn
  cases dr
  ·exact this
  ·exact this
 have Jp:∀{id n:Nat},zi dr id n=true→F4 (pQ dr I) id n:=by
  intro id n hn
  cases dr
  ·trivial
  ·exact Nat.le_of_ble_eq_true hn
 cases o with
 |bad=>exact h.elim
 |val v=>simp only[pG,iX,gI]at h;exact hk _ _ h
 |dH p v=>simp only[pG,iX,gI]at h;exact⟨hp,hk _ _ h⟩
 |dw id o v=>
  simp only[pG,iX,gI,ni,o5]at h;split at h
  ·rename_i hu;exact⟨Jp hu,hk _ _ h⟩
  ·exact h.elim
 |iL p id o v=>
  simp only[pG,iX,gI,ni,o5]at h;split at h
  ·rename_i hu;exact⟨Jp hu,hp,hk _ _ h⟩
  ·exact h.elim
 |new o v=>
  simp only[pG,iX,gI,ni,o5]at h;split at h
  ·rename_i hm;split at h
   ·rename_i hd;exact⟨hm,jD hd,hk _ _ h⟩
   ·exact h.elim
  ·exact h.elim
 |km p o v=>
  simp only[pG,iX,gI,ni,o5]at h;split at h
  ·rename_i hm;split at h
   ·rename_i hd;exact⟨hm,jD hd,hp,hk _ _ h⟩
   ·exact h.elim
  ·exact h.elim
 |call f args=>
  simp only[pG,mK,gI]at h;split at h
  ·rename_i ac cN nt ht
   cases dr with
   |true=>cases ht
   |false=>
    have ht':T f=some (ac,cN,nt):=by
     cases hp:pf f
     ·simpa only[hp]using ht
     ·simp only[hp]at ht;cases ht
    exact .inr (hT f ac cN nt ht' args st _ (hk _ _ h))
  ·split at h
   ·rename_i hi
    cases dr with
    |true=>cases hi
    |false=>
     split at h
     ·exact .inr (hid f hi _ _ _ (hk _ _ h))
     ·exact h.elim
   ·split at h
    ·rename_i ps b hl;split at h
     ·rename_i res hr;split at h
      ·rename_i hs;refine .inl ⟨ps,b,res,hl,hB _ _ _ hr,?_,hk _ _ h⟩;intro hb;subst hb;exact hs
      ·exact h.elim
     ·exact h.elim
    ·exact h.elim
 |all p id o v=>exact h.elim
theorem yA {dr:Bool} {x:AI} {m:Nat} {st:St} {is gC:List Item} {go:List Item→St→RC} {Q:Ex→St→Prop}
  (hk:∀is s,(go is s).holds Q→bA C aG I is Q .normal s)
  (h:(IP T B pF pf dr x m st is gC go).holds Q):ia C aG (pQ dr I) m x st (fun s=>bA C aG I is Q .normal s):=by
 unfold IP at h;simp only[uQ,o5]at h;unfold ia;split at h
 ·rename_i hc;have hp:=Td (k:=m) hc
  revert h hp
  cases b6 aG m x.op st.ev with
  |pure o=>intro h hp;exact yz hI hT hB hid hp hk h
  |rd id f=>
   intro h hp;simp only at h;simp only[pP];split at h
   ·rename_i ob bH;rw[bH];exact yz hI hT hB hid (hp ob bH) hk h
   ·exact h.elim
 ·exact h.elim
omit hI hT hB hid in
theorem LM {x:AI} {xs:List AI} {st:St} {K:St→Prop} (h:y7 st x.g=some true) (hw:ia C aG (some I) (st.fresh x) x st fun st'=>bC C aG I xs st' K):bC C aG I (x::xs) st K:=by
 simp only[bC];refine⟨st,.refl _,?_⟩
 cases hg:x.g with
 |none=>exact hw
 |some jw=>
  obtain⟨j,want⟩:=jw;rw[hg]at h;simp only[y7,uQ,St.ev]at h;simp only;split
  ·rename_i b hs;rw[hs]at h;simp only at h
   cases b<;>cases want<;>first|exact hw|cases h
  ·rename_i l hs;rw[hs]at h
   cases h
  ·rename_i h1 h2;split at h
   ·rename_i b hs;exact h1 b hs
   ·rename_i l hs;exact h2 l hs
   ·cases h
omit hI hT hB hid in
theorem IQ {x:AI} {xs:List AI} {st:St} {K:St→Prop} (h:y7 st x.g=some false) (hw:bC C aG I xs (st.put x.d uZ) K):bC C aG I (x::xs) st K:=by
 simp only[bC];refine⟨st,.refl _,?_⟩
 cases hg:x.g with
 |none=>rw[hg]at h;cases h
 |some jw=>
  obtain⟨j,want⟩:=jw;rw[hg]at h;simp only[y7,uQ,St.ev]at h;simp only;split
  ·rename_i b hs;rw[hs]at h;simp only at h
   cases b<;>cases want<;>first|exact hw|cases h
  ·exact hw
  ·rename_i h1 h2;split at h
   ·rename_i b hs;exact h1 b hs
   ·rename_i l hs;exact h2 l hs
   ·cases h
omit hI hT hB hid in
theorem ab3 {x:AI} {xs:List AI} {lt:List (List Nat)} {cC:List eM} {st:St} {K:St→Prop} {b:Bool} (h:y7 st x.g=some b)
  (hw:match b with
   |true=>iM (lt.headD []) (eE (st.base+x.d.getD 0) st (b6 aG (st.base+x.d.getD 0) x.op st.ev)) 0 cC=true∧
    ia C aG none (st.base+x.d.getD 0) x st fun st'=>dv C aG xs lt.tail (cC++[eE (st.base+x.d.getD 0) st (b6 aG (st.base+x.d.getD 0) x.op st.ev)]) st' K
   |false=>dv C aG xs lt.tail (cC++[ib]) (st.put x.d uZ) K):dv C aG (x::xs) lt cC st K:=by
 simp only[dv]
 cases hg:x.g with
 |none=>rw[hg]at h;cases h;exact hw
 |some jw=>
  obtain⟨j,want⟩:=jw;rw[hg]at h;simp only[y7,uQ,St.ev]at h;simp only
  cases hs:st.slot j with
  |pv p=>
   rw[hs]at h
   cases p with
   |bool c=>cases c<;>cases want<;>simp only[Option.some.injEq]at h<;>subst h<;>exact hw
   |ep l=>simp only[Option.some.injEq]at h;subst h;exact hw
   |_=>cases h
  |_=>rw[hs]at h;cases h
theorem HB {d:Option Nat} {k:Nat} {st:St} {o:Out} {e:Ev} (hp:iV o) (h:y6 B d k st o=some e):de C d k st o e:=by
 cases o with
 |val v=>simp only[y6,Option.some.injEq]at h;exact h.symm
 |dH p v=>simp only[y6,Option.some.injEq]at h;exact⟨hp,h.symm⟩
 |dw id o v=>
  simp only[y6]at h;split at h
  ·rename_i hb;simp only[Option.some.injEq]at h;exact⟨Nat.le_of_ble_eq_true hb,h.symm⟩
  ·cases h
 |iL p id o v=>
  simp only[y6]at h;split at h
  ·rename_i hb;simp only[Option.some.injEq]at h;exact⟨Nat.le_of_ble_eq_true hb,hp,h.symm⟩
  ·cases h
 |new o v=>
  simp only[y6]at h;split at h
  ·rename_i hm;split at h
   ·rename_i hb;simp only[Option.some.injEq]at h;exact⟨hm,Nat.le_of_ble_eq_true hb,h.symm⟩
   ·cases h
  ·cases h
 |km p o v=>
  simp only[y6]at h;split at h
  ·rename_i hm;split at h
   ·rename_i hb;simp only[Option.some.injEq]at h;exact⟨hm,Nat.le_of_ble_eq_true hb,hp,h.symm⟩
   ·cases h
  ·cases h
 |call f args=>
  simp only[y6]at h;split at h
  ·rename_i ps b hl;split at h
   ·rename_i res hr;split at h
    ·rename_i hs;simp only[Option.some.injEq]at h;exact⟨ps,b,res,hl,hB _ _ _ hr,fun hb=>by subst hb;exact hs,h.symm⟩
    ·cases h
   ·cases h
  ·cases h
 |bad=>cases h
 |all p id o v=>cases h
theorem LN {x:AI} {st:St} {e:Ev} {f:eM} (h:LJ B x st=some (e,f)):I6 C aG x st e f:=by
 unfold LJ at h;split at h
 ·rename_i hg;split at h
  ·rename_i hc;have hp:=Td (k:=st.base+x.d.getD 0) hc;split at h
   ·rename_i e' he;simp only[Option.some.injEq,Prod.mk.injEq]at h;obtain⟨rfl,rfl⟩:=h;refine .inl ⟨hg,?_,rfl⟩
    revert he hp
    cases b6 aG (st.base+x.d.getD 0) x.op st.ev with
    |pure o=>intro hp he;exact HB hI hT hB hid hp he
    |rd id f=>
     intro hp he;simp only[ab2]at he;split at he
     ·rename_i ob bH;exact⟨ob,bH,HB hI hT hB hid (hp ob bH) he⟩
     ·cases he
   ·cases h
  ·cases h
 ·rename_i hg;simp only[Option.some.injEq,Prod.mk.injEq]at h;exact .inr ⟨hg,h.1.symm,h.2.symm⟩
 ·cases h
theorem Ao:∀{l:List AI} {lt:List (List Nat)} {cC:List eM} {st:St} {r:List (Ev×eM)},yy B l lt cC st=some r→Trace C aG l lt cC st r
 |[],_,_,_,r,h=>by simp only[yy,Option.some.injEq]at h;exact h.symm
 |x::xs,lt,cC,st,r,h=>by
  simp only[yy]at h;split at h
  ·rename_i e f he;split at h
   ·rename_i ha;split at h
    ·rename_i r' hr;simp only[Option.some.injEq]at h;exact⟨e,f,r',h.symm,LN hI hT hB hid he,ha,Ao hr⟩
    ·cases h
   ·cases h
  ·cases h
omit hI hT hB hid in
theorem DN (lt:List (List Nat)) (c:Nat):∀(n i:Nat) (Z:List Bool),Z.length=n→(∀j,j<n→(i+j=c∨c∈lt.getD (i+j) [])→Z.getD j false=false)→(∀j,j<n→i+j∈lt.getD c []→¬(i+j=c∨c∈lt.getD (i+j) [])→Z.getD j false=true)→Z∈BT lt c i n
 |0,i,Z,hl,_,_=>by
  rw[List.length_eq_zero_iff]at hl;subst hl;simp[BT]
 |n+1,i,[],hl,_,_=>by simp at hl
 |n+1,i,b::Z,hl,h1,h2=>by
  have hr:Z∈BT lt c (i+1) n:=DN lt c n (i+1) Z (by simpa using hl)
   (fun j hj h=>by have:=h1 (j+1) (by omega) (by rwa [show i+(j+1)=i+1+j by omega]);simpa using this)
   (fun j hj h h'=>by have:=h2 (j+1) (by omega) (by rwa [show i+(j+1)=i+1+j by omega]) (by rwa [show i+(j+1)=i+1+j by omega]);simpa using this)
  unfold BT;split
  ·rename_i hc;simp only[Bool.or_eq_true,beq_iff_eq,List.contains_iff_mem]at hc;have hb:=h1 0 (by omega) (by simpa using hc);simp at hb;subst hb;exact List.mem_map.2 ⟨Z,hr,rfl⟩
  ·rename_i hc;simp only[Bool.or_eq_false_iff,beq_eq_false_iff_ne,ne_eq]at hc
   have Me:¬(i=c∨c∈lt.getD i []):=by
    rintro(h|h)
    ·exact hc.1 h
    ·have:=List.contains_iff_mem.2 h;rw[hc.2]at this;cases this
   split
   ·rename_i hm;have hb:=h2 0 (by omega) (by simpa using List.contains_iff_mem.1 hm) (by simpa using Me);simp at hb;subst hb;exact List.mem_map.2 ⟨Z,hr,rfl⟩
   ·cases b
    ·exact List.mem_append_left _ (List.mem_map.2 ⟨Z,hr,rfl⟩)
    ·exact List.mem_append_right _ (List.mem_map.2 ⟨Z,hr,rfl⟩)
theorem LO {go:List Item→St→RC} (Eu:∀Q is s,(go is s).holds Q→bA C aG I is Q .normal s) {x:AI} {l2:List AI} {lt:List (List Nat)} {st s:St} (h:Hy T go x l2 lt st=some s):
  ia C aG (some I) (st.fresh x) x st fun st'=>dv C aG l2 lt [] st' fun s'=>s'=s:=by
 unfold Hy at h;unfold ia;split at h
 ·rename_i f args he;rw[he];split at h
  ·rename_i ac cN nt ht;rw[mK]at h;split at h
   ·rename_i s' hr;simp only[Option.some.injEq]at h;subst h;refine .inr (hT f ac cN nt ht args st _ ?_);have:=Eu (fun e s2=>match e with|.normal=>s2=s'|_=>False) [.code ac,.frame cN st.cY.length st.base x.d,.fC l2 lt []] (enter nt args st) (by rw[hr];rfl);exact this
   ·cases h
  ·cases h
 ·cases h
theorem BU {go:List Item→St→RC} (Eu:∀Q is s,(go is s).holds Q→bA C aG I is Q .normal s) {c:Nat} {x:AI} {ops:List AI} {lt:List (List Nat)} {es:List Ev} {st s1:St}:∀{l:List (List Bool)},LL T go c x ops lt es st s1 l=true→∀Z∈l,LK lt Z=true→
  ia C aG (some I) ((cS (fun i=>Z.getD i false) 0 es st).fresh x) x (cS (fun i=>Z.getD i false) 0 es st) fun st'=>dv C aG (jC (fun i=>(i==c)||Z.getD i false) 0 ops) lt [] st' fun s'=>s'=s1
 |[],_,Z,hZ,_=>by cases hZ
 |Y::r,h,Z,hZ,hd=>by
  unfold LL at h;split at h
  ·rename_i hy
   rcases List.mem_cons.1 hZ with rfl|hZ
   ·rw[hy]at hd;cases hd
   ·exact BU Eu h Z hZ hd
  ·rw[mK]at h;split at h
   ·rename_i s hs;split at h
    ·rename_i he;have:=St.mJ _ _ he;subst this
     rcases List.mem_cons.1 hZ with rfl|hZ
     ·exact LO hI hT hB hid Eu hs
     ·exact BU Eu h Z hZ hd
    ·cases h
   ·cases h
theorem LP {go:List Item→St→RC} (Eu:∀Q is s,(go is s).holds Q→bA C aG I is Q .normal s) {c:Nat} {x:AI} {ops:List AI} {lt:List (List Nat)} {st s1:St} (hx:ops[c]? =some x) (h:Hz T B go c x ops lt st=some s1):
  Jn C aG I ops lt st fun s=>s=s1:=by
 unfold Hz at h;split at h
 ·cases h
 ·rename_i h0;split at h
  ·cases h
  ·rename_i hg;split at h
   ·cases h
   ·rename_i r hr;split at h
    ·cases h
    ·rename_i s2 B1;split at h
     ·rename_i ha;simp only[Option.some.injEq]at h;subst h;refine⟨h0,c,x,hx,hg,r,Ao hI hT hB hid hr,fun Z hZ=>?_⟩;obtain⟨z1,z2,z3,z4,z5⟩:=hZ;refine BU hI hT hB hid Eu ha Z (DN lt c _ 0 Z z1 ?_ ?_) ?_
      ·intro j hj RB;rw[Nat.zero_add]at RB
       rcases RB with rfl|RB
       ·exact z2
       ·exact z5 j hj RB
      ·intro j hj hm _;rw[Nat.zero_add]at hm;exact z3 j hm
      ·unfold LK;rw[List.all_eq_true];intro i hi;rw[List.mem_range,z1]at hi;rw[Bool.or_eq_true]
       cases hv:Z.getD i false with
       |false=>left;rfl
       |true=>
        right
        rw[List.all_eq_true]
        exact fun k hk=>z4 i hi hv k hk
     ·cases h
omit hI hT hB hid in
theorem tM {hs:FuncId→Bool}:∀{l:List AI} {i c:Nat} {x:AI},pk hs i l=some (c,x)→i≤c∧l[c-i]? =some x
 |[],_,_,_,h=>by cases h
 |y::r,i,c,x,h=>by
  have step:pk hs (i+1) r=some (c,x)→i≤c∧(y::r)[c-i]? =some x:=fun h=>by
   obtain⟨h1,h2⟩:=tM h;refine⟨by omega,?_⟩;rw[show c-i=(c-(i+1))+1 by omega];simpa using h2
  unfold pk at h;split at h
  ·split at h
   ·simp only[Option.some.injEq,Prod.mk.injEq]at h;obtain⟨rfl,rfl⟩:=h;simp
   ·exact step h
  ·split at h
   ·simp only[Option.some.injEq,Prod.mk.injEq]at h;obtain⟨rfl,rfl⟩:=h;simp
   ·exact step h
  ·exact step h
theorem FI:∀(n:Nat) (Q:Ex→St→Prop) (is:List Item) (st:St),(e8 T B pF pf hs n is st).holds Q→bA C aG I is Q .normal st:=by
 intro n
 induction n with
 |zero=>intro Q is st h;exact h.elim
 |succ n ih=>
  intro Q is st h
  match is with
  |[]=>exact h
  |.frame cN m base d::r=>
   simp only[e8]at h;simp only[bA,wG];split at h
   ·rename_i v hv;simp only[mK,iX,gI]at h;rw[hv];exact ih _ _ _ h
   ·exact h.elim
  |.ops []::r=>exact ih _ r st h
  |.ops (x::xs)::r=>
   simp only[e8]at h;split at h
   ·rename_i hg;exact LM hg (yA hI hT hB hid (dr:=false) (fun is s hs=>ih _ is s hs) h)
   ·rename_i hg;rw[gI]at h;exact IQ hg (ih _ (.ops xs::r) _ h)
   ·exact h.elim
  |.fC [] _ _::r=>exact ih _ r st h
  |.fC (x::xs) lt cC::r=>
   simp only[e8]at h;split at h
   ·rename_i hg;unfold HA at h;split at h
    ·rename_i hf;exact ab3 hg ⟨hf,yA hI hT hB hid (dr:=true) (fun is s hs=>ih _ is s hs) h⟩
    ·exact h.elim
   ·rename_i hg;rw[gI]at h;exact ab3 hg (ih _ (.fC xs lt.tail (cC++[ib])::r) _ h)
   ·exact h.elim
  |.B2 _::r=>exact ih _ r st h
  |.code c::r=>
   cases c with
   |skip=>exact ih _ r st h
   |vJ ops lt=>
    cases lt with
    |none=>
     simp only[e8]at h;split at h
     ·exact ih _ (.ops ops::r) st h
     ·split at h
      ·exact ih _ (.ops ops::r) st h
      ·rename_i _ cx hf;rw[jA]at h;obtain⟨s1,f1,e1⟩:=lT (dA 0 st.mem) st (fun st1=>nG (dA 0 st.mem) st1 fun Md=>nG (dA 0 st.mem) Md fun LQ=>e8 T B pF pf hs n (.ops ops::r) LQ);rw[e1]at h;obtain⟨s2,f2,e2⟩:=lT (dA 0 st.mem) s1 (fun Md=>nG (dA 0 st.mem) Md fun LQ=>e8 T B pF pf hs n (.ops ops::r) LQ);rw[e2]at h;obtain⟨s3,f3,e3⟩:=lT (dA 0 st.mem) s2 (fun LQ=>e8 T B pF pf hs n (.ops ops::r) LQ);rw[e3]at h
       have hh:=ih _ (.ops ops::r) s3 h
       cases ops with
       |nil=>cases hf
       |cons y ys=>exact yd (.trans f1 (.trans f2 f3)) hh
    |some lt=>
     simp only[e8]at h;split at h
     ·split at h
      ·exact⟨st,.refl _,.inl (ih _ (.fC ops lt []::r) st h)⟩
      ·rw[jA]at h;obtain⟨s1,hf,e1⟩:=lT (dA 0 st.mem) st (fun st=>e8 T B pF pf hs n (.fC ops lt []::r) st);rw[e1]at h;exact⟨s1,hf,.inl (ih _ (.fC ops lt []::r) s1 h)⟩
     ·rename_i c x hf;split at h
      ·rename_i s1 bd;rw[mK]at h;have hx:=(tM hf).2;rw[Nat.sub_zero]at hx;exact⟨st,.refl _,.inr (zh hI (K:=fun s=>s=s1) (fun s hs=>by rw[hs];exact ih _ r s1 h) (LP hI hT hB hid ih hx bd))⟩
      ·exact h.elim
   |seq a b=>
    have:=ih _ (.code a::.code b::r) st h;refine e9 hI a ?_ this;intro e s hs
    cases e with
    |normal=>exact hs
    |ret=>exact hs
    |exit id=>exact hs
   |cond c a b=>
    simp only[e8,uQ]at h;split at h
    ·rename_i t hc;simp only[bA,fw,hc];split at h
     ·exact ih _ (.code a::r) st h
     ·exact ih _ (.code b::r) st h
    ·exact h.elim
   |block id b=>
    have:=ih _ (.code b::.B2 id::r) st h;refine e9 hI b ?_ this;intro e s hs
    cases e with
    |normal=>exact hs
    |ret=>exact hs
    |exit j=>
     simp only[bA]at hs
     have hc:(id==j)=(j==id):=by rw[Bool.eq_iff_iff];constructor<;>intro h<;>exact beq_iff_eq.2 (beq_iff_eq.1 h).symm
     rw[hc]at hs;exact hs
   |loop b=>
    simp only[e8]at h;obtain⟨st',hf,he⟩:=IL st (fun st=>e8 T B pF pf hs n (.code b::.code (.loop b)::r) st);rw[he]at h;have:=ih _ (.code b::.code (.loop b)::r) st' h;refine lZ hI hf (e9 hI b ?_ this);intro e s hs
    cases e with
    |normal=>exact hs
    |ret=>exact hs
    |exit j=>exact hs
   |exit id=>
    simp only[e8]at h;split at h
    ·rename_i r' ri;exact iD id r Q st r' ri (ih _ _ st h)
    ·exact h.elim
   |ret=>
    simp only[e8]at h;show bA C aG I r Q .ret st;rw[jS];split at h
    ·rename_i cN m base d r' hr;rw[hr];simp only[wG];split at h
     ·rename_i v hv;simp only[mK,iX,gI]at h;rw[hv];exact ih _ _ _ h
     ·exact h.elim
    ·rename_i hr;rw[hr];exact h
end
noncomputable def BV (cN:List RD) (st:St):Option PV:=match eV cN st with
 |some p=>some p
 |none=>ra (dA 0 st.mem) fun l=>nG l st fun st=>nG l st fun st=>nG l st fun st=>eV cN st
theorem IU {cN:List RD} {st:St} {res:PV} (h:BV cN st=some res):∃s',Fg st s'∧eV cN s'=some res:=by
 unfold BV at h;split at h
 ·rename_i p hp;cases h;exact⟨st,.refl _,hp⟩
 ·rw[jA]at h;obtain⟨s1,h1,e1⟩:=lT (dA 0 st.mem) st (fun st1=>nG (dA 0 st.mem) st1 fun Md=>nG (dA 0 st.mem) Md fun LQ=>eV cN LQ);rw[e1]at h;obtain⟨s2,h2,e2⟩:=lT (dA 0 st.mem) s1 (fun Md=>nG (dA 0 st.mem) Md fun LQ=>eV cN LQ);rw[e2]at h;obtain⟨s3,h3,e3⟩:=lT (dA 0 st.mem) s2 (fun LQ=>eV cN LQ);rw[e3]at h;exact⟨s3,.trans h1 (.trans h2 h3),h⟩
noncomputable def RC.data (cN:List RD):RC→Option PV
 |.fin .normal st=>BV cN st
 |.fin .ret st=>BV cN st
 |_=>none
theorem RC.FJ {cN:List RD} {res:PV} {r:RC} (h:r.data cN=some res):r.holds (Gj cN res):=by
 cases r with
 |fin e st=>cases e<;>simp only[RC.data]at h<;>first|exact IU h|cases h
 |stop=>cases h
theorem pure_run {P:Program} {G:Nat→Option (List PV)} {T:yC} {B:BI} {pF pf hs:FuncId→Bool} (hm:P.follows .mixedOrders=true) (hT:pR (ar P G) aG (bB P G) T) (hB:∀f ps res,B f ps=some res→ar P G f ps res)
  (hid:∀f,pF f=true→∀v w,(callFunc f #[v]).run P w=.ok (.value v) w) {accs:List Nat} {f:FuncId} {ac:cT} {cN:List RD} {nt:Nat} (hc:gW P G accs f=some (ac,cN,nt)) {ps:List PV} {res:PV} (hle:ps.length≤nt) (n:Nat)
  (h:(e8 T B pF pf hs n [.code ac] (start nt ps)).data cN=some res):ar P G f ps res:=
 J7 hm hc hle (FI (bB.mono P G) hT hB (fun f hf x st K hK=>yo (hid f hf) hK) n _ _ _ (RC.FJ h))
end Go.Am
namespace Go.Am
noncomputable def upB (T:yC) (B:BI) (pF pf hs:FuncId→Bool) (n:Nat):BI:=fun f ps=>match B f ps with
 |some r=>some r
 |none=>match T f with
  |some (ac,cN,nt)=>match Nat.ble ps.length nt with
   |true=>(e8 T B pF pf hs n [.code ac] (start nt ps)).data cN
   |false=>none
  |none=>none
theorem upB_ok {P:Program} {G:Nat→Option (List PV)} {T:yC} {B:BI} {pF pf hs:FuncId→Bool} (hm:P.follows .mixedOrders=true) (hT:∀f ac cN nt,T f=some (ac,cN,nt)→∃accs,gW P G accs f=some (ac,cN,nt)) (hB:∀f ps res,B f ps=some res→ar P G f ps res)
  (hid:∀f,pF f=true→∀v w,(callFunc f #[v]).run P w=.ok (.value v) w) (n:Nat):∀f ps res,upB T B pF pf hs n f ps=some res→ar P G f ps res:=by
 intro f ps res h;unfold upB at h;split at h
 ·rename_i r hr;cases h;exact hB _ _ _ hr
 ·split at h
  ·rename_i ac cN nt ht;split at h
   ·rename_i hl;obtain⟨accs,hc⟩:=hT _ _ _ _ ht;exact pure_run hm (eJ hm hT) hB hid hc (Nat.le_of_ble_eq_true hl) n h
   ·cases h
  ·cases h
end Go.Am
end
