import Derived.Test.YtfaccbkibjkfjaaGreatDoorT07
set_option linter.all false
set_option maxRecDepth 100000
set_option maxHeartbeats 1000000
section
namespace Go.Am
theorem gK {P:Program} {G:Nat→Option (List PV)} {A:Ar} {Q:Ex→St→Prop} {is:List Item} {st:St} {r:bl} (hr:r.holds (ar P G) A (bB P G) Q) (h:run A xu false 10000 is st=r:=by cbv):
  bA (ar P G) A (bB P G) is Q .normal st:=go 10000 h hr
theorem dC {P:Program} {G:Nat→Option (List PV)} {A:Ar} {Q:Ex→St→Prop} {b:cT} {st:St} {r:bl} (hr:r.holds (ar P G) A (bB P G) Q) (h:run A xu false 10000 [.code b] st=r:=by cbv):
  fw (ar P G) A (bB P G) b st Q:=go1 10000 h hr
theorem gT {P:Program} {G:Nat→Option (List PV)} {A:Ar} {T:yC} {Q:Ex→St→Prop} {is:List Item} {st:St} {r:bl} (hT:pR (ar P G) A (bB P G) T) (hr:r.holds (ar P G) A (bB P G) Q) (h:run A T false 10000 is st=r:=by cbv):
  bA (ar P G) A (bB P G) is Q .normal st:=goT hT 10000 h hr
theorem leT {m n:Nat} (h:Nat.ble m n=true):m≤n:=Nat.le_of_ble_eq_true h
theorem wS {w:IntKind→Int→Int} {a:Int→Int→Int} {v:Nat} (ew:aG.wrap=w) (ea:aG.add=a) (h:v<2^62):w .i64 (a (Int.ofNat v) 1)=Int.ofNat (v+1):=by
 subst ew ea;exact fZ h
section
variable {C:FuncId→List PV→PV→Prop} {A:Ar} {I:IC} {Q:Ex→St→Prop}
theorem dp {x r:bl} (hr:r.holds C A I Q) (h:x=r:=by cbv):x.holds C A I Q:=h▸hr
theorem rQ {B:Ar} {T:yC} {U:Bool} {n:Nat} {is:List Item} {st:St} {r:bl} (hr:r.holds C A I Q) (h:run B T U n is st=r:=by cbv):(run B T U n is st).holds C A I Q:=h▸hr
theorem zeT {α:Type} {a b c:α} (k:b=c) (h:a=b:=by cbv):a=c:=h.trans k
theorem aN {cN:List RD} {res:PV} {s:St} {x:Option PV} (hx:x=some res) (h:eV cN s=x:=by cbv):(bl.fin .ret s).holds C A I (tj cN res):=U1 (h.trans hx)
theorem dm {cN:List RD} {res:PV} {s:St} {x:Option PV} {is:List Item} {N:St→Prop} (hx:x=some res) (hr:kW is=none:=by exact rfl) (h:eV cN s=x:=by cbv):(bl.fin .ret s).holds C A I (cO C A I is (tj cN res) N):=dS hr (h.trans hx)
theorem eT {c p:Prop} (h:c) (k:c→p:=by intro h;(try simp only[←aD,←bp,←aW,←bu,←aV]at h);(try rw[←aB]at h);(try rw[←ah]at h);first|(simp at h;exact h)|exact h):p:=k h
theorem vy {c:Bool} {a b:bl} {p q:Prop} (ht:p→a.holds C A I Q) (hf:q→b.holds C A I Q) (k1:c=true→p:=by intro h;exact eT h) (k2:c=false→q:=by intro h;exact eT h):(match c with|true=>a|false=>b).holds C A I Q:=
 bl.af (fun h=>ht (k1 h)) (fun h=>hf (k2 h))
theorem zhT {c:Bool} {a b:bl} (ht:a.holds C A I Q) (k:c=false→False:=by intro h;(try simp only[←aD,←bp,←aW,←bu,←aV]at h);simp at h<;>omega):(match c with|true=>a|false=>b).holds C A I Q:=
 bl.af (fun _=>ht) (fun h=>(k h).elim)
theorem zhF {c:Bool} {a b:bl} (ht:b.holds C A I Q) (k:c=true→False:=by intro h;(try simp only[←aD,←bp,←aW,←bu,←aV]at h);simp at h<;>omega):(match c with|true=>a|false=>b).holds C A I Q:=
 bl.af (fun h=>(k h).elim) (fun _=>ht)
end
theorem zT {P:Program} {G:Nat→Option (List PV)} {A:Ar} {Q:Ex→St→Prop} {b:cT} {st0:St} {is:List Item} (ks:List Nat) (src:List (Option Nat)) (u:Nat→St→St) (n:Nat) (ok:Nat→Prop) (hf:Fg st0 (u 0 (st0.tidy ks src)))
  (h:∀v:Nat,v≤n→(∀k,k<v→ok k)→fw (ar P G) A (bB P G) b (u v (st0.tidy ks src)) (cO (ar P G) A (bB P G) is Q (fun s'=>v<n∧ok v∧s'.tidy ks src=u (v+1) (st0.tidy ks src)))) (hn:lx src=true:=by exact rfl):
  (bl.loop b st0 is).holds (ar P G) A (bB P G) Q:=
 qf (fun v s=>u v (s.tidy ks src)) n ok hf fun v hv hk=>e9 (rH P G) b (fun e s' gX=>by
  cases e with
  |normal=>exact⟨gX.1,gX.2.1,Fg.b8 ks src hn gX.2.2⟩
  |ret=>exact gX
  |exit id=>exact gX) (h v hv hk)
theorem bG {P:Program} {G:Nat→Option (List PV)} {A:Ar} {Q:Ex→St→Prop} {b:cT} {st0:St} {is:List Item} (ks:List Nat) (src:List (Option Nat)) (u:Nat→St→St) (n:Nat) (ok:Nat→Prop)
  (h:∀v:Nat,v≤n→(∀k,k<v→ok k)→fw (ar P G) A (bB P G) b (u v (st0.tidy ks src)) (cO (ar P G) A (bB P G) is Q (fun s'=>v<n∧ok v∧s'.tidy ks src=u (v+1) (st0.tidy ks src)))) (hn:lx src=true:=by exact rfl) (hf:st0.tidy ks src=u 0 (st0.tidy ks src):=by first|(cbv;done)|rfl|(simp;cbv;done)|(simp;rfl)):
  (bl.loop b st0 is).holds (ar P G) A (bB P G) Q:=zT ks src u n ok (Fg.b8 ks src hn hf) h hn
def nn:List Nat→List (Option Nat)
 |[]=>[]
 |[g]=>List.replicate g none
 |g::v::r=>List.replicate g none++some v::nn r
end Go.Am
end
