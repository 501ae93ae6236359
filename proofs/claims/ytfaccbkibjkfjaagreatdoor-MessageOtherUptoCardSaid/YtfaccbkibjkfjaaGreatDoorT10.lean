import Derived.Test.YtfaccbkibjkfjaaGreatDoorT07
set_option linter.all false
set_option maxRecDepth 100000
set_option maxHeartbeats 1000000
section
namespace Go.Am
theorem gK {P:Program} {G:Nat→Option (List PV)} {A:Ar} {Q:Ex→St→Prop} {is:List Item} {st:St} {r:bp} (hr:r.holds (CC P G) A (Hf P G) Q) (h:run A vQ false 10000 is st=r:=by cbv):
  bH (CC P G) A (Hf P G) is Q .normal st:=go 10000 h hr
theorem ej {P:Program} {G:Nat→Option (List PV)} {A:Ar} {Q:Ex→St→Prop} {b:cf} {st:St} {r:bp} (hr:r.holds (CC P G) A (Hf P G) Q) (h:run A vQ false 10000 [.code b] st=r:=by cbv):
  fw (CC P G) A (Hf P G) b st Q:=go1 10000 h hr
theorem zgT {P:Program} {G:Nat→Option (List PV)} {A:Ar} {T:Mj} {Q:Ex→St→Prop} {is:List Item} {st:St} {r:bp} (hT:oI (CC P G) A (Hf P G) T) (hr:r.holds (CC P G) A (Hf P G) Q) (h:run A T false 10000 is st=r:=by cbv):
  bH (CC P G) A (Hf P G) is Q .normal st:=goT hT 10000 h hr
theorem leT {m n:Nat} (h:Nat.ble m n=true):m≤n:=qaH h
theorem wS {w:IntKind→Int→Int} {a:Int→Int→Int} {v:Nat} (ew:aF.wrap=w) (ea:aF.add=a) (h:v<2^62):w .i64 (a (Int.ofNat v) 1)=Int.ofNat (v+1):=by
 subst ew ea;exact kY h
section
variable {C:CT} {A:Ar} {I:IC} {Q:Ex→St→Prop}
theorem aY {x r:bp} (hr:r.holds C A I Q) (h:x=r:=by cbv):x.holds C A I Q:=h▸hr
theorem gH {B:Ar} {T:Mj} {U:Bool} {n:Nat} {is:List Item} {st:St} {r:bp} (hr:r.holds C A I Q) (h:run B T U n is st=r:=by cbv):(run B T U n is st).holds C A I Q:=h▸hr
theorem F3 {α:Type} {a b c:α} (k:b=c) (h:a=b:=by cbv):a=c:=h.trans k
theorem aX {eF:List RD} {res:PV} {s:St} {x:Option PV} (hx:x=some res) (h:fN eF s=x:=by cbv):(bp.fin .ret s).holds C A I (rQ eF res):=oW (h.trans hx)
theorem dS {eF:List RD} {res:PV} {s:St} {x:Option PV} {is:List Item} {N:St→Prop} (hx:x=some res) (hr:kb is=none:=by exact rfl) (h:fN eF s=x:=by cbv):(bp.fin .ret s).holds C A I (de C A I is (rQ eF res) N):=ff hr (h.trans hx)
theorem eE {c p:Prop} (h:c) (k:c→p:=by intro h;(try simp only[←aC,←bC,←aV,←bA,←aU]at h);(try rw[←zI]at h);(try rw[←ag]at h);first|(simp at h;exact h)|exact h):p:=k h
theorem iE {c:Bool} {a b:bp} {p q:Prop} (ht:p→a.holds C A I Q) (hf:q→b.holds C A I Q) (k1:c=true→p:=by intro h;exact eE h) (k2:c=false→q:=by intro h;exact eE h):(match c with|true=>a|false=>b).holds C A I Q:=
 bp.af (fun h=>ht (k1 h)) (fun h=>hf (k2 h))
theorem MP {c:Bool} {a b:bp} (ht:a.holds C A I Q) (k:c=false→False:=by intro h;(try simp only[←aC,←bC,←aV,←bA,←aU]at h);simp at h<;>omega):(match c with|true=>a|false=>b).holds C A I Q:=
 bp.af (fun _=>ht) (fun h=>(k h).elim)
theorem Pk {c:Bool} {a b:bp} (ht:b.holds C A I Q) (k:c=true→False:=by intro h;(try simp only[←aC,←bC,←aV,←bA,←aU]at h);simp at h<;>omega):(match c with|true=>a|false=>b).holds C A I Q:=
 bp.af (fun h=>(k h).elim) (fun _=>ht)
end
theorem JJ {P:Program} {G:Nat→Option (List PV)} {A:Ar} {Q:Ex→St→Prop} {b:cf} {st0:St} {is:List Item} (ks:List Nat) (src:List (Option Nat)) (u:Nat→St→St) (n:Nat) (ok:Nat→Prop) (hf:Fg st0 (u 0 (st0.tidy ks src)))
  (h:∀v:Nat,v≤n→(∀k,k<v→ok k)→fw (CC P G) A (Hf P G) b (u v (st0.tidy ks src)) (de (CC P G) A (Hf P G) is Q (fun s'=>v<n∧ok v∧s'.tidy ks src=u (v+1) (st0.tidy ks src)))) (hn:jN src=true:=by exact rfl):
  (bp.loop b st0 is).holds (CC P G) A (Hf P G) Q:=
 jJ (fun v s=>u v (s.tidy ks src)) n ok hf fun v hv hk=>fC (tS P G) b (fun e s' er=>by
  cases e with
  |normal=>exact⟨er.1,er.2.1,Fg.ca ks src hn er.2.2⟩
  |ret=>exact er
  |exit id=>exact er) (h v hv hk)
theorem bQ {P:Program} {G:Nat→Option (List PV)} {A:Ar} {Q:Ex→St→Prop} {b:cf} {st0:St} {is:List Item} (ks:List Nat) (src:List (Option Nat)) (u:Nat→St→St) (n:Nat) (ok:Nat→Prop)
  (h:∀v:Nat,v≤n→(∀k,k<v→ok k)→fw (CC P G) A (Hf P G) b (u v (st0.tidy ks src)) (de (CC P G) A (Hf P G) is Q (fun s'=>v<n∧ok v∧s'.tidy ks src=u (v+1) (st0.tidy ks src)))) (hn:jN src=true:=by exact rfl) (hf:st0.tidy ks src=u 0 (st0.tidy ks src):=by first|(cbv;done)|rfl|(simp;cbv;done)|(simp;rfl)):
  (bp.loop b st0 is).holds (CC P G) A (Hf P G) Q:=JJ ks src u n ok (Fg.ca ks src hn hf) h hn
def nn:List Nat→List (Option Nat)
 |[]=>[]
 |[g]=>List.replicate g none
 |g::v::r=>List.replicate g none++some v::nn r
end Go.Am
end
