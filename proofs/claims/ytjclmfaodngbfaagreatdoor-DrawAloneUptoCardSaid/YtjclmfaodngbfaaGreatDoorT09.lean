import Derived.Test.YtjclmfaodngbfaaGreatDoorT07
set_option linter.all false
set_option maxRecDepth 100000
set_option maxHeartbeats 1000000
namespace Go.Am
variable {A:Ar} {Q:Ex->St->Prop} {G:Nat->Option (List PV)} {P:Program} {T:Mj} {a:List AV} {b:Bool} {c:PV} {d:Option Nat} {e:List Item} {f:FuncId} {g:List PV} {n:Nat} {r:bp} {s st st0:St} {x:Option PV}
theorem gK{a:List Item}(b:r.holds (CC P G) A (Hf P G) Q)(h:run A vQ false 10000 a st=r:=by cbv): bH (CC P G) A (Hf P G) a Q .normal st:=go 10000 h b
theorem ej{b:cf}(a:r.holds (CC P G) A (Hf P G) Q)(h:run A vQ false 10000 [.code b] st=r:=by cbv): fw (CC P G) A (Hf P G) b st Q:=go1 10000 h a
theorem bl{a:List Item}(hT:oI (CC P G) A (Hf P G) T)(b:r.holds (CC P G) A (Hf P G) Q)(h:run A T false 10000 a st=r:=by cbv): bH (CC P G) A (Hf P G) a Q .normal st:=fm hT 10000 h b
theorem pO(i:bE P G f g c)(j:r.holds (CC P G) A (Hf P G) Q)(h:dB st.mem a=some (g,b):=by cbv)(l:b=true->c.jf=true:=by intro h;first|rfl|cases h)(k:run A vQ false 10000 e (st.put d (.pv c))=r:=by cbv):(bp.call f a d st e).holds (CC P G) A (Hf P G) Q:=ao h i l (go 10000 k j)
theorem vZ(i:bE P G f g c)(j:r.holds (CC P G) A (Hf P G) Q)(h:dB st.mem a=some (g,b):=by cbv)(l:b=true->c.jf=true:=by intro h;first|rfl|cases h)(k:run A vQ false 10000 e (st.put d (.pv c))=r:=by cbv):(bp.afq f a d st e).holds (CC P G) A (Hf P G) Q:=bF h i l (go 10000 k j)
theorem xB(hT:oI (CC P G) A (Hf P G) T)(i:bE P G f g c)(j:r.holds (CC P G) A (Hf P G) Q)(h:dB st.mem a=some (g,b):=by cbv)(l:b=true->c.jf=true:=by intro h;first|rfl|cases h)(k:run A T false 10000 e (st.put d (.pv c))=r:=by cbv):(bp.afq f a d st e).holds (CC P G) A (Hf P G) Q:=bF h i l (fm hT 10000 k j)
theorem yA(hT:oI (CC P G) A (Hf P G) T)(i:bE P G f g c)(j:r.holds (CC P G) A (Hf P G) Q)(h:dB st.mem a=some (g,b):=by cbv)(l:b=true->c.jf=true:=by intro h;first|rfl|cases h)(k:run A T false 10000 e (st.put d (.pv c))=r:=by cbv):(bp.call f a d st e).holds (CC P G) A (Hf P G) Q:=ao h i l (fm hT 10000 k j)
theorem iC{m:Nat}(h:Nat.ble m n=true):m<=n:=Nat.le_of_ble_eq_true h
theorem wS{w:IntKind->Int->Int}{a:Int->Int->Int}{v:Nat}(b:aF.wrap=w)(c:aF.add=a)(h:v<2^62):w .i64 (a (Int.ofNat v) 1)=Int.ofNat (v+1):=by subst b c;exact kY h
section
variable {C:CT} {I:IC}
theorem aY{x:bp}(a:r.holds C A I Q)(h:x=r:=by cbv):x.holds C A I Q:=h▸a
theorem gH{B:Ar}{U:Bool}{a:List Item}(b:r.holds C A I Q)(h:run B T U n a st=r:=by cbv):(run B T U n a st).holds C A I Q:=h▸b
theorem F3{α:Type}{a b c:α}(k:b=c)(h:a=b:=by cbv):a=c:=h.trans k
theorem aX{b:List RD}{a:PV}(c:x=some a)(h:fN b s=x:=by cbv):(bp.fin .ret s).holds C A I (rQ b a):=oW (h.trans c)
theorem dS{b:List RD}{a:PV}{c:List Item}{N:St->Prop}(d:x=some a)(e:kb c=none:=by exact rfl)(h:fN b s=x:=by cbv):(bp.fin .ret s).holds C A I (de C A I c (rQ b a) N):=ff e (h.trans d)
theorem eE{c p:Prop}(h:c)(k:c->p:=by intro h;(try simp only[<-aC,<-bC,<-aV,<-bA,<-aU]at h);(try rw[<-zI]at h);(try rw[<-ag]at h);first|(simp at h;exact h)|exact h):p:=k h
theorem iE{c:Bool}{a b:bp}{p q:Prop}(d:p->a.holds C A I Q)(e:q->b.holds C A I Q)(f:c=true->p:=by intro h;exact eE h)(g:c=false->q:=by intro h;exact eE h):(match c with|true=>a|false=>b).holds C A I Q:=bp.af (fun h=>d (f h)) (fun h=>e (g h))
theorem MP{c:Bool}{a b:bp}(d:a.holds C A I Q)(k:c=false->False:=by intro h;(try simp only[<-aC,<-bC,<-aV,<-bA,<-aU]at h);simp at h<;>omega):(match c with|true=>a|false=>b).holds C A I Q:=bp.af (fun _=>d) (fun h=>(k h).elim)
theorem Pk{c:Bool}{a b:bp}(d:b.holds C A I Q)(k:c=true->False:=by intro h;(try simp only[<-aC,<-bC,<-aV,<-bA,<-aU]at h);simp at h<;>omega):(match c with|true=>a|false=>b).holds C A I Q:=bp.af (fun h=>(k h).elim) (fun _=>d)
end
theorem JJ{b:cf}{f:List Item}(c:List Nat)(a:List (Option Nat))(u:Nat->St->St)(n:Nat)(ok:Nat->Prop)(i:Fg st0 (u 0 (st0.tidy c a)))(h:∀v:Nat,v<=n->(∀k,k<v->ok k)->fw (CC P G) A (Hf P G) b (u v (st0.tidy c a)) (de (CC P G) A (Hf P G) f Q (fun g=>v<n/\ok v/\g.tidy c a=u (v+1) (st0.tidy c a))))(j:jN a=true:=by exact rfl): (bp.loop b st0 f).holds (CC P G) A (Hf P G) Q:=jJ (fun v s=>u v (s.tidy c a)) n ok i fun v l m=>fC (qp P G) b (fun e g d=>by cases e with|normal=>exact⟨d.1,d.2.1,Fg.ah c a j d.2.2⟩|ret=>exact d|exit id=>exact d) (h v l m)
theorem bQ{b:cf}{d:List Item}(c:List Nat)(a:List (Option Nat))(u:Nat->St->St)(n:Nat)(ok:Nat->Prop)(h:∀v:Nat,v<=n->(∀k,k<v->ok k)->fw (CC P G) A (Hf P G) b (u v (st0.tidy c a)) (de (CC P G) A (Hf P G) d Q (fun f=>v<n/\ok v/\f.tidy c a=u (v+1) (st0.tidy c a))))(e:jN a=true:=by exact rfl)(g:st0.tidy c a=u 0 (st0.tidy c a):=by first|(cbv;done)|rfl|(simp;cbv;done)|(simp;rfl)): (bp.loop b st0 d).holds (CC P G) A (Hf P G) Q:=JJ c a u n ok (Fg.ah c a e g) h e
def dn:Nat->List AV->List AV
 |0,l=>l
 |n+1,l=>.dead::dn n l
def nn:List Nat->List (Option Nat)
 |[]=>[]
 |[g]=>List.replicate g none
 |g::v::r=>List.replicate g none++some v::nn r
end Go.Am
