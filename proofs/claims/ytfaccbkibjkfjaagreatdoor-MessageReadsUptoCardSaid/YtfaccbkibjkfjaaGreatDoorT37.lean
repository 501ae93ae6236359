import Derived.Test.YtfaccbkibjkfjaaGreatDoorT34
set_option linter.all false
set_option maxRecDepth 100000
set_option maxHeartbeats 1000000
namespace Go.aA
open Go Go.Am
open Classical
variable {A:B_} {E:List (List B_)} {S:List (List (List B_))} {b:U8} {c:Int} {d:List (List B_)} {done:List Fc} {e:Int} {fst0:Bool} {i:Nat} {l:List (List (List B_))} {m:Nat} {s:F0} {t:B_}
structure BR where
 pos:Int
 Ph:Int
 e:Int
def pV:BR:=⟨0,0,0⟩
noncomputable def cw(a b:BR):BR:=if a.e=0\/(b.e≠0/\(b.pos<a.pos\/(b.pos=a.pos/\b.Ph<a.Ph)))then b else a
theorem kq{a b:BR}(h:a.e=0):cw a b=b:=qao (Or.inl h)
theorem ij{a b:BR}(h:a.e≠0)(c:a.pos<b.pos\/b.e=0\/(a.pos=b.pos/\a.Ph<=b.Ph)):cw a b=a:=by unfold cw;rw[qai];rintro(d|⟨d,f|f⟩);{exact h d};{rcases c with c|c|c;{omega};{exact d c};omega};rcases c with c|c|c;{omega};{exact d c};omega
noncomputable def fj(t:B_)(a i:Nat)(out:B_)(f:BR):B_×BR:=
 if i<a then
  if at_ t i=63 then
   if t.length<=i+1\/(¬Sv (at_ t (i+1))/\at_ t (i+1)≠32)then fj t a (i+2) out (cw f ⟨i,3,41⟩)
   else fj t a (i+2) (out++[t.getD (i+1) 0]) (if out.length=100 then cw f ⟨i,4,3⟩else f)
  else if at_ t i<32\/126<at_ t i then fj t a (i+1) (out++[t.getD i 0]) (if out.length=100 then cw (cw f ⟨i,2,40⟩) ⟨i,4,3⟩else cw f ⟨i,2,40⟩)
  else fj t a (i+1) (out++[t.getD i 0]) (if out.length=100 then cw f ⟨i,4,3⟩else f)
 else(out,f)
termination_by a-i
noncomputable def cutAt(t:B_)(a:Nat)(y:Int)(i:Nat):List Nat:=
 if i<a then if at_ t i=63 then cutAt t a y (i+2)else if at_ t i=y then(i+1)::cutAt t a y (i+1)else cutAt t a y (i+1)
 else []
termination_by a-i
noncomputable def gd(t:B_)(i:Nat):Nat:=
 if i<t.length/\at_ t i≠39 then if at_ t i=63 then gd t (i+2)else gd t (i+1)
 else min i t.length
termination_by t.length-i
noncomputable def fG(t:B_)(a:Nat):List Nat->Nat->List B_->BR->List B_×BR
 |[],_,el,f=>(el,f)
 |p::ps,k,el,f=>fG t a ps (k+1) (el++[(fj t (ps.headD (a+1)-1) p [] pV).1]) (cw (if k=10 then cw f ⟨(p:Int)-1,1,5⟩else f) (fj t (ps.headD (a+1)-1) p [] pV).2)
noncomputable def lp(t:B_)(a:Nat):List Nat->Nat->List (List B_)->BR->List (List B_)×BR
 |[],_,ja,f=>(ja,f)
 |p::ps,i,ja,f=>lp t a ps (i+1) (ja++[(fG t (ps.headD (a+1)-1) (p::cutAt t (ps.headD (a+1)-1) 58 p) 0 [] (if i=30 then cw f ⟨(p:Int)-1,1,5⟩else f)).1]) (fG t (ps.headD (a+1)-1) (p::cutAt t (ps.headD (a+1)-1) 58 p) 0 [] (if i=30 then cw f ⟨(p:Int)-1,1,5⟩else f)).2
noncomputable def gy(t:B_)(i:Nat):Nat:=
 if i<t.length/\(at_ t i=10\/at_ t i=13\/at_ t i=32)then gy t (i+1)else i
termination_by t.length-i
noncomputable def Aq(t:B_)(a:Nat):List (List B_)×BR:=lp t (gd t a) (a::cutAt t (gd t a) 43 a) 0 [] pV
noncomputable def r7(t:B_)(a:Nat):BR:=if gd t a=t.length then cw (Aq t a).2 ⟨gd t a,5,42⟩else(Aq t a).2
theorem DE(t:B_)(i:Nat):i<=gy t i/\(i<=t.length->gy t i<=t.length):=by
 rw[gy];split
 ·rename_i h;have:=DE t (i+1);exact⟨o_,fun _=>this.2 o_⟩
 ·exact⟨qak _,fun h=>h⟩
termination_by t.length-i
theorem w9(t:B_)(i:Nat)(h:i<=t.length):i<=gd t i/\gd t i<=t.length:=by
 rw[gd];split
 ·rename_i b;split
  ·by_cases a:i+2<=t.length
   ·have:=w9 t (i+2) a;omega
   ·rw[gd,qai o_];omega
  ·have:=w9 t (i+1) o_;omega
 ·omega
termination_by t.length-i
noncomputable def wg(t:B_)(out:List (List (List B_)))(i:Nat):List (List (List B_))×Int×Int:=
 if h:gy t i<t.length then
  if out.length=5000 then([],gy t i,5)
  else if(r7 t (gy t i)).e≠0 then([],(r7 t (gy t i)).pos,(r7 t (gy t i)).e)
  else wg t (out++[(Aq t (gy t i)).1]) (gd t (gy t i)+1)
 else(out,0,0)
termination_by t.length-i
decreasing_by
 have a:=(DE t i).1;have b:=w9 t (gy t i) o_;omega
noncomputable def lexFrom(t:B_)(s:F0)(i:Nat):Except (Nat×Int) F0:=
 if i<t.length then match mu s i (at_ t i)with
  |.ok a=>lexFrom t a (i+1)
  |.error e=>.error e
 else .ok s
termination_by t.length-i
noncomputable def Pj(t:B_):Except (Nat×Int) F0->List (List (List B_))×Int×Int
 |.error (p,e)=>([],p,e)
 |.ok s=>match s.mode with
  |.rel=>([],s.mark,41)
  |.ins=>([],t.length,42)
  |.out=>(s.Hd,0,0)
noncomputable def L(t:B_)(s:F0)(i:Nat):List (List (List B_))×Int×Int:=Pj t (lexFrom t s i)
theorem Em{t:B_}{s:F0}(i:Nat)(d:i<=t.length)(h:bd t i=.ok s):lexFrom t s i=bd t t.length:=by
 rw[lexFrom];split
 ·rename_i a
  have b:bd t (i+1)=mu s i (at_ t i):=by rw[bd,h]
  split
  ·rename_i f hs;exact Em (i+1) a (b.trans hs)
  ·rename_i e c;exact(VF (b.trans c) a).symm
 ·have:i=t.length:=o_
  subst this;exact h.symm
termination_by t.length-i
theorem YS(t:B_):wa t=if 65536<t.length then([],0,3)else L t adp 0:=by unfold wa L;rw[Em 0 (qcK _) rfl];split;{rfl};generalize bd t t.length=x;rcases x with⟨p,e⟩|s;{rfl};rfl
theorem zL{a:F0}(h:i<t.length)(hs:mu s i (at_ t i)=.ok a):L t s i=L t a (i+1):=by unfold L;rw[lexFrom,qao h,hs]
theorem En{p:Nat}(h:i<t.length)(hs:mu s i (at_ t i)=.error (p,e)):L t s i=([],(p:Int),e):=by unfold L;rw[lexFrom,qao h,hs];rfl
theorem YT(h:t.length<=i):L t s i=Pj t (.ok s):=by unfold L;rw[lexFrom,qai o_]
def Clean(q:Int->Prop)(t:B_)(a i:Nat):Prop:=
 if i<a then(if at_ t i=63 then Clean q t a (i+2)else ¬q (at_ t i)/\Clean q t a (i+1))else i=a\/a=t.length
termination_by a-i
theorem BV(t:B_)(i:Nat)(h:i<=t.length):Clean (·=39) t (gd t i) i/\(gd t i<t.length->at_ t (gd t i)=39):=by
 have e:=w9 t i h
 by_cases a:i<t.length/\at_ t i≠39
 ·by_cases b:at_ t i=63
  ·have c:gd t i=gd t (i+2):=by rw[gd,qao a,qao b]
   rw[c]at e ⊢
   by_cases f:i+2<=t.length
   ·have d:=BV t (i+2) f;refine⟨?_,d.2⟩;have:=w9 t (i+2) f;rw[Clean,qao o_,qao b];exact d.1
   ·have:gd t (i+2)=t.length:=by rw[gd,qai o_];omega
    rw[this];refine⟨?_,fun h=>absurd h (qbC _)⟩;rw[Clean,qao o_,qao b,Clean,qai o_];exact Or.inr rfl
  ·have c:gd t i=gd t (i+1):=by rw[gd,qao a,qai b]
   rw[c]at e ⊢;have d:=BV t (i+1) o_;have:=w9 t (i+1) o_;refine⟨?_,d.2⟩;rw[Clean,qao o_,qai b];exact⟨a.2,d.1⟩
 ·have c:gd t i=i:=by rw[gd,qai a];omega
  rw[c];refine⟨by rw[Clean,qai (qbC _)];exact Or.inl rfl,fun hl=>?_⟩
  exact qaC fun g=>a ⟨hl,g⟩
termination_by t.length-i
theorem DF{q:Int->Prop}{t:B_}{b:Nat}{y:Int}(i:Nat)(a:Clean q t b i)(h:cutAt t b y i=[]):Clean (fun c=>q c\/c=y) t b i:=by
 rw[cutAt]at h;rw[Clean]at a ⊢
 by_cases e:i<b
 ·rw[qao e]at a h ⊢
  by_cases f:at_ t i=63
  ·rw[qao f]at a h ⊢;exact DF (i+2) a h
  ·rw[qai f]at a h ⊢
   by_cases d:at_ t i=y
   ·rw[qao d]at h;cases h
   ·rw[qai d]at h;exact⟨fun g=>g.elim a.1 d,DF (i+1) a.2 h⟩
 ·rw[qai e]at a ⊢;exact a
termination_by b-i
theorem As{q:Int->Prop}{t:B_}{a:Nat}{y:Int}{p:Nat}{r:List Nat}(s:a<=t.length)(i:Nat)(b:Clean q t a i)(h:cutAt t a y i=p::r):∃j,p=j+1/\i<=j/\j<a/\at_ t j=y/\Clean (fun c=>q c\/c=y) t j i/\r=cutAt t a y (j+1)/\Clean q t a (j+1):=by
 rw[cutAt]at h;rw[Clean]at b
 by_cases f:i<a
 ·rw[qao f]at b h
  by_cases d:at_ t i=63
  ·rw[qao d]at b h;obtain⟨j,g,u,k,l,m,n,o⟩:=As s (i+2) b h;refine⟨j,g,o_,k,l,?_,n,o⟩;rw[Clean,qao o_,qao d];exact m
  ·rw[qai d]at b h
   by_cases e:at_ t i=y
   ·rw[qao e]at h
    cases h
    refine⟨i,rfl,qak _,f,e,?_,rfl,b.2⟩;rw[Clean,qai (qbC _)];exact Or.inl rfl
   ·rw[qai e]at h;obtain⟨j,g,u,k,l,m,n,o⟩:=As s (i+1) b.2 h;refine⟨j,g,o_,k,l,?_,n,o⟩;rw[Clean,qao o_,qai d];exact⟨fun v=>v.elim b.1 e,m⟩
 ·rw[qai f]at h;cases h
termination_by a-i
theorem l9{t:B_}{b:Nat}(i:Nat){out:B_}{f:BR}(a:f.e≠0)(g:f.pos<i):(fj t b i out f).2=f:=by
 rw[fj]
 have k:∀{r e:Int},cw f ⟨i,r,e⟩=f:=fun{r e}=>ij a (Or.inl g)
 have h:∀{r e c d:Int},cw (cw f ⟨i,r,e⟩) ⟨i,c,d⟩=f:=fun{r e c d}=>by rw[k,k]
 split
 ·split
  ·split
   ·rw[k];exact l9 (i+2) a o_
   ·rw[show(if out.length=100 then cw f ⟨(i:Int),4,3⟩else f)=f by split;exact k;rfl];exact l9 (i+2) a o_
  ·split
   ·rw[show(if out.length=100 then cw (cw f ⟨(i:Int),2,40⟩) ⟨(i:Int),4,3⟩else cw f ⟨(i:Int),2,40⟩)=f by split;exact h;exact k];exact l9 (i+1) a o_
   ·rw[show(if out.length=100 then cw f ⟨(i:Int),4,3⟩else f)=f by split;exact k;rfl];exact l9 (i+1) a o_
 ·rfl
termination_by b-i
abbrev Cut3:Int->Prop:=fun c=>((c=39\/c=43)\/c=58)
theorem Uc(t:B_)(i:Nat):UInt8.ofNat (at_ t i).toNat=t.getD i 0:=by unfold at_;simp
theorem Av{t:B_}{a:Nat}(v:a<=t.length){S:List (List (List B_))}{E:List (List B_)}{C:List B_}(i:Nat){out:B_}{f:BR}{m:Nat}(d:f.e=0)(B:i<=a)(c:Clean Cut3 t a i):
  ((fj t a i out f).2.e=0->∃m',L t ⟨S,E,C,out,.ins,m⟩ i=L t ⟨S,E,C,(fj t a i out f).1,.ins,m'⟩ a)/\
  ((fj t a i out f).2.e≠0->L t ⟨S,E,C,out,.ins,m⟩ i=([],(fj t a i out f).2.pos,(fj t a i out f).2.e)/\(fj t a i out f).2.pos<a):=by
 rw[fj];rw[Clean]at c
 by_cases r:i<a
 ·rw[qao r]at c;rw[qao r]
  have hl:i<t.length:=o_
  by_cases g:at_ t i=63
  ·rw[qao g]at c;rw[qao g]
   have hs:mu ⟨S,E,C,out,.ins,m⟩ i (at_ t i)=.ok ⟨S,E,C,out,.rel,i⟩:=by
    rw[g];simp[mu,rT]
   rw[zL hl hs]
   by_cases j:t.length<=i+1\/(¬Sv (at_ t (i+1))/\at_ t (i+1)≠32)
   ·rw[qao j,kq d];rw[l9 (i+2) s_ w_];refine⟨fun h=>by simp at h,fun _=>⟨?_,w_⟩⟩
    by_cases k:t.length<=i+1
    ·rw[YT k];rfl
    ·refine En o_ ?_;have:at_ t (i+1)≠32/\¬Sv (at_ t (i+1)):=⟨(j.resolve_left k).2,(j.resolve_left k).1⟩;simp only[mu];rw[qao this]
   ·rw[qai j]
    have k:i+1<t.length:=qaC fun h=>j (Or.inl o_)
    have w:¬(at_ t (i+1)≠32/\¬Sv (at_ t (i+1))):=fun h=>j (Or.inr ⟨h.2,h.1⟩)
    have l:mu ⟨S,E,C,out,.rel,i⟩ (i+1) (at_ t (i+1))=iZ ⟨S,E,C,out,.rel,i⟩ (at_ t (i+1)) i:=by
     simp only[mu];rw[qai w]
    by_cases b:out.length=100
    ·rw[qao b,kq d];rw[l9 (i+2) s_ w_];refine⟨fun h=>by simp at h,fun _=>⟨?_,w_⟩⟩;refine En k (l.trans ?_);simp[iZ,b]
    ·rw[qai b]
     have s:mu ⟨S,E,C,out,.rel,i⟩ (i+1) (at_ t (i+1))=.ok ⟨S,E,C,out++[t.getD (i+1) 0],.ins,i⟩:=by
      rw[l];simp only[iZ];rw[qai b,Uc]
     rw[zL k s]
     by_cases y:i+2<=a
     ·exact Av v (i+2) d y c
     ·rw[Clean,qai o_]at c;omega
  ·rw[qai g]at c;rw[qai g]
   have u:∀x,x=39\/x=43\/x=58->at_ t i≠x:=by
    intro x D F;refine c.1 ?_;show(_\/_)\/_;omega
   have n:=u 39 (Or.inl rfl);have o:=u 43 (Or.inr (Or.inl rfl));have p:=u 58 (Or.inr (Or.inr rfl))
   by_cases q:at_ t i<32\/126<at_ t i
   ·rw[qao q,kq d]
    have z:(if out.length=100 then cw (⟨i,2,40⟩:BR) ⟨i,4,3⟩else⟨i,2,40⟩)=⟨i,2,40⟩:=by
     split
     ·exact ij s_ (Or.inr (Or.inr ⟨rfl,s_⟩))
     ·rfl
    rw[z,l9 (i+1) s_ w_];refine⟨fun h=>by simp at h,fun _=>⟨?_,w_⟩⟩;refine En hl ?_;simp only[mu,rT];rw[qai n,qai o_,qai o,qai p,qao q]
   ·rw[qai q]
    have l:mu ⟨S,E,C,out,.ins,m⟩ i (at_ t i)=iZ ⟨S,E,C,out,.ins,m⟩ (at_ t i) i:=by
     simp only[mu,rT];rw[qai n,qai o_,qai o,qai p,qai q,qai g]
    by_cases b:out.length=100
    ·rw[qao b,kq d];rw[l9 (i+1) s_ w_];refine⟨fun h=>by simp at h,fun _=>⟨?_,w_⟩⟩;refine En hl (l.trans ?_);simp[iZ,b]
    ·rw[qai b]
     have s:mu ⟨S,E,C,out,.ins,m⟩ i (at_ t i)=.ok ⟨S,E,C,out++[t.getD i 0],.ins,m⟩:=by
      rw[l];simp only[iZ];rw[qai b,Uc]
     rw[zL hl s];exact Av v (i+1) d o_ c.2
 ·have A:i=a:=o_
  subst A;rw[qai r];exact⟨fun _=>⟨m,rfl⟩,fun h=>absurd d h⟩
termination_by a-i
theorem YU(a b:BR):cw a b=a\/cw a b=b:=by unfold cw;split;{exact Or.inr rfl};exact Or.inl rfl
theorem YV{a b:BR}{n:Int}(c:a.e=0\/n<=a.pos)(d:n<=b.pos):(cw a b).e=0\/n<=(cw a b).pos:=by rcases YU a b with h|h<;>rw[h];{exact c};exact Or.inr d
theorem wh{t:B_}{to:Nat}{n:Int}(i:Nat){out:B_}{f:BR}(c:n<=i)(b:f.e=0\/n<=f.pos):(fj t to i out f).2.e=0\/n<=(fj t to i out f).2.pos:=by
 rw[fj]
 have k:∀{a:BR} {r e:Int},(a.e=0\/n<=a.pos)->((cw a ⟨i,r,e⟩).e=0\/n<=(cw a ⟨i,r,e⟩).pos):=fun h=>YV h c
 split
 ·split
  ·split
   ·exact wh (i+2) o_ (k b)
   ·refine wh (i+2) o_ ?_;split
    ·exact k b
    ·exact b
  ·split
   ·refine wh (i+1) o_ ?_;split
    ·exact k (k b)
    ·exact k b
   ·refine wh (i+1) o_ ?_;split
    ·exact k b
    ·exact b
 ·exact b
termination_by to-i
theorem r9{t:B_}{b:Nat}{y:Int}(i:Nat):∀p∈cutAt t b y i,i<p:=by
 intro p a;rw[cutAt]at a;split at a
 ·split at a
  ·have:=r9 (i+2) p a;omega
  ·split at a
   ·rcases qam.1 a with rfl|a
    ·omega
    ·have:=r9 (i+1) p a;omega
   ·have:=r9 (i+1) p a;omega
 ·cases a
termination_by b-i
theorem sd{t:B_}{a:Nat}:∀{ps:List Nat} {k:Nat} {b:List B_} {f:BR},f.e≠0->(∀p∈ps,f.pos+1<p)->(fG t a ps k b f).2=f
|[],_,_,_,_,_=>rfl
|p::ps,k,b,f,hf,c=>by have j:=c p (qaz ..);rw[fG];have d:(if k=10 then cw f ⟨(p:Int)-1,1,5⟩else f)=f:=by{split;{exact ij hf (Or.inl w_)};rfl};rw[d];have g:cw f (fj t (ps.headD (a+1)-1) p [] pV).2=f:=by{by_cases h:(fj t (ps.headD (a+1)-1) p [] pV).2.e=0;{exact ij hf (Or.inr (Or.inl h))};refine ij hf (Or.inl ?_);have:=(wh (t:=t) (to:=ps.headD (a+1)-1) p (out:=[]) (f:=pV) (n:=p) (qdG _) (Or.inl rfl)).resolve_left h;omega};rw[g];exact sd hf (fun q i=>c q (qaE _ i))
theorem B2{t:B_}{a:Nat}(i:a<=t.length){S:List (List (List B_))}{E:List (List B_)}(p:Nat){k:Nat}{el:List B_}{f:BR}{m:Nat}(B:f.e=0)(D:p<=a)(l:el.length=k)(F:k<=9)(w:Clean (fun c=>c=39\/c=43) t a p):
  ((fG t a (p::cutAt t a 58 p) k el f).2.e=0->∃C x m',(fG t a (p::cutAt t a 58 p) k el f).1=C++[x]/\L t ⟨S,E,el,[],.ins,m⟩ p=L t ⟨S,E,C,x,.ins,m'⟩ a)/\
  ((fG t a (p::cutAt t a 58 p) k el f).2.e≠0->L t ⟨S,E,el,[],.ins,m⟩ p=([],(fG t a (p::cutAt t a 58 p) k el f).2.pos,(fG t a (p::cutAt t a 58 p) k el f).2.e)/\(fG t a (p::cutAt t a 58 p) k el f).2.pos<a):=by
 rw[fG,qai o_,kq B]
 cases y:cutAt t a 58 p with
 |nil=>
  have G:=DF p w y;simp only[List.headD_nil,qbp,fG];have h:=Av i (S:=S) (E:=E) (C:=el) p (out:=[]) (f:=pV) (m:=m) rfl D G;refine⟨fun o=>?_,h.2⟩;obtain⟨m',s⟩:=h.1 o;exact⟨el,_,m',rfl,s⟩
 |cons q r=>
  obtain⟨j,rfl,u,H,z,I,v,J⟩:=As i p w y;simp only[qbz,qbp];have h:=Av (qbr (qcl H) i) (S:=S) (E:=E) (C:=el) p (out:=[]) (f:=pV) (m:=m) rfl u I;generalize fj t j p [] pV=g at h;obtain⟨c,g⟩:=g;dsimp only at h ⊢
  by_cases b:g.e=0
  ·obtain⟨m',s⟩:=h.1 b;rw[s]
   have A:j<t.length:=o_
   by_cases K:k=9
   ·have M:(fG t a ((j+1)::r) (k+1) (el++[c]) g).2=⟨(j:Int),1,5⟩:=by
     rw[fG,qao o_,kq b]
     have:((j+1:Nat):Int)-1=(j:Int):=o_
     rw[this]
     have u:cw ⟨(j:Int),1,5⟩ (fj t (r.headD (a+1)-1) (j+1) [] pV).2=⟨(j:Int),1,5⟩:=by
      by_cases h:(fj t (r.headD (a+1)-1) (j+1) [] pV).2.e=0
      ·exact ij s_ (Or.inr (Or.inl h))
      ·refine ij s_ (Or.inl ?_);have:=(wh (t:=t) (to:=r.headD (a+1)-1) (j+1) (out:=[]) (f:=pV) (n:=((j+1:Nat):Int)) (qdG _) (Or.inl rfl)).resolve_left h;simp only;omega
     rw[u];refine sd s_ (fun q d=>?_);rw[v]at d;have:=r9 _ q d;simp only;omega
    rw[M];refine⟨fun h=>by simp at h,fun _=>⟨?_,w_⟩⟩;refine En A ?_;rw[z];simp[mu,rT,l,K]
   ·have hs:mu ⟨S,E,el,c,.ins,m'⟩ j (at_ t j)=.ok ⟨S,E,el++[c],[],.ins,m'⟩:=by
     rw[z]
     have:¬el.length=9:=o_
     simp[mu,rT,this]
    rw[zL A hs,v];exact B2 i (j+1) b o_ w_ o_ J
  ·have l:(fG t a ((j+1)::r) (k+1) (el++[c]) g).2=g:=by
    have N:=(h.2 b).2;refine sd b (fun q d=>?_)
    rcases qam.1 d with rfl|d
    ·omega
    ·rw[v]at d;have:=r9 _ q d;omega
   rw[l];exact⟨fun o=>absurd o b,fun _=>⟨(h.2 b).1,by have:=(h.2 b).2;omega⟩⟩
termination_by a-p
theorem Eo{t:B_}{d:Nat}:∀{ps:List Nat} {k:Nat} {b:List (List B_)} {f:BR},f.e≠0->(∀p∈ps,f.pos+1<p)->(lp t d ps k b f).2=f
|[],_,_,_,_,_=>rfl
|p::ps,k,b,f,hf,c=>by have g:=c p (qaz ..);rw[lp];have h:(if k=30 then cw f ⟨(p:Int)-1,1,5⟩else f)=f:=by{split;{exact ij hf (Or.inl w_)};rfl};rw[h,sd hf (fun q a=>?_)];{exact Eo hf (fun q a=>c q (qaE _ a))};rcases qam.1 a with rfl|a;{exact g};have:=r9 _ q a;omega
theorem Ud{t:B_}{a:Nat}(i:a<=t.length){S:List (List (List B_))}(p:Nat){k:Nat}{el:List (List B_)}{f:BR}{m:Nat}(z:f.e=0)(G:p<=a)(l:el.length=k)(H:k<=29)(A:Clean (·=39) t a p):
  ((lp t a (p::cutAt t a 43 p) k el f).2.e=0->∃E C x m',(lp t a (p::cutAt t a 43 p) k el f).1=E++[C++[x]]/\L t ⟨S,el,[],[],.ins,m⟩ p=L t ⟨S,E,C,x,.ins,m'⟩ a)/\
  ((lp t a (p::cutAt t a 43 p) k el f).2.e≠0->L t ⟨S,el,[],[],.ins,m⟩ p=([],(lp t a (p::cutAt t a 43 p) k el f).2.pos,(lp t a (p::cutAt t a 43 p) k el f).2.e)/\(lp t a (p::cutAt t a 43 p) k el f).2.pos<a):=by
 rw[lp,qai o_]
 cases B:cutAt t a 43 p with
 |nil=>
  have I:=DF p A B;simp only[List.headD_nil,qbp,lp];have h:=B2 i (S:=S) (E:=el) p (k:=0) (el:=[]) (m:=m) z G rfl o_ I;refine⟨fun o=>?_,h.2⟩;obtain⟨C,x,m',s,u⟩:=h.1 o;exact⟨el,C,x,m',by rw[s],u⟩
 |cons q r=>
  obtain⟨j,rfl,v,w,D,J,y,K⟩:=As i p A B;simp only[qbz,qbp];have h:=B2 (qbr (qcl w) i) (S:=S) (E:=el) p (k:=0) (el:=[]) (m:=m) z v rfl o_ J;generalize fG t j (p::cutAt t j 58 p) 0 [] f=g at h;obtain⟨c,g⟩:=g;dsimp only at h ⊢
  by_cases d:g.e=0
  ·obtain⟨C,x,m',s,u⟩:=h.1 d;rw[u,s]
   have F:j<t.length:=o_
   by_cases M:k=29
   ·have N:(lp t a ((j+1)::r) (k+1) (el++[C++[x]]) g).2=⟨(j:Int),1,5⟩:=by
     rw[lp,qao o_,kq d]
     have:((j+1:Nat):Int)-1=(j:Int):=o_
     rw[this]
     have v:(fG t (r.headD (a+1)-1) ((j+1)::cutAt t (r.headD (a+1)-1) 58 (j+1)) 0 [] ⟨(j:Int),1,5⟩).2=⟨(j:Int),1,5⟩:=by
      rw[fG,qai o_]
      have w:cw ⟨(j:Int),1,5⟩ (fj t ((cutAt t (r.headD (a+1)-1) 58 (j+1)).headD (r.headD (a+1)-1+1)-1) (j+1) [] pV).2=⟨(j:Int),1,5⟩:=by
       by_cases h:(fj t ((cutAt t (r.headD (a+1)-1) 58 (j+1)).headD (r.headD (a+1)-1+1)-1) (j+1) [] pV).2.e=0
       ·exact ij s_ (Or.inr (Or.inl h))
       ·refine ij s_ (Or.inl ?_);have:=(wh (t:=t) (to:=(cutAt t (r.headD (a+1)-1) 58 (j+1)).headD (r.headD (a+1)-1+1)-1) (j+1) (out:=[]) (f:=pV) (n:=((j+1:Nat):Int)) (qdG _) (Or.inl rfl)).resolve_left h;simp only;omega
      rw[w];refine sd s_ (fun q b=>?_);have:=r9 _ q b;simp only;omega
     rw[v];refine Eo s_ (fun q b=>?_);rw[y]at b;have:=r9 _ q b;simp only;omega
    rw[N];refine⟨fun h=>by simp at h,fun _=>⟨?_,w_⟩⟩;refine En F ?_;rw[D];simp[mu,rT,l,M]
   ·have hs:mu ⟨S,el,C,x,.ins,m'⟩ j (at_ t j)=.ok ⟨S,el++[C++[x]],[],[],.ins,m'⟩:=by
     rw[D]
     have:¬el.length=29:=o_
     simp[mu,rT,this]
    rw[zL F hs,y];exact Ud i (j+1) d o_ w_ o_ K
  ·have l:(lp t a ((j+1)::r) (k+1) (el++[c]) g).2=g:=by
    have O:=(h.2 d).2;refine Eo d (fun q b=>?_)
    rcases qam.1 b with rfl|b
    ·omega
    ·rw[y]at b;have:=r9 _ q b;omega
   rw[l];exact⟨fun o=>absurd o d,fun _=>⟨(h.2 d).1,by have:=(h.2 d).2;omega⟩⟩
termination_by a-p
theorem B3{t:B_}(i:Nat)(h:gy t i<t.length):¬(at_ t (gy t i)=10\/at_ t (gy t i)=13\/at_ t (gy t i)=32):=by
 by_cases a:i<t.length/\(at_ t i=10\/at_ t i=13\/at_ t i=32)
 ·have b:gy t i=gy t (i+1):=by rw[gy,qao a]
  rw[b]at h ⊢;exact B3 (i+1) h
 ·have b:gy t i=i:=by rw[gy,qai a]
  rw[b]at h ⊢
  exact fun c=>a ⟨h,c⟩
termination_by t.length-i
theorem Y1{t:B_}{out:List (List (List B_))}{m:Nat}(i:Nat):L t ⟨out,[],[],[],.out,m⟩ i=L t ⟨out,[],[],[],.out,m⟩ (gy t i):=by
 by_cases a:i<t.length/\(at_ t i=10\/at_ t i=13\/at_ t i=32)
 ·have b:gy t i=gy t (i+1):=by rw[gy,qao a]
  rw[b,<-Y1 (i+1)];refine zL a.1 ?_;simp only[mu];rw[qao a.2]
 ·have b:gy t i=i:=by rw[gy,qai a]
  rw[b]
termination_by t.length-i
theorem MR{t:B_}{out:List (List (List B_))}{m:Nat}(i:Nat)(_hi:i<=t.length):L t ⟨out,[],[],[],.out,m⟩ i=wg t out i:=by
 rw[Y1,wg];have hs:=DE t i;have n:=B3 (t:=t) i;generalize gy t i=a at hs n
 by_cases b:a<t.length
 ·rw[qcu b];have o:=n b
  by_cases g:out.length=5000
  ·rw[qao g];refine En b ?_;simp only[mu];rw[qai o,qao g]
  ·rw[qai g]
   have r:L t ⟨out,[],[],[],.out,m⟩ a=L t ⟨out,[],[],[],.ins,m⟩ a:=by
    unfold L;rw[lexFrom,lexFrom,qao b,qao b]
    have:mu ⟨out,[],[],[],.out,m⟩ a (at_ t a)=mu ⟨out,[],[],[],.ins,m⟩ a (at_ t a):=by
     simp only[mu];rw[qai o,qai g];rfl
    rw[this]
   rw[r];have p:=w9 t a o_;obtain⟨s,u⟩:=BV t a o_;have h:=Ud p.2 (S:=out) a (k:=0) (el:=[]) (f:=pV) (m:=m) rfl p.1 rfl o_ s;rw[show lp t (gd t a) (a::cutAt t (gd t a) 43 a) 0 [] pV=Aq t a from rfl]at h
   by_cases c:(Aq t a).2.e=0
   ·obtain⟨E,C,x,m',j,l⟩:=h.1 c;rw[l];unfold r7
    by_cases d:gd t a=t.length
    ·rw[qao d,kq c,qao s_,YT o_];simp[Pj,d]
    ·rw[qai d,qai (by simp[c])]
     have q:gd t a<t.length:=o_
     have v:mu ⟨out,E,C,x,.ins,m'⟩ (gd t a) (at_ t (gd t a))=.ok ⟨out++[E++[C++[x]]],[],[],[],.out,m'⟩:=by
      rw[u q];simp[mu,rT]
     rw[zL q v,j];exact MR (gd t a+1) o_
   ·obtain⟨j,l⟩:=h.2 c
    have d:r7 t a=(Aq t a).2:=by
     unfold r7;split
     ·exact ij c (Or.inl l)
     ·rfl
    rw[j,d,qao c]
 ·rw[dif_neg b,YT o_];rfl
termination_by t.length-i
theorem US(t:B_):(if 65536<t.length then([],0,3)else wg t [] 0)=wa t:=by rw[YS];split;{rfl};exact(MR 0 (qcK _)).symm
def bb(d:List (List B_))(i:Nat):B_×Bool:=match d[i]? with
 |some [c]=>(c,true)
 |_=>([],false)
def fh(d:List (List B_)):Prop:=(bb d 0).2=true/\(bb d 1).2=true/\(bb d 2).2=true/\d.length=3
noncomputable def sk(done:List Fc)(a:Bool)(d:List (List B_)):List Fc×Bool×Int:=
 if a=false then
  if(bb d 0).1≠P6\/¬fh d\/¬acU (bb d 1).1\/¬ab2 (bb d 2).1 then(done,false,51)
  else if ∃m∈done,m.ref=(bb d 1).1 then(done,false,53)
  else(done++[⟨(bb d 2).1,(bb d 1).1,[]⟩],true,0)
 else match done.getLast? with
  |none=>(done,true,51)
  |some m=>
   if(bb d 0).1=P6 then(done,true,51)
   else if(bb d 0).1=P7 then
    if ¬fh d\/(bb d 1).1≠digits (m.Hd.length+2)\/(bb d 2).1≠m.ref then(done,true,52)else(done,false,0)
   else if ¬Y0 (bb d 0).1 then(done,true,50)
   else(done.dropLast++[⟨m.kind,m.ref,m.Hd++[((bb d 0).1,d.drop 1)]⟩],true,0)
theorem Aw(h:(bb d 0).1≠P6\/¬fh d\/¬acU (bb d 1).1\/¬ab2 (bb d 2).1):sk done false d=(done,false,51):=by unfold sk;rw[qao rfl,qao h]
theorem Za(h:¬((bb d 0).1≠P6\/¬fh d\/¬acU (bb d 1).1\/¬ab2 (bb d 2).1))(h2:∃m∈done,m.ref=(bb d 1).1):sk done false d=(done,false,53):=by unfold sk;rw[qao rfl,qai h,qao h2]
theorem Ze(h:¬((bb d 0).1≠P6\/¬fh d\/¬acU (bb d 1).1\/¬ab2 (bb d 2).1))(h2:¬∃m∈done,m.ref=(bb d 1).1):sk done false d=(done++[⟨(bb d 2).1,(bb d 1).1,[]⟩],true,0):=by unfold sk;rw[qao rfl,qai h,qai h2]
theorem agt{m:Fc}:sk (done++[m]) true d=if(bb d 0).1=P6 then(done++[m],true,51) else if(bb d 0).1=P7 then if ¬fh d\/(bb d 1).1≠digits (m.Hd.length+2)\/(bb d 2).1≠m.ref then(done++[m],true,52)else(done++[m],false,0) else if ¬Y0 (bb d 0).1 then(done++[m],true,50) else(done++[⟨m.kind,m.ref,m.Hd++[((bb d 0).1,d.drop 1)]⟩],true,0):=by unfold sk;rw[qai s_,qbb,qab];simp only[qce,qdu]
def PJ.all(s:PJ):List Fc:=s.out++if s.opn then [s.cur]else []
def PJ.Met(s:PJ):Prop:=s.met=s.all.map (·.ref)
theorem pd(h:(bb d i).2=true):(bb d i).1=cmp d i/\i<d.length/\(d.getD i []).length=1:=by unfold bb at h ⊢;split at h;{rename_i c a;have hl:i<d.length:=by{by_cases hl:i<d.length;{exact hl};rw[qa0 o_]at a;cases a};rw[qag hl]at a;have b:=qa9 a;simp[cmp,List.getD_eq_getElem?_getD,hl,b]};cases h
theorem Bs(h:i<d.length)(h1:(d.getD i []).length=1):bb d i=(cmp d i,true):=by unfold bb cmp;rw[List.getD_eq_getElem?_getD,qag h]at h1 ⊢;simp only[qbg]at h1 ⊢;obtain⟨c,f⟩:∃c,d[i]=[c]:=by{cases e:d[i]with|nil=>rw[e]at h1;cases h1|cons a r=>cases r with|nil=>exact⟨a,rfl⟩|cons b r=>rw[e]at h1;simp at h1};rw[List.getD_eq_getElem?_getD,qag h,f];rfl
theorem q9(h:¬(i<d.length/\(d.getD i []).length=1)):bb d i=([],false):=by unfold bb;split;{rename_i c a;exfalso;apply h;have hl:i<d.length:=by{by_cases hl:i<d.length;{exact hl};rw[qa0 o_]at a;cases a};rw[qag hl]at a;have b:=qa9 a;simp[List.getD_eq_getElem?_getD,hl,b]};rfl
theorem xA:fh d↔Ol d:=by constructor;{rintro⟨f,g,l,a⟩;refine⟨a,fun e m=>?_⟩;obtain⟨i,b,rfl⟩:=qaI m;have k:∀j,(bb d j).2=true->(c:j<d.length)->d[j].length=1:=fun j h c=>by{have:=(pd h).2.2;simpa[List.getD_eq_getElem?_getD,c]using this};have:i=0\/i=1\/i=2:=o_;rcases this with rfl|rfl|rfl;{exact k 0 f b};{exact k 1 g b};exact k 2 l b};rintro⟨a,h⟩;have k:∀j,j<3->(bb d j).2=true:=fun j c=>by{rw[Bs o_ (by have:=h d[j] (qaf o_);simpa[List.getD_eq_getElem?_getD,show j<d.length by omega]using this)]};exact⟨k 0 o_,k 1 o_,k 2 o_,a⟩
theorem B7(h:fh d):(bb d 0).1=cmp d 0/\(bb d 1).1=cmp d 1/\(bb d 2).1=cmp d 2:=⟨(pd h.1).1,(pd h.2.1).1,(pd h.2.2.1).1⟩
theorem Ew:gB d↔(0<d.length/\(d.getD 0 []).length=1):=by unfold gB;constructor;{rintro⟨h,a⟩;exact⟨qbm.2 h,a⟩};rintro⟨h,a⟩;exact⟨qbm.1 h,a⟩
theorem step_eq{s:PJ}(j:s.Met):match lK s d with
  |.ok t=>sk s.all s.opn d=(t.all,t.opn,0)/\t.Met
  |.error e=>sk s.all s.opn d=(s.all,s.opn,e)/\e≠0:=by
 obtain⟨c,u,g,out⟩:=s
 have k:gB d->bb d 0=(cmp d 0,true):=fun h=>by
  have:=Ew.1 h;exact Bs this.1 this.2
 have r:¬gB d->bb d 0=([],false):=fun h=>q9 (fun a=>h (Ew.2 a))
 have p:([]:B_)≠P6:=d_
 have z:([]:B_)≠P7:=d_
 have v:¬Y0 []:=fun h=>by have:=h.1;simp at this
 have C:P7≠P6:=d_
 cases u with
 |false=>
  unfold PJ.Met at j;simp only[PJ.all,qaP,qaW,qbw]at j ⊢;unfold sk;simp only[qax];unfold lK
  by_cases f:gB d/\cmp d 0=P6
  ·rw[qao f];unfold aaF;simp only[qaP,false_or]
   have l:(bb d 0).1=P6:=by rw[k f.1];exact f.2
   by_cases b:¬Ol d\/¬acU (cmp d 1)\/¬ab2 (cmp d 2)
   ·rw[qao b];simp only;refine⟨?_,d_⟩;rw[qao]
    by_cases a:fh d
    ·obtain⟨-,n,o⟩:=B7 a;rw[n,o]
     rcases b with b|b|b
     ·exact absurd (xA.1 a) b
     ·exact Or.inr (Or.inr (Or.inl b))
     ·exact Or.inr (Or.inr (Or.inr b))
    ·exact Or.inr (Or.inl a)
   ·rw[qai b];have a:fh d:=xA.2 (qaC fun h=>b (Or.inl h));obtain⟨-,n,o⟩:=B7 a
    have x:¬((bb d 0).1≠P6\/¬fh d\/¬acU (bb d 1).1\/¬ab2 (bb d 2).1):=by
     rw[n,o];rintro(h|h|h|h)
     ·exact h l
     ·exact h a
     ·exact b (Or.inr (Or.inl h))
     ·exact b (Or.inr (Or.inr h))
    have y:cmp d 1∈g↔∃m∈out,m.ref=(bb d 1).1:=by
     rw[j,n,qaw]
    by_cases i:cmp d 1∈g
    ·rw[qao i];simp only;rw[qai x,qao (y.1 i)];exact⟨rfl,d_⟩
    ·rw[qai i];simp only;rw[qai x,qai (fun h=>i (y.2 h)),n,o];refine⟨by simp[PJ.all],?_⟩;simp[PJ.Met,PJ.all,j]
  ·rw[qai f]
   have l:(bb d 0).1≠P6:=by
    by_cases h:gB d
    ·rw[k h];exact fun a=>f ⟨h,a⟩
    ·rw[r h];exact p
   have:(if gB d/\cmp d 0=P7 then Dy ⟨c,false,g,out⟩ d else rW ⟨c,false,g,out⟩ d)=.error 51:=by
    split
    ·simp[Dy]
    ·simp[rW]
   rw[this];simp only;rw[qao (Or.inl l)];exact⟨rfl,d_⟩
 |true=>
  unfold PJ.Met at j;simp only[PJ.all,qax]at j ⊢;unfold sk;simp only[Bool.true_eq_false,qaW,qbb,qab,qce];unfold lK
  by_cases f:gB d/\cmp d 0=P6
  ·rw[qao f]
   have l:(bb d 0).1=P6:=by rw[k f.1];exact f.2
   unfold aaF;rw[qao (Or.inl rfl)];simp only;rw[qao l];exact⟨rfl,d_⟩
  ·rw[qai f]
   have l:(bb d 0).1≠P6:=by
    by_cases h:gB d
    ·rw[k h];exact fun a=>f ⟨h,a⟩
    ·rw[r h];exact p
   rw[qai l]
   by_cases b:gB d/\cmp d 0=P7
   ·rw[qao b]
    have w:(bb d 0).1=P7:=by rw[k b.1];exact b.2
    rw[qao w];unfold Dy;rw[qai s_]
    by_cases a:fh d
    ·obtain⟨-,n,o⟩:=B7 a;rw[n,o]
     by_cases i:cmp d 1≠digits (c.Hd.length+2)\/cmp d 2≠c.ref
     ·rw[qao (Or.inr i)];simp only;rw[qao (Or.inr i)];exact⟨rfl,d_⟩
     ·have A:¬(¬Ol d\/cmp d 1≠digits (c.Hd.length+2)\/cmp d 2≠c.ref):=by
       rintro(h|h)
       ·exact h (xA.1 a)
       ·exact i h
      have B:¬(¬fh d\/cmp d 1≠digits (c.Hd.length+2)\/cmp d 2≠c.ref):=by
       rintro(h|h)
       ·exact h a
       ·exact i h
      rw[qai A];simp only;rw[qai B];refine⟨by simp[PJ.all],?_⟩;simp[PJ.Met,PJ.all,j]
    ·rw[qao (Or.inl (fun h=>a (xA.2 h)))];simp only;rw[qao (Or.inl a)];exact⟨rfl,d_⟩
   ·rw[qai b]
    have w:(bb d 0).1≠P7:=by
     by_cases h:gB d
     ·rw[k h];exact fun a=>b ⟨h,a⟩
     ·rw[r h];exact z
    rw[qai w];unfold rW;rw[qai s_]
    by_cases a:¬gB d\/¬Y0 (cmp d 0)
    ·rw[qao a];simp only;rw[qao]
     ·exact⟨rfl,d_⟩
     ·by_cases h:gB d
      ·rw[k h];exact a.resolve_left (fun q=>q h)
      ·rw[r h];exact v
    ·rw[qai a]
     have h:gB d:=qaC fun q=>a (Or.inl q)
     simp only;rw[k h,qai (fun q=>a (Or.inr q))];refine⟨by simp[PJ.all],?_⟩;simp[PJ.Met,PJ.all,j]
theorem Ue{L:List (List (List B_))}:∀{n:Nat} {s:PJ},kU L n=.ok s->s.Met
|0,s,h=>by cases h;rfl
|n+1,s,h=>by rw[kU]at h;split at h;{rename_i a b;have:=step_eq (s:=a) (d:=CG (L.getD n [])) (Ue b);split at h;{rename_i e c;cases h;rw[c]at this;exact this.2};cases h};cases h
def SW(d:List (List B_))(i:Nat):B_:=(bb d i).1
def lE(s:B_):Nat->Int
 |0=>0
 |n+1=>lE s n*10+at_ s n-48
def wi(s:B_):Prop:=∀i,i<s.length->48<=at_ s i/\at_ s i<=57
noncomputable def lL(s:B_):Int:=if 1<=s.length/\s.length<=9/\wi s then lE s s.length else-1
noncomputable def qq(t:B_):Int×Bool×Bool:=(if t=[50,50,71,49]\/t=[50,50,82,49]then 20 else 40,decide (t=[52,53,71,49]\/t=[52,53,82,49]),decide (t.length=4/\at_ t 2=82))
def zO(size:Int):List Int:=if size=40 then [0]else if size=20 then [1,2]else []
def jC(i size:Int):Nat->List Slot
 |0=>[]
 |t+1=>jC i size t++(zO size).map fun h=>⟨i,t,h⟩
def su(c:List aL)(size:Int):Nat->List Slot
 |0=>[]
 |i+1=>su c size i++match c[i]? with
  |none=>[]
  |some k=>jC i size k.dv.toNat
def cJ(c:List aL)(size:Int):List Slot:=su c size c.length
def Ey(s:B_):Prop:=s.length=7/\wi s/\¬(((at_ s 0-48)*100+(at_ s 1-48)*10+(at_ s 2-48))%4=0\/((at_ s 5-48)*10+(at_ s 6-48))%2=1\/(20<(at_ s 5-48)*10+(at_ s 6-48)/\(at_ s 5-48)*10+(at_ s 6-48)<82))
noncomputable def mC(c:List aL)(v:List bz)(s:B_):Slot×Int:=
 if ¬fo c v then(⟨0,0,0⟩,2)else if ¬Ey s then(⟨0,0,0⟩,80)else match(cJ c 20++cJ c 40).find? (fun x=>decide ((YX c v x).1=s))with
  |some x=>(x,0)
  |none=>(⟨0,0,0⟩,6)
theorem Jo{x:Slot}{i size:Int}:∀{n:Nat},x∈jC i size n↔x.column=i/\0<=x.cC/\x.cC<n/\x.half∈zO size
|0=>by simp only[jC,qaB,false_iff];rintro⟨-,h1,h2,-⟩;simp at h2;omega
|t+1=>by rw[jC,qav,Jo (n:=t),qaw];constructor;{rintro(⟨h1,h2,e,c⟩|⟨h,g,rfl⟩);{exact⟨h1,h2,o_,c⟩};exact⟨rfl,s_,w_,g⟩};rintro⟨h1,h2,e,c⟩;by_cases f:x.cC<t;{exact Or.inl ⟨h1,h2,f,c⟩};refine Or.inr ⟨x.half,c,?_⟩;obtain⟨a,b,d⟩:=x;simp only at h1 h2 e f ⊢;have:b=(t:Int):=o_;rw[this,h1]
theorem MS{c:List aL}{x:Slot}{size:Int}:∀{n:Nat},n<=c.length->(x∈su c size n↔∃i,∃h:i<c.length,i<n/\x.column=(i:Int)/\0<=x.cC/\x.cC<c[i].dv/\x.half∈zO size)
|0,_=>by simp[su]
|n+1,f=>by rw[su,qav,MS (n:=n) o_,qag o_];simp only;rw[Jo];constructor;{rintro(⟨i,h,h1,h2⟩|⟨h1,h2,a,b⟩);{exact⟨i,h,o_,h2⟩};exact⟨n,o_,o_,h1,h2,o_,b⟩};rintro⟨i,h,h1,h2,a,b,d⟩;by_cases e:i<n;{exact Or.inl ⟨i,h,e,h2,a,b,d⟩};have:i=n:=o_;subst this;exact Or.inr ⟨h2,a,o_,d⟩
theorem pg{c:List aL}{x:Slot}{size:Int}:x∈cJ c size↔fy c x size:=by unfold cJ;rw[MS (qak _)];have f:x.half∈zO size↔((size=40/\x.half=0)\/(size=20/\(x.half=1\/x.half=2))):=by{unfold zO;split;{simp;omega};split;{simp;omega};simp;omega};unfold fy;rw[<-f];constructor;{rintro⟨i,h,g,j,b,d,e⟩;refine⟨⟨o_,o_,b,fun a=>?_⟩,e⟩;have:x.column.toNat=i:=o_;simp only[this];exact d};rintro⟨⟨g,j,b,d⟩,e⟩;have a:x.column.toNat<c.length:=o_;exact⟨x.column.toNat,a,a,o_,b,d a,e⟩
theorem uN.rel{A:B_}{S:List (List (List B_))}{E:List (List B_)}{C:List B_}{m:Nat}{e:U8}{c:B_}{a:Bool}(f:S.length<5000)(i:adq c)(g:e=.ins\/(a=true/\e=.out))(h:uN A ⟨S,E,C,[],e,m⟩):∀{n:Nat},n<=c.length->∃d m',(d=.ins\/(n=0/\d=e))/\uN (A++adh c a n) ⟨S,E,C,c.take n,d,m'⟩
|0,_=>⟨e,m,Or.inr ⟨rfl,rfl⟩,by simpa[adh]using h⟩
|n+1,u=>by obtain⟨d,m',h1,h2⟩:=uN.rel f i g h (n:=n) o_;obtain⟨hl,j⟩:=i;have j:=j n o_;have o:c.take (n+1)=c.take n++[c.getD n 0]:=by{rw[qan o_];simp[List.getD_eq_getElem?_getD,show n<c.length by omega]};have k:((c.getD n 0).toNat:Int)=at_ c n:=rfl;have l:UInt8.ofNat (at_ c n).toNat=c.getD n 0:=by{unfold at_;simp};have v:(c.take n).length=n:=by{rw[qaT];omega};have p:d≠.rel:=by{rcases h1 with rfl|⟨-,rfl⟩;{decide};rcases g with rfl|⟨-,rfl⟩<;>decide};refine⟨.ins,if ahG (at_ c n)\/(a=true/\n=0/\at_ c n=32)then(A++adh c a n).length else m',Or.inl rfl,?_⟩;rw[adh,o];by_cases hs:ahG (at_ c n)\/(a=true/\n=0/\at_ c n=32);{rw[qao hs,qao hs];have q:uN (A++adh c a n++[63]) ⟨S,E,C,c.take n,.rel,(A++adh c a n).length⟩:=by{refine h2.step ?_;rw[Yq p f d_];unfold rT;rw[qai d_,qai (by rintro(h|h)<;>exact absurd h.1 d_),qai d_,qai d_,qai d_,qao d_]};have r:=q.step (b:=c.getD n 0) (s':=⟨S,E,C,c.take n++[c.getD n 0],.ins,(A++adh c a n).length⟩) (by rw[k];unfold mu;simp only;rw[qai (by rintro⟨h1,h2⟩;rcases hs with hs|hs;{exact h2 hs};exact h1 hs.2.2)];unfold iZ;rw[qai (by show ¬(c.take n).length=100;omega),l]);simpa using r};rw[qai hs,qai hs,qbi,<-qaR];refine h2.step ?_;rw[k];have s:¬ahG (at_ c n):=fun h=>hs (Or.inl h);unfold ahG at s;have t:mu ⟨S,E,C,c.take n,d,m'⟩ (A++adh c a n).length (at_ c n)=rT ⟨S,E,C,c.take n,d,m'⟩ (A++adh c a n).length (at_ c n):=by{rcases h1 with rfl|⟨rfl,rfl⟩;{rfl};rcases g with rfl|⟨rfl,rfl⟩;{rfl};exact Yq (fun h=>by cases h) f (by have:at_ c 0≠32:=fun h=>hs (Or.inr ⟨rfl,rfl,h⟩);omega)};rw[t];unfold rT;rw[qai o_,qai o_,qai o_,qai o_,qai o_,qai o_];unfold iZ;rw[qai (by show ¬(c.take n).length=100;omega),l]
theorem uN.Zp{C:List B_}{c:B_}(e:S.length<5000)(f:adq c)(d:b=.ins\/(fst0=true/\b=.out))(h:uN A ⟨S,E,C,[],b,m⟩):∃a m',a≠.rel/\uN (A++adh c fst0 c.length) ⟨S,E,C,c,a,m'⟩:=by obtain⟨a,m',g,i⟩:=h.rel e f d (qak _);refine⟨a,m',?_,by simpa using i⟩;rcases g with rfl|⟨-,rfl⟩;{decide};rcases d with rfl|⟨-,rfl⟩<;>decide
theorem uN.elem{A:B_}{S:List (List (List B_))}{E:List (List B_)}{m:Nat}{f:U8}{e:List B_}{fst0:Bool}(c:S.length<5000)(d:adV e)(g:f=.ins\/(fst0=true/\f=.out))(h:uN A ⟨S,E,[],[],f,m⟩):∀{k:Nat},(a:k<e.length)->∃b m',b≠.rel/\uN (A++acR e fst0 (k+1)) ⟨S,E,e.take k,e[k],b,m'⟩
|0,a=>by obtain⟨b,m',h1,h2⟩:=h.Zp (fst0:=fst0) c (d.2.2 0 a) g;refine⟨b,m',h1,?_⟩;simpa[acR,List.getD_eq_getElem?_getD,a]using h2
|k+1,a=>by obtain⟨i,j,h1,h2⟩:=uN.elem c d g h (k:=k) o_;have hl:(e.take k).length=k:=by{rw[qaT];omega};have p:=d.2.1;have l:uN (A++acR e fst0 (k+1)++[58]) ⟨S,E,e.take (k+1),[],.ins,j⟩:=by{refine h2.step ?_;rw[Yq h1 c d_];unfold rT;rw[qai d_,qai (by rintro(h|h);{exact absurd h.1 d_};have:=h.2;simp only[]at this;omega),qai d_,qao d_,qan o_]};obtain⟨b,m',n,o⟩:=l.Zp (fst0:=fst0&&decide (k+1=0)) c (d.2.2 (k+1) a) (Or.inl rfl);refine⟨b,m',n,?_⟩;rw[acR,qao o_];simpa[List.getD_eq_getElem?_getD,a]using o
theorem uN.Uf{e:List B_}(f:S.length<5000)(c:adV e)(g:b=.ins\/(fst0=true/\b=.out))(h:uN A ⟨S,E,[],[],b,m⟩):∃C x a m',a≠.rel/\C++[x]=e/\uN (A++acR e fst0 e.length) ⟨S,E,C,x,a,m'⟩:=by have j:=c.1;obtain⟨a,m',i,d⟩:=h.elem (fst0:=fst0) f c g (k:=e.length-1) o_;refine⟨_,_,a,m',i,?_,by rw[show e.length-1+1=e.length by omega]at d;exact d⟩;rw[<-qan o_,show e.length-1+1=e.length by omega,qbh]
theorem uN.acB{A:B_}{S:List (List (List B_))}{m:Nat}{s:List (List B_)}(d:S.length<5000)(hs:uJ s)(h:uN A ⟨S,[],[],[],.out,m⟩):∀{i:Nat},(a:i<s.length)->∃C x b m',b≠.rel/\C++[x]=s[i]/\uN (A++aA.acB s (i+1)) ⟨S,s.take i,C,x,b,m'⟩
|0,a=>by obtain⟨C,x,b,m',h1,h2,e⟩:=h.Uf (fst0:=true) d (hs.2.2 0 a) (Or.inr ⟨rfl,rfl⟩);refine⟨C,x,b,m',h1,h2,?_⟩;simpa[aA.acB,List.getD_eq_getElem?_getD,a]using e
|i+1,a=>by obtain⟨C,x,f,g,h1,h2,e⟩:=uN.acB d hs h (i:=i) o_;have hl:(s.take i).length=i:=by{rw[qaT];omega};have j:=hs.2.1;have k:uN (A++aA.acB s (i+1)++[43]) ⟨S,s.take (i+1),[],[],.ins,g⟩:=by{refine e.step ?_;rw[Yq h1 d d_];unfold rT;rw[qai d_,qai (by rintro(h|h);{have:=h.2;simp only[]at this;omega};exact absurd h.1 d_),qao d_,qan o_,<-h2]};obtain⟨l,n,b,m',o,p,q⟩:=k.Uf (fst0:=decide (i+1=0)) d (hs.2.2 (i+1) a) (Or.inl rfl);refine⟨l,n,b,m',o,p,?_⟩;rw[aA.acB,qao o_];simpa[List.getD_eq_getElem?_getD,a]using q
theorem uN.segG{s:List (List B_)}(a:S.length<5000)(hs:uJ s)(h:uN A ⟨S,[],[],[],.out,m⟩):∃m',uN (A++adX s) ⟨S++[s],[],[],[],.out,m'⟩:=by have e:=hs.1;obtain⟨C,x,f,m',c,d,b⟩:=h.acB a hs (i:=s.length-1) o_;refine⟨m',?_⟩;rw[show s.length-1+1=s.length by omega]at b;unfold adX;rw[<-qaR];refine b.step ?_;rw[Yq c a d_];unfold rT;rw[qao d_,d,<-qan o_,show s.length-1+1=s.length by omega,qbh]
theorem uN.ao3{l:List (List (List B_))}(a:l.length<=5000)(h:∀i,(d:i<l.length)->uJ l[i]):∀{n:Nat},n<=l.length->∃m,uN (Uu l n) ⟨l.take n,[],[],[],.out,m⟩
|0,_=>⟨0,uN.nil⟩
|n+1,e=>by obtain⟨m,b⟩:=uN.ao3 a h (n:=n) o_;obtain⟨m',c⟩:=b.segG (by rw[qaT];omega) (h n o_);refine⟨m',?_⟩;rw[Uu,qan o_];simpa[List.getD_eq_getElem?_getD,show n<l.length by omega]using c
theorem UT(h:afv l=(t,0)):wa t=(l,0,0):=by unfold afv at h;split at h;{simp at h};split at h;{simp at h};rename_i f a;split at h;{simp at h};rename_i b;have c:Uu l l.length=t:=by{simpa using h};obtain⟨m,hs⟩:=uN.ao3 (l:=l) o_ (fun i d=>qaC fun e=>a ⟨i,d,e⟩) (qak _);rw[c]at hs b;unfold uN at hs;unfold wa;rw[qai o_,hs];simp
def Hq(e:List B_):Nat:=(e.map fun c=>c.length+1).sum
def wD(s:List (List B_)):Nat:=(s.map Hq).sum
def zQ(l:List (List (List B_))):Nat:=(l.map wD).sum
def F0.sum(s:F0):Nat:=zQ s.Hd+wD s.ja+Hq s.aE+s.piece.length
theorem Ui{a:F0}(h:rT s i c=.ok a):a.sum<=s.sum+1:=by obtain⟨S,E,C,p,b,m⟩:=s;unfold rT at h;split at h;{cases h;simp[F0.sum,zQ,wD,Hq];omega};split at h;{cases h};split at h;{cases h;simp[F0.sum,zQ,wD,Hq];omega};split at h;{cases h;simp[F0.sum,zQ,wD,Hq];omega};split at h;{cases h};split at h;{cases h;simp[F0.sum]};unfold iZ at h;split at h;{cases h};cases h;simp[F0.sum];omega
theorem Zq{a:F0}(h:mu s i c=.ok a):a.sum<=s.sum+1:=by unfold mu at h;split at h;{split at h;{cases h;omega};split at h;{cases h};exact Ui h};{exact Ui h};split at h;{cases h};obtain⟨S,E,C,p,b,m⟩:=s;unfold iZ at h;split at h;{cases h};cases h;simp[F0.sum];omega
theorem Jp{t:B_}:∀{n:Nat} {s:F0},bd t n=.ok s->s.sum<=n
|0,s,h=>by cases h;simp[adp,F0.sum,zQ,wD,Hq]
|n+1,s,h=>by rw[bd]at h;split at h;{rename_i b a;have:=Jp a;have:=Zq h;omega};cases h
theorem PA{p:Int}(h:wa t=(l,p,e)):zQ l<=t.length:=by have a:zQ []<=t.length:=by{simp[zQ]};unfold wa at h;split at h;{cases h;exact a};split at h;{cases h;exact a};rename_i s hs;have:=Jp hs;split at h;{cases h;exact a};{cases h;exact a};cases h;unfold F0.sum at this;omega
end Go.aA
