import Derived.Test.YtfaccbkibjkfjaaGreatDoorT33
set_option linter.all false
set_option maxRecDepth 100000
set_option maxHeartbeats 1000000
namespace Go.aA
open Go Go.Am
open Classical
variable {A:B_} {E:List (List B_)} {S:List (List (List B_))} {c:Int} {d:List (List B_)} {done:List Fc} {e:Int} {fst0:Bool} {i:Nat} {l:List (List (List B_))} {m:Nat} {s:F0} {t:B_}
structure Ap where
 pos:Int
 MZ:Int
 e:Int
def pz:Ap:=⟨0,0,0⟩
noncomputable def br(a b:Ap):Ap:=if a.e=0\/(b.e≠0/\(b.pos<a.pos\/(b.pos=a.pos/\b.MZ<a.MZ)))then b else a
theorem lP{a b:Ap}(h:a.e=0):br a b=b:=qao (Or.inl h)
theorem jj{a b:Ap}(h:a.e≠0)(c:a.pos<b.pos\/b.e=0\/(a.pos=b.pos/\a.MZ<=b.MZ)):br a b=a:=by unfold br;rw[qai];rintro(d|⟨d,f|f⟩);{omega};{rcases c with c|c|c;{omega};{omega};omega};omega
noncomputable def dx(t:B_)(a i:Nat)(out:B_)(f:Ap):B_×Ap:=
 if i<a then
  if at_ t i=63 then
   if t.length<=i+1\/(¬Sv (at_ t (i+1))/\at_ t (i+1)≠32)then dx t a (i+2) out (br f ⟨i,3,41⟩)
   else dx t a (i+2) (out++[t.getD (i+1) 0]) (if out.length=100 then br f ⟨i,4,3⟩else f)
  else if at_ t i<32\/126<at_ t i then dx t a (i+1) (out++[t.getD i 0]) (if out.length=100 then br (br f ⟨i,2,40⟩) ⟨i,4,3⟩else br f ⟨i,2,40⟩)
  else dx t a (i+1) (out++[t.getD i 0]) (if out.length=100 then br f ⟨i,4,3⟩else f)
 else(out,f)
termination_by a-i
noncomputable def cutAt(t:B_)(a:Nat)(y:Int)(i:Nat):List Nat:=
 if i<a then if at_ t i=63 then cutAt t a y (i+2)else if at_ t i=y then(i+1)::cutAt t a y (i+1)else cutAt t a y (i+1)
 else []
termination_by a-i
noncomputable def gy(t:B_)(i:Nat):Nat:=
 if i<t.length/\at_ t i≠39 then if at_ t i=63 then gy t (i+2)else gy t (i+1)
 else min i t.length
termination_by t.length-i
noncomputable def fG(t:B_)(a:Nat):List Nat->Nat->List B_->Ap->List B_×Ap
 |[],_,el,f=>(el,f)
 |p::ps,k,el,f=>fG t a ps (k+1) (el++[(dx t (ps.headD (a+1)-1) p [] pz).1]) (br (if k=10 then br f ⟨(p:Int)-1,1,5⟩else f) (dx t (ps.headD (a+1)-1) p [] pz).2)
noncomputable def lE(t:B_)(a:Nat):List Nat->Nat->List (List B_)->Ap->List (List B_)×Ap
 |[],_,ja,f=>(ja,f)
 |p::ps,i,ja,f=>lE t a ps (i+1) (ja++[(fG t (ps.headD (a+1)-1) (p::cutAt t (ps.headD (a+1)-1) 58 p) 0 [] (if i=30 then br f ⟨(p:Int)-1,1,5⟩else f)).1]) (fG t (ps.headD (a+1)-1) (p::cutAt t (ps.headD (a+1)-1) 58 p) 0 [] (if i=30 then br f ⟨(p:Int)-1,1,5⟩else f)).2
noncomputable def gB(t:B_)(i:Nat):Nat:=
 if i<t.length/\(at_ t i=10\/at_ t i=13\/at_ t i=32)then gB t (i+1)else i
termination_by t.length-i
noncomputable def CQ(t:B_)(a:Nat):List (List B_)×Ap:=lE t (gy t a) (a::cutAt t (gy t a) 43 a) 0 [] pz
noncomputable def s5(t:B_)(a:Nat):Ap:=if gy t a=t.length then br (CQ t a).2 ⟨gy t a,5,42⟩else(CQ t a).2
theorem DQ(t:B_)(i:Nat):i<=gB t i/\(i<=t.length->gB t i<=t.length):=by
 rw[gB];split
 ·have:=DQ t (i+1);omega
 omega
termination_by t.length-i
theorem Ca(t:B_)(i:Nat)(h:i<=t.length):i<=gy t i/\gy t i<=t.length:=by
 rw[gy];split
 ·split
  ·by_cases a:i+2<=t.length
   ·have:=Ca t (i+2) a;omega
   grind[gy]
  ·have:=Ca t (i+1) o_;omega
 ·omega
termination_by t.length-i
noncomputable def v7(t:B_)(out:List (List (List B_)))(i:Nat):List (List (List B_))×Int×Int:=
 if h:gB t i<t.length then
  if out.length=5000 then([],gB t i,5)
  else if(s5 t (gB t i)).e≠0 then([],(s5 t (gB t i)).pos,(s5 t (gB t i)).e)
  else v7 t (out++[(CQ t (gB t i)).1]) (gy t (gB t i)+1)
 else(out,0,0)
termination_by t.length-i
decreasing_by
 grind[DQ,Ca]
noncomputable def lexFrom(t:B_)(s:F0)(i:Nat):Except (Nat×Int) F0:=
 if i<t.length then match mu s i (at_ t i)with
  |.ok a=>lexFrom t a (i+1)
  |.error e=>.error e
 else .ok s
termination_by t.length-i
noncomputable def Sz(t:B_):Except (Nat×Int) F0->List (List (List B_))×Int×Int
 |.error (p,e)=>([],p,e)
 |.ok s=>match s.mode with
  |.rel=>([],s.mark,41)
  |.ins=>([],t.length,42)
  |.out=>(s.Hd,0,0)
noncomputable def L(t:B_)(s:F0)(i:Nat):List (List (List B_))×Int×Int:=Sz t (lexFrom t s i)
theorem Ez{t:B_}{s:F0}(i:Nat)(c:i<=t.length)(h:bc t i=.ok s):lexFrom t s i=bc t t.length:=by
 rw[lexFrom];split
 ·rename_i a
  have b:bc t (i+1)=mu s i (at_ t i):=by rw[bc,h]
  split
  ·rename_i d hs;exact Ez (i+1) a (b.trans hs)
  grind[VF]
 grind
termination_by t.length-i
theorem aaM(t:B_):wa t=if 65536<t.length then([],0,3)else L t adp 0:=by unfold wa L;rw[Ez 0 (qcK _) rfl];rfl
theorem zO{a:F0}(h:i<t.length)(hs:mu s i (at_ t i)=.ok a):L t s i=L t a (i+1):=by grind[L,lexFrom]
theorem EA{p:Nat}(h:i<t.length)(hs:mu s i (at_ t i)=.error (p,e)):L t s i=([],(p:Int),e):=by unfold L;rw[lexFrom,qao h,hs];rfl
theorem aaP(h:t.length<=i):L t s i=Sz t (.ok s):=by grind[L,lexFrom]
def Clean(q:Int->Prop)(t:B_)(a i:Nat):Prop:=
 if i<a then(if at_ t i=63 then Clean q t a (i+2)else ¬q (at_ t i)/\Clean q t a (i+1))else i=a\/a=t.length
termination_by a-i
theorem Cb(t:B_)(i:Nat)(h:i<=t.length):Clean (·=39) t (gy t i) i/\(gy t i<t.length->at_ t (gy t i)=39):=by
 have d:=Ca t i h
 by_cases e:i<t.length/\at_ t i≠39
 ·by_cases f:at_ t i=63
  ·have a:gy t i=gy t (i+2):=by grind[gy]
   by_cases b:i+2<=t.length
   ·have c:=Cb t (i+2) b
    grind[Clean]
   grind[gy,Clean]
  ·have a:gy t i=gy t (i+1):=by grind[gy]
   have c:=Cb t (i+1) o_
   grind[Clean]
 grind[gy,Clean]
termination_by t.length-i
theorem DS{q:Int->Prop}{t:B_}{b:Nat}{y:Int}(i:Nat)(a:Clean q t b i)(h:cutAt t b y i=[]):Clean (fun c=>q c\/c=y) t b i:=by
 rw[cutAt]at h;rw[Clean]at a ⊢
 by_cases f:i<b
 ·rw[qao f]at a h ⊢
  by_cases d:at_ t i=63
  ·rw[qao d]at a h ⊢;exact DS (i+2) a h
  ·rw[qai d]at a h ⊢
   by_cases e:at_ t i=y
   ·simp_all
   ·rw[qai e]at h;exact⟨fun g=>g.elim a.1 e,DS (i+1) a.2 h⟩
 grind
termination_by b-i
theorem Aq{q:Int->Prop}{t:B_}{a:Nat}{y:Int}{p:Nat}{r:List Nat}(d:a<=t.length)(i:Nat)(b:Clean q t a i)(h:cutAt t a y i=p::r):∃j,p=j+1/\i<=j/\j<a/\at_ t j=y/\Clean (fun c=>q c\/c=y) t j i/\r=cutAt t a y (j+1)/\Clean q t a (j+1):=by
 rw[cutAt]at h;rw[Clean]at b
 by_cases f:i<a
 ·rw[qao f]at b h
  by_cases e:at_ t i=63
  ·rw[qao e]at b h;obtain⟨j,g,k,l,m,n,o,s⟩:=Aq d (i+2) b h
   grind[Clean]
  ·rw[qai e]at b h
   by_cases u:at_ t i=y
   ·grind[Clean]
   ·rw[qai u]at h;obtain⟨j,g,k,l,m,n,o,s⟩:=Aq d (i+1) b.2 h
    grind[Clean]
 simp_all
termination_by a-i
theorem ma{t:B_}{b:Nat}(i:Nat){out:B_}{f:Ap}(a:f.e≠0)(c:f.pos<i):(dx t b i out f).2=f:=by
 rw[dx]
 have k:∀{r e:Int},br f ⟨i,r,e⟩=f:=fun{r e}=>jj a (Or.inl c)
 split
 ·split
  ·split
   ·rw[k];exact ma (i+2) a o_
   ·rw[show(if out.length=100 then br f ⟨(i:Int),4,3⟩else f)=f by simp_all];exact ma (i+2) a o_
  ·split
   ·rw[show(if out.length=100 then br (br f ⟨(i:Int),2,40⟩) ⟨(i:Int),4,3⟩else br f ⟨(i:Int),2,40⟩)=f by simp_all];exact ma (i+1) a o_
   ·rw[show(if out.length=100 then br f ⟨(i:Int),4,3⟩else f)=f by simp_all];exact ma (i+1) a o_
 ·rfl
termination_by b-i
abbrev Cut3:Int->Prop:=fun c=>((c=39\/c=43)\/c=58)
theorem UX(t:B_)(i:Nat):UInt8.ofNat (at_ t i).toNat=t.getD i 0:=by simp_all[at_]
theorem As{t:B_}{a:Nat}(n:a<=t.length){S:List (List (List B_))}{E:List (List B_)}{C:List B_}(i:Nat){out:B_}{f:Ap}{m:Nat}(d:f.e=0)(s:i<=a)(b:Clean Cut3 t a i):
  ((dx t a i out f).2.e=0->∃m',L t ⟨S,E,C,out,.ins,m⟩ i=L t ⟨S,E,C,(dx t a i out f).1,.ins,m'⟩ a)/\
  ((dx t a i out f).2.e≠0->L t ⟨S,E,C,out,.ins,m⟩ i=([],(dx t a i out f).2.pos,(dx t a i out f).2.e)/\(dx t a i out f).2.pos<a):=by
 rw[dx];rw[Clean]at b
 by_cases o:i<a
 ·rw[qao o]at b;rw[qao o]
  have hl:i<t.length:=o_
  by_cases c:at_ t i=63
  ·rw[qao c]at b;rw[qao c]
   have hs:mu ⟨S,E,C,out,.ins,m⟩ i (at_ t i)=.ok ⟨S,E,C,out,.rel,i⟩:=by
    grind[mu,rT]
   rw[zO hl hs]
   by_cases g:t.length<=i+1\/(¬Sv (at_ t (i+1))/\at_ t (i+1)≠32)
   ·rw[qao g,lP d];rw[ma (i+2) s_ g_];refine⟨fun h=>g_,fun _=>⟨?_,a_⟩⟩
    by_cases j:t.length<=i+1
    ·rw[aaP j];rfl
    grind[EA,mu]
   ·rw[qai g]
    have j:i+1<t.length:=qaC fun h=>g (Or.inl o_)
    have p:mu ⟨S,E,C,out,.rel,i⟩ (i+1) (at_ t (i+1))=jo ⟨S,E,C,out,.rel,i⟩ (at_ t (i+1)) i:=by
     grind[mu]
    by_cases k:out.length=100
    ·grind[lP,ma,EA,jo]
    ·rw[qai k]
     have l:mu ⟨S,E,C,out,.rel,i⟩ (i+1) (at_ t (i+1))=.ok ⟨S,E,C,out++[t.getD (i+1) 0],.ins,i⟩:=by
      grind[jo,UX]
     rw[zO j l]
     by_cases q:i+2<=a
     ·exact As n (i+2) d q b
     grind[Clean]
  ·rw[qai c]at b;rw[qai c]
   by_cases r:at_ t i<32\/126<at_ t i
   ·grind[br,ma,EA,mu,rT]
   ·rw[qai r]
    have p:mu ⟨S,E,C,out,.ins,m⟩ i (at_ t i)=jo ⟨S,E,C,out,.ins,m⟩ (at_ t i) i:=by
     grind[mu,rT]
    by_cases k:out.length=100
    ·grind[lP,ma,EA,jo]
    ·rw[qai k]
     have l:mu ⟨S,E,C,out,.ins,m⟩ i (at_ t i)=.ok ⟨S,E,C,out++[t.getD i 0],.ins,m⟩:=by
      grind[jo,UX]
     rw[zO hl l];exact As n (i+1) d o_ b.2
 grind
termination_by a-i
theorem aaQ(a b:Ap):br a b=a\/br a b=b:=by grind[br]
theorem aaR{a b:Ap}{n:Int}(c:a.e=0\/n<=a.pos)(d:n<=b.pos):(br a b).e=0\/n<=(br a b).pos:=by grind[aaQ]
theorem v8{t:B_}{to:Nat}{n:Int}(i:Nat){out:B_}{f:Ap}(b:n<=i)(c:f.e=0\/n<=f.pos):(dx t to i out f).2.e=0\/n<=(dx t to i out f).2.pos:=by
 rw[dx]
 have k:∀{a:Ap} {r e:Int},(a.e=0\/n<=a.pos)->((br a ⟨i,r,e⟩).e=0\/n<=(br a ⟨i,r,e⟩).pos):=fun h=>aaR h b
 split
 ·split
  ·split
   ·exact v8 (i+2) o_ (k c)
   ·refine v8 (i+2) o_ ?_
    grind
  ·split
   ·refine v8 (i+1) o_ ?_
    grind
   ·refine v8 (i+1) o_ ?_
    grind
 omega
termination_by to-i
theorem r6{t:B_}{b:Nat}{y:Int}(i:Nat):∀p∈cutAt t b y i,i<p:=by
 intro p a;rw[cutAt]at a;split at a
 ·split at a
  ·have:=r6 (i+2) p a;omega
  ·split at a
   ·rcases qam.1 a with rfl|a
    ·omega
    ·have:=r6 (i+1) p a;omega
   ·have:=r6 (i+1) p a;omega
 grind
termination_by b-i
theorem r7{t:B_}{a:Nat}:∀{ps:List Nat} {k:Nat} {b:List B_} {f:Ap},f.e≠0->(∀p∈ps,f.pos+1<p)->(fG t a ps k b f).2=f
|[],_,_,_,_,_=>rfl
|p::ps,k,b,f,hf,c=>by have j:=c p (qaz ..);rw[fG];have d:(if k=10 then br f ⟨(p:Int)-1,1,5⟩else f)=f:=by{grind[jj]};rw[d];have g:br f (dx t (ps.headD (a+1)-1) p [] pz).2=f:=by{by_cases h:(dx t (ps.headD (a+1)-1) p [] pz).2.e=0;{grind[jj]};refine jj hf (Or.inl ?_);have:=(v8 (t:=t) (to:=ps.headD (a+1)-1) p (out:=[]) (f:=pz) (n:=p) (qdG _) (Or.inl rfl)).resolve_left h;omega};rw[g];exact r7 hf (fun q i=>c q (qaE _ i))
theorem Cc{t:B_}{a:Nat}(i:a<=t.length){S:List (List (List B_))}{E:List (List B_)}(p:Nat){k:Nat}{el:List B_}{f:Ap}{m:Nat}(s:f.e=0)(H:p<=a)(u:el.length=k)(v:k<=9)(w:Clean (fun c=>c=39\/c=43) t a p):
  ((fG t a (p::cutAt t a 58 p) k el f).2.e=0->∃C x m',(fG t a (p::cutAt t a 58 p) k el f).1=C++[x]/\L t ⟨S,E,el,[],.ins,m⟩ p=L t ⟨S,E,C,x,.ins,m'⟩ a)/\
  ((fG t a (p::cutAt t a 58 p) k el f).2.e≠0->L t ⟨S,E,el,[],.ins,m⟩ p=([],(fG t a (p::cutAt t a 58 p) k el f).2.pos,(fG t a (p::cutAt t a 58 p) k el f).2.e)/\(fG t a (p::cutAt t a 58 p) k el f).2.pos<a):=by
 rw[fG,qai o_,lP s]
 cases y:cutAt t a 58 p with
 |nil=>
  grind[DS,fG,As,pz]
 |cons q r=>
  obtain⟨j,rfl,l,z,I,A,o,B⟩:=Aq i p w y;simp only[qa6,qbp];have h:=As (qbr (qcl z) i) (S:=S) (E:=E) (C:=el) p (out:=[]) (f:=pz) (m:=m) rfl l A;generalize dx t j p [] pz=g at h;obtain⟨c,g⟩:=g;dsimp only at h ⊢
  by_cases d:g.e=0
  ·obtain⟨m',D⟩:=h.1 d;rw[D]
   have F:j<t.length:=o_
   by_cases J:k=9
   ·have G:(fG t a ((j+1)::r) (k+1) (el++[c]) g).2=⟨(j:Int),1,5⟩:=by
     rw[fG,qao o_,lP d]
     have:((j+1:Nat):Int)-1=(j:Int):=o_
     rw[this]
     have l:br ⟨(j:Int),1,5⟩ (dx t (r.headD (a+1)-1) (j+1) [] pz).2=⟨(j:Int),1,5⟩:=by
      by_cases h:(dx t (r.headD (a+1)-1) (j+1) [] pz).2.e=0
      ·grind[jj]
      ·refine jj s_ (Or.inl ?_);have:=(v8 (t:=t) (to:=r.headD (a+1)-1) (j+1) (out:=[]) (f:=pz) (n:=((j+1:Nat):Int)) (qdG _) (Or.inl rfl)).resolve_left h
       grind
     rw[l];refine r7 s_ (fun q b=>?_);rw[o]at b;have:=r6 _ q b
     grind
    grind[EA,mu,rT]
   ·have hs:mu ⟨S,E,el,c,.ins,m'⟩ j (at_ t j)=.ok ⟨S,E,el++[c],[],.ins,m'⟩:=by
     grind[mu,rT]
    rw[zO F hs,o];exact Cc i (j+1) d o_ a_ o_ B
  ·have u:(fG t a ((j+1)::r) (k+1) (el++[c]) g).2=g:=by
    refine r7 d (fun q b=>?_)
    rcases qam.1 b with rfl|b
    ·omega
    ·rw[o]at b;have:=r6 _ q b;omega
   grind
termination_by a-p
theorem EN{t:B_}{d:Nat}:∀{ps:List Nat} {k:Nat} {b:List (List B_)} {f:Ap},f.e≠0->(∀p∈ps,f.pos+1<p)->(lE t d ps k b f).2=f
|[],_,_,_,_,_=>rfl
|p::ps,k,b,f,hf,c=>by have g:=c p (qaz ..);rw[lE];have h:(if k=30 then br f ⟨(p:Int)-1,1,5⟩else f)=f:=by{grind[jj]};rw[h,r7 hf (fun q a=>?_)];{exact EN hf (fun q a=>c q (qaE _ a))};rcases qam.1 a with rfl|a;{exact g};have:=r6 _ q a;omega
theorem UY{t:B_}{a:Nat}(i:a<=t.length){S:List (List (List B_))}(p:Nat){k:Nat}{el:List (List B_)}{f:Ap}{m:Nat}(w:f.e=0)(I:p<=a)(y:el.length=k)(z:k<=29)(u:Clean (·=39) t a p):
  ((lE t a (p::cutAt t a 43 p) k el f).2.e=0->∃E C x m',(lE t a (p::cutAt t a 43 p) k el f).1=E++[C++[x]]/\L t ⟨S,el,[],[],.ins,m⟩ p=L t ⟨S,E,C,x,.ins,m'⟩ a)/\
  ((lE t a (p::cutAt t a 43 p) k el f).2.e≠0->L t ⟨S,el,[],[],.ins,m⟩ p=([],(lE t a (p::cutAt t a 43 p) k el f).2.pos,(lE t a (p::cutAt t a 43 p) k el f).2.e)/\(lE t a (p::cutAt t a 43 p) k el f).2.pos<a):=by
 rw[lE,qai o_]
 cases v:cutAt t a 43 p with
 |nil=>
  have J:=DS p u v
  grind[lE,Cc]
 |cons q r=>
  obtain⟨j,rfl,l,o,K,A,s,B⟩:=Aq i p u v;simp only[qa6,qbp];have h:=Cc (qbr (qcl o) i) (S:=S) (E:=el) p (k:=0) (el:=[]) (m:=m) w l rfl o_ A;generalize fG t j (p::cutAt t j 58 p) 0 [] f=g at h;obtain⟨c,g⟩:=g;dsimp only at h ⊢
  by_cases d:g.e=0
  ·obtain⟨C,x,m',D,F⟩:=h.1 d;rw[F,D]
   have G:j<t.length:=o_
   by_cases M:k=29
   ·have H:(lE t a ((j+1)::r) (k+1) (el++[C++[x]]) g).2=⟨(j:Int),1,5⟩:=by
     rw[lE,qao o_,lP d]
     have:((j+1:Nat):Int)-1=(j:Int):=o_
     rw[this]
     have l:(fG t (r.headD (a+1)-1) ((j+1)::cutAt t (r.headD (a+1)-1) 58 (j+1)) 0 [] ⟨(j:Int),1,5⟩).2=⟨(j:Int),1,5⟩:=by
      rw[fG,qai o_]
      have o:br ⟨(j:Int),1,5⟩ (dx t ((cutAt t (r.headD (a+1)-1) 58 (j+1)).headD (r.headD (a+1)-1+1)-1) (j+1) [] pz).2=⟨(j:Int),1,5⟩:=by
       by_cases h:(dx t ((cutAt t (r.headD (a+1)-1) 58 (j+1)).headD (r.headD (a+1)-1+1)-1) (j+1) [] pz).2.e=0
       ·grind[jj]
       ·refine jj s_ (Or.inl ?_);have:=(v8 (t:=t) (to:=(cutAt t (r.headD (a+1)-1) 58 (j+1)).headD (r.headD (a+1)-1+1)-1) (j+1) (out:=[]) (f:=pz) (n:=((j+1:Nat):Int)) (qdG _) (Or.inl rfl)).resolve_left h
        grind
      rw[o];refine r7 s_ (fun q b=>?_);have:=r6 _ q b
      grind
     rw[l];refine EN s_ (fun q b=>?_);rw[s]at b;have:=r6 _ q b
     grind
    grind[EA,mu,rT]
   ·have hs:mu ⟨S,el,C,x,.ins,m'⟩ j (at_ t j)=.ok ⟨S,el++[C++[x]],[],[],.ins,m'⟩:=by
     grind[mu,rT]
    rw[zO G hs,s];exact UY i (j+1) d o_ a_ o_ B
  ·have y:(lE t a ((j+1)::r) (k+1) (el++[c]) g).2=g:=by
    refine EN d (fun q b=>?_)
    rcases qam.1 b with rfl|b
    ·omega
    ·rw[s]at b;have:=r6 _ q b;omega
   grind
termination_by a-p
theorem Ce{t:B_}(i:Nat)(h:gB t i<t.length):¬(at_ t (gB t i)=10\/at_ t (gB t i)=13\/at_ t (gB t i)=32):=by
 by_cases b:i<t.length/\(at_ t i=10\/at_ t i=13\/at_ t i=32)
 ·have a:gB t i=gB t (i+1):=by grind[gB]
  rw[a]at h ⊢;exact Ce (i+1) h
 grind[gB]
termination_by t.length-i
theorem aaS{t:B_}{out:List (List (List B_))}{m:Nat}(i:Nat):L t ⟨out,[],[],[],.out,m⟩ i=L t ⟨out,[],[],[],.out,m⟩ (gB t i):=by
 by_cases b:i<t.length/\(at_ t i=10\/at_ t i=13\/at_ t i=32)
 ·have a:gB t i=gB t (i+1):=by grind[gB]
  rw[a,<-aaS (i+1)]
  grind[zO,mu]
 grind[gB]
termination_by t.length-i
theorem Nd{t:B_}{out:List (List (List B_))}{m:Nat}(i:Nat)(_hi:i<=t.length):L t ⟨out,[],[],[],.out,m⟩ i=v7 t out i:=by
 rw[aaS,v7];have hs:=DQ t i;have c:=Ce (t:=t) i;generalize gB t i=a at hs c
 by_cases b:a<t.length
 ·rw[qcu b];have l:=c b
  by_cases d:out.length=5000
  ·grind[EA,mu]
  ·rw[qai d]
   have n:L t ⟨out,[],[],[],.out,m⟩ a=L t ⟨out,[],[],[],.ins,m⟩ a:=by
    unfold L;rw[lexFrom,lexFrom,qao b,qao b]
    have:mu ⟨out,[],[],[],.out,m⟩ a (at_ t a)=mu ⟨out,[],[],[],.ins,m⟩ a (at_ t a):=by
     simp[mu];rw[qai l,qai d];rfl
    rw[this]
   rw[n];have g:=Ca t a o_;obtain⟨o,v⟩:=Cb t a o_;have h:=UY g.2 (S:=out) a (k:=0) (el:=[]) (f:=pz) (m:=m) rfl g.1 rfl o_ o;rw[show lE t (gy t a) (a::cutAt t (gy t a) 43 a) 0 [] pz=CQ t a from rfl]at h
   by_cases j:(CQ t a).2.e=0
   ·obtain⟨E,C,x,m',p,q⟩:=h.1 j;rw[q];unfold s5
    by_cases r:gy t a=t.length
    ·grind[lP,aaP,Sz]
    ·rw[qai r,qai (by simp[j])]
     have s:gy t a<t.length:=o_
     have u:mu ⟨out,E,C,x,.ins,m'⟩ (gy t a) (at_ t (gy t a))=.ok ⟨out++[E++[C++[x]]],[],[],[],.out,m'⟩:=by
      grind[mu,rT]
     rw[zO s u,p];exact Nd (gy t a+1) o_
   grind[s5,jj]
 ·rw[dif_neg b,aaP o_];rfl
termination_by t.length-i
theorem WL(t:B_):(if 65536<t.length then([],0,3)else v7 t [] 0)=wa t:=by rw[aaM];split;{rfl};exact(Nd 0 (qcK _)).symm
def bb(d:List (List B_))(i:Nat):B_×Bool:=match d[i]? with
 |some [c]=>(c,true)
 |_=>([],false)
def e8(d:List (List B_)):Prop:=(bb d 0).2=true/\(bb d 1).2=true/\(bb d 2).2=true/\d.length=3
noncomputable def sk(done:List Fc)(a:Bool)(d:List (List B_)):List Fc×Bool×Int:=
 if a=false then
  if(bb d 0).1≠P6\/¬e8 d\/¬acU (bb d 1).1\/¬ab2 (bb d 2).1 then(done,false,51)
  else if ∃m∈done,m.ref=(bb d 1).1 then(done,false,53)
  else(done++[⟨(bb d 2).1,(bb d 1).1,[]⟩],true,0)
 else match done.getLast? with
  |none=>(done,true,51)
  |some m=>
   if(bb d 0).1=P6 then(done,true,51)
   else if(bb d 0).1=P7 then
    if ¬e8 d\/(bb d 1).1≠digits (m.Hd.length+2)\/(bb d 2).1≠m.ref then(done,true,52)else(done,false,0)
   else if ¬Y0 (bb d 0).1 then(done,true,50)
   else(done.dropLast++[⟨m.kind,m.ref,m.Hd++[((bb d 0).1,d.drop 1)]⟩],true,0)
theorem Av(h:(bb d 0).1≠P6\/¬e8 d\/¬acU (bb d 1).1\/¬ab2 (bb d 2).1):sk done false d=(done,false,51):=by grind[sk]
theorem aaY(h:¬((bb d 0).1≠P6\/¬e8 d\/¬acU (bb d 1).1\/¬ab2 (bb d 2).1))(h2:∃m∈done,m.ref=(bb d 1).1):sk done false d=(done,false,53):=by grind[sk]
theorem abb(h:¬((bb d 0).1≠P6\/¬e8 d\/¬acU (bb d 1).1\/¬ab2 (bb d 2).1))(h2:¬∃m∈done,m.ref=(bb d 1).1):sk done false d=(done++[⟨(bb d 2).1,(bb d 1).1,[]⟩],true,0):=by grind[sk]
theorem aiX{m:Fc}:sk (done++[m]) true d=if(bb d 0).1=P6 then(done++[m],true,51) else if(bb d 0).1=P7 then if ¬e8 d\/(bb d 1).1≠digits (m.Hd.length+2)\/(bb d 2).1≠m.ref then(done++[m],true,52)else(done++[m],false,0) else if ¬Y0 (bb d 0).1 then(done++[m],true,50) else(done++[⟨m.kind,m.ref,m.Hd++[((bb d 0).1,d.drop 1)]⟩],true,0):=by grind[sk]
def PJ.all(s:PJ):List Fc:=s.out++if s.opn then [s.cur]else []
def PJ.Met(s:PJ):Prop:=s.met=s.all.map (·.ref)
theorem pd(h:(bb d i).2=true):(bb d i).1=cmp d i/\i<d.length/\(d.getD i []).length=1:=by grind[bb,cmp]
theorem Aw(h:i<d.length)(h1:(d.getD i []).length=1):bb d i=(cmp d i,true):=by unfold bb cmp;obtain⟨c,b⟩:∃c,d[i]=[c]:=by{cases e:d[i]with|nil=>simp_all|cons a r=>simp_all};simp_all
theorem q9(h:¬(i<d.length/\(d.getD i []).length=1)):bb d i=([],false):=by grind[bb]
theorem xA:e8 d↔Ol d:=by constructor;{rintro⟨f,g,l,a⟩;refine⟨a,fun e c=>?_⟩;obtain⟨i,m,rfl⟩:=qaI c;have k:∀j,(bb d j).2=true->(b:j<d.length)->d[j].length=1:=fun j h b=>by{grind[pd]};have:i=0\/i=1\/i=2:=o_;rcases this with rfl|rfl|rfl;{simp_all};{simp_all};simp_all};rintro⟨a,h⟩;have k:∀j,j<3->(bb d j).2=true:=fun j b=>by{grind[Aw]};exact⟨k 0 o_,k 1 o_,k 2 o_,a⟩
theorem Cg(h:e8 d):(bb d 0).1=cmp d 0/\(bb d 1).1=cmp d 1/\(bb d 2).1=cmp d 2:=⟨(pd h.1).1,(pd h.2.1).1,(pd h.2.2.1).1⟩
theorem E1:gY d↔(0<d.length/\(d.getD 0 []).length=1):=by grind[gY]
theorem step_eq{s:PJ}(c:s.Met):match lK s d with
  |.ok i=>sk s.all s.opn d=(i.all,i.opn,0)/\i.Met
  |.error e=>sk s.all s.opn d=(s.all,s.opn,e)/\e≠0:=by
 obtain⟨p,j,k,out⟩:=s
 have r:gY d->bb d 0=(cmp d 0,true):=fun h=>by
  grind[E1,Aw]
 have t:¬gY d->bb d 0=([],false):=fun h=>q9 (fun b=>h (E1.2 b))
 have hed:([]:B_)≠P6:=d_
 have u:([]:B_)≠P7:=d_
 have q:¬Y0 []:=fun h=>by have:=h.1;simp_all
 cases j with
 |false=>
  unfold PJ.Met at c;simp only[PJ.all,qaP,qaW,qbw]at c ⊢;unfold sk;simp only[qax];unfold lK
  by_cases l:gY d/\cmp d 0=P6
  ·rw[qao l];unfold aaF;simp only[qaP,false_or]
   have n:(bb d 0).1=P6:=a_
   by_cases a:¬Ol d\/¬acU (cmp d 1)\/¬ab2 (cmp d 2)
   ·rw[qao a];simp only;refine⟨?_,d_⟩;rw[qao]
    by_cases b:e8 d
    ·obtain⟨-,f,g⟩:=Cg b;rw[f,g]
     rcases a with a|a|a
     ·grind[xA]
     ·simp_all
     simp_all
    simp_all
   ·rw[qai a];have b:e8 d:=xA.2 (qaC fun h=>a (Or.inl h));obtain⟨-,f,g⟩:=Cg b
    have v:¬((bb d 0).1≠P6\/¬e8 d\/¬acU (bb d 1).1\/¬ab2 (bb d 2).1):=by
     rw[f,g];rintro(h|h|h|h)
     ·simp_all
     ·simp_all
     ·simp_all
     simp_all
    have w:cmp d 1∈k↔∃m∈out,m.ref=(bb d 1).1:=by
     simp_all
    grind[PJ.all,PJ.Met]
  grind[gY,Dy,rW]
 |true=>
  unfold PJ.Met at c;simp only[PJ.all,qax]at c ⊢;unfold sk;simp only[Bool.true_eq_false,qaW,qa0,qaM,Option.some_or];unfold lK
  by_cases l:gY d/\cmp d 0=P6
  ·grind[aaF]
  ·rw[qai l]
   have n:(bb d 0).1≠P6:=by
    grind[gY]
   rw[qai n]
   by_cases a:gY d/\cmp d 0=P7
   ·rw[qao a]
    have o:(bb d 0).1=P7:=a_
    rw[qao o];unfold Dy;rw[qai s_]
    by_cases b:e8 d
    ·obtain⟨-,f,g⟩:=Cg b
     grind[xA,PJ.all,PJ.Met]
    grind[xA]
   ·rw[qai a]
    have o:(bb d 0).1≠P7:=by
     grind[gY]
    grind[rW,gY,PJ.all,PJ.Met]
theorem UZ{L:List (List (List B_))}:∀{n:Nat} {s:PJ},kU L n=.ok s->s.Met
|0,s,h=>by cases h;rfl
|n+1,s,h=>by rw[kU]at h;split at h;{rename_i a b;have:=step_eq (s:=a) (d:=CG (L.getD n [])) (UZ b);grind};cases h
def SW(d:List (List B_))(i:Nat):B_:=(bb d i).1
def lI(s:B_):Nat->Int
 |0=>0
 |n+1=>lI s n*10+at_ s n-48
def wg(s:B_):Prop:=∀i,i<s.length->48<=at_ s i/\at_ s i<=57
noncomputable def nx(s:B_):Int:=if 1<=s.length/\s.length<=9/\wg s then lI s s.length else-1
noncomputable def pQ(t:B_):Int×Bool×Bool:=(if t=[50,50,71,49]\/t=[50,50,82,49]then 20 else 40,decide (t=[52,53,71,49]\/t=[52,53,82,49]),decide (t.length=4/\at_ t 2=82))
def Ch(size:Int):List Int:=if size=40 then [0]else if size=20 then [1,2]else []
def kV(i size:Int):Nat->List Slot
 |0=>[]
 |t+1=>kV i size t++(Ch size).map fun h=>⟨i,t,h⟩
def su(c:List aL)(size:Int):Nat->List Slot
 |0=>[]
 |i+1=>su c size i++match c[i]? with
  |none=>[]
  |some k=>kV i size k.dv.toNat
def cB(c:List aL)(size:Int):List Slot:=su c size c.length
def Fb(s:B_):Prop:=s.length=7/\wg s/\¬(((at_ s 0-48)*100+(at_ s 1-48)*10+(at_ s 2-48))%4=0\/((at_ s 5-48)*10+(at_ s 6-48))%2=1\/(20<(at_ s 5-48)*10+(at_ s 6-48)/\(at_ s 5-48)*10+(at_ s 6-48)<82))
noncomputable def nI(c:List aL)(v:List bz)(s:B_):Slot×Int:=
 if ¬fo c v then(⟨0,0,0⟩,2)else if ¬Fb s then(⟨0,0,0⟩,80)else match(cB c 20++cB c 40).find? (fun x=>decide ((YX c v x).1=s))with
  |some x=>(x,0)
  |none=>(⟨0,0,0⟩,6)
theorem Jo{x:Slot}{i size:Int}:∀{n:Nat},x∈kV i size n↔x.column=i/\0<=x.ct/\x.ct<n/\x.half∈Ch size
|0=>by grind[kV]
|t+1=>by rw[kV,qav,Jo (n:=t),qaw];constructor;{grind};rintro⟨c,e,f,g⟩;by_cases h:x.ct<t;{simp_all};obtain⟨a,b,d⟩:=x;grind
theorem Nf{c:List aL}{x:Slot}{size:Int}:∀{n:Nat},n<=c.length->(x∈su c size n↔∃i,∃h:i<c.length,i<n/\x.column=(i:Int)/\0<=x.ct/\x.ct<c[i].dv/\x.half∈Ch size)
|0,_=>by simp[su]
|n+1,a=>by rw[su,qav,Nf (n:=n) o_,qag o_];grind[Jo]
theorem pg{c:List aL}{x:Slot}{size:Int}:x∈cB c size↔fy c x size:=by unfold cB;grind[Nf,Ch,fy]
theorem uN.rel{A:B_}{S:List (List (List B_))}{E:List (List B_)}{C:List B_}{m:Nat}{e:U8}{c:B_}{a:Bool}(j:S.length<5000)(g:adq c)(f:e=.ins\/(a=true/\e=.out))(h:uN A ⟨S,E,C,[],e,m⟩):∀{n:Nat},n<=c.length->∃d m',(d=.ins\/(n=0/\d=e))/\uN (A++adh c a n) ⟨S,E,C,c.take n,d,m'⟩
|0,_=>⟨e,m,Or.inr ⟨rfl,rfl⟩,by grind[adh]⟩
|n+1,q=>by obtain⟨d,m',h1,h2⟩:=uN.rel j g f h (n:=n) o_;obtain⟨hl,r⟩:=g;have k:c.take (n+1)=c.take n++[c.getD n 0]:=by{grind[List.take_succ_eq_append_getElem]};have i:((c.getD n 0).toNat:Int)=at_ c n:=rfl;have l:UInt8.ofNat (at_ c n).toNat=c.getD n 0:=by{simp_all[at_]};refine⟨.ins,if ahG (at_ c n)\/(a=true/\n=0/\at_ c n=32)then(A++adh c a n).length else m',Or.inl rfl,?_⟩;rw[adh,k];by_cases hs:ahG (at_ c n)\/(a=true/\n=0/\at_ c n=32);{rw[qao hs,qao hs];have o:uN (A++adh c a n++[63]) ⟨S,E,C,c.take n,.rel,(A++adh c a n).length⟩:=by{refine h2.step ?_;grind[Yq,rT]};have s:=o.step (b:=c.getD n 0) (s':=⟨S,E,C,c.take n++[c.getD n 0],.ins,(A++adh c a n).length⟩) (by rw[i];unfold mu;simp only;rw[qai (by rintro⟨h1,h2⟩;rcases hs with hs|hs;{exact h2 hs};omega)];grind[jo]);simp_all};rw[qai hs,qai hs,qbi,<-qaR];refine h2.step ?_;rw[i];have p:¬ahG (at_ c n):=fun h=>hs (Or.inl h);unfold ahG at p;have u:mu ⟨S,E,C,c.take n,d,m'⟩ (A++adh c a n).length (at_ c n)=rT ⟨S,E,C,c.take n,d,m'⟩ (A++adh c a n).length (at_ c n):=by{rcases h1 with rfl|⟨rfl,rfl⟩;{rfl};rcases f with rfl|⟨rfl,rfl⟩;{rfl};grind[Yq]};grind[rT,jo]
theorem uN.abo{C:List B_}{a:U8}{c:B_}(e:S.length<5000)(f:adq c)(b:a=.ins\/(fst0=true/\a=.out))(h:uN A ⟨S,E,C,[],a,m⟩):∃d m',d≠.rel/\uN (A++adh c fst0 c.length) ⟨S,E,C,c,d,m'⟩:=by obtain⟨d,m',g,i⟩:=h.rel e f b (qak _);grind
theorem uN.elem{A:B_}{S:List (List (List B_))}{E:List (List B_)}{m:Nat}{f:U8}{e:List B_}{fst0:Bool}(g:S.length<5000)(b:adV e)(a:f=.ins\/(fst0=true/\f=.out))(h:uN A ⟨S,E,[],[],f,m⟩):∀{k:Nat},(c:k<e.length)->∃d m',d≠.rel/\uN (A++acR e fst0 (k+1)) ⟨S,E,e.take k,e[k],d,m'⟩
|0,c=>by obtain⟨d,m',h1,h2⟩:=h.abo (fst0:=fst0) g (b.2.2 0 c) a;grind[acR]
|k+1,c=>by obtain⟨i,j,h1,h2⟩:=uN.elem g b a h (k:=k) o_;have n:=b.2.1;have l:uN (A++acR e fst0 (k+1)++[58]) ⟨S,E,e.take (k+1),[],.ins,j⟩:=by{refine h2.step ?_;grind[Yq,rT,List.take_succ_eq_append_getElem]};obtain⟨d,m',o,p⟩:=l.abo (fst0:=fst0&&decide (k+1=0)) g (b.2.2 (k+1) c) (Or.inl rfl);grind[acR]
theorem uN.U0{b:U8}{e:List B_}(g:S.length<5000)(d:adV e)(c:b=.ins\/(fst0=true/\b=.out))(h:uN A ⟨S,E,[],[],b,m⟩):∃C x a m',a≠.rel/\C++[x]=e/\uN (A++acR e fst0 e.length) ⟨S,E,C,x,a,m'⟩:=by have j:=d.1;obtain⟨a,m',i,f⟩:=h.elem (fst0:=fst0) g d c (k:=e.length-1) o_;refine⟨_,_,a,m',i,?_,by rw[show e.length-1+1=e.length by omega]at f;exact f⟩;simp_all
theorem uN.acB{A:B_}{S:List (List (List B_))}{m:Nat}{s:List (List B_)}(d:S.length<5000)(hs:uJ s)(h:uN A ⟨S,[],[],[],.out,m⟩):∀{i:Nat},(b:i<s.length)->∃C x c m',c≠.rel/\C++[x]=s[i]/\uN (A++aA.acB s (i+1)) ⟨S,s.take i,C,x,c,m'⟩
|0,b=>by obtain⟨C,x,c,m',h1,h2,e⟩:=h.U0 (fst0:=true) d (hs.2.2 0 b) (Or.inr ⟨rfl,rfl⟩);grind[aA.acB]
|i+1,b=>by obtain⟨C,x,f,g,h1,h2,e⟩:=uN.acB d hs h (i:=i) o_;have j:=hs.2.1;have k:uN (A++aA.acB s (i+1)++[43]) ⟨S,s.take (i+1),[],[],.ins,g⟩:=by{refine e.step ?_;grind[Yq,rT,List.take_succ_eq_append_getElem]};obtain⟨l,n,c,m',o,p,q⟩:=k.U0 (fst0:=decide (i+1=0)) d (hs.2.2 (i+1) b) (Or.inl rfl);grind[aA.acB]
theorem uN.segG{s:List (List B_)}(b:S.length<5000)(hs:uJ s)(h:uN A ⟨S,[],[],[],.out,m⟩):∃m',uN (A++adX s) ⟨S++[s],[],[],[],.out,m'⟩:=by have c:=hs.1;obtain⟨C,x,d,m',e,f,a⟩:=h.acB b hs (i:=s.length-1) o_;refine⟨m',?_⟩;rw[show s.length-1+1=s.length by omega]at a;unfold adX;rw[<-qaR];refine a.step ?_;simp_all[Yq,rT]
theorem uN.apU{l:List (List (List B_))}(a:l.length<=5000)(h:∀i,(c:i<l.length)->uJ l[i]):∀{n:Nat},n<=l.length->∃m,uN (Uu l n) ⟨l.take n,[],[],[],.out,m⟩
|0,_=>⟨0,uN.nil⟩
|n+1,d=>by obtain⟨m,b⟩:=uN.apU a h (n:=n) o_;obtain⟨m',e⟩:=b.segG g_ (h n o_);grind[Uu,List.take_succ_eq_append_getElem]
theorem WW(h:afv l=(t,0)):wa t=(l,0,0):=by unfold afv at h;split at h;{grind};split at h;{grind};rename_i d a;split at h;{grind};obtain⟨m,hs⟩:=uN.apU (l:=l) o_ (fun i b=>qaC fun c=>a ⟨i,b,c⟩) (qak _);grind[uN,wa]
def Hr(e:List B_):Nat:=(e.map fun c=>c.length+1).sum
def zr(s:List (List B_)):Nat:=(s.map Hr).sum
def LK(l:List (List (List B_))):Nat:=(l.map zr).sum
def F0.sum(s:F0):Nat:=LK s.Hd+zr s.ja+Hr s.aE+s.piece.length
theorem U4{a:F0}(h:rT s i c=.ok a):a.sum<=s.sum+1:=by unfold rT at h;split at h;{cases h;simp[F0.sum,LK,zr,Hr];omega};split at h;{cases h};split at h;{grind[F0.sum,zr,Hr]};split at h;{cases h;simp[F0.sum,LK,zr,Hr];omega};grind[F0.sum,jo]
theorem abp{a:F0}(h:mu s i c=.ok a):a.sum<=s.sum+1:=by unfold mu at h;split at h;{split at h;{simp_all};split at h;{cases h};exact U4 h};{exact U4 h};grind[jo,F0.sum]
theorem Jp{t:B_}:∀{n:Nat} {s:F0},bc t n=.ok s->s.sum<=n
|0,s,h=>by cases h;simp[adp,F0.sum,LK,zr,Hr]
|n+1,s,h=>by rw[bc]at h;split at h;{rename_i b a;have:=Jp a;have:=abp h;omega};cases h
theorem SA{p:Int}(h:wa t=(l,p,e)):LK l<=t.length:=by have a:LK []<=t.length:=by{simp[LK]};unfold wa at h;split at h;{simp_all};split at h;{simp_all};rename_i s hs;have:=Jp hs;split at h;{simp_all};{simp_all};grind[F0.sum]
end Go.aA
