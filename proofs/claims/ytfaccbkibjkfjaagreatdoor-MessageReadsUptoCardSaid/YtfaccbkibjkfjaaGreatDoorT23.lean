import Derived.Test.YtfaccbkibjkfjaaGreatDoorT14
set_option linter.all false
set_option maxRecDepth 100000
set_option maxHeartbeats 1000000
namespace Go.aA
open Go Go.Am Go.Proofs
variable {B:Nat} {a:List Sh} {ps:List PV}
theorem dx{k:IntKind}(h:iR B (.i k::a) ps):∃n r,ps=.int k n::r/\(Lit.int k n).wf=true/\iR B a r:=by simp only[iR,K9]at h;obtain⟨p,r,rfl,⟨n,rfl,b⟩,h⟩:=h;exact⟨n,r,rfl,b,h⟩
theorem Eu(h:iR B (.b::a) ps):∃n r,ps=.bool n::r/\iR B a r:=by simp only[iR,K9]at h;obtain⟨p,r,rfl,⟨n,rfl⟩,h⟩:=h;exact⟨n,r,rfl,h⟩
theorem qe{row b:List Sh}(h:iR B (.l row::b) ps):∃rows a r,ps=.sl rows a::r/\rows.length<=B/\(∀x∈rows,iR B row x)/\iR B b r:=by simp only[iR,K9]at h;obtain⟨p,r,rfl,⟨rows,a,rfl,d,c,e⟩,h⟩:=h;exact⟨rows,a,r,rfl,o_,c,h⟩
theorem kO(h:iR B [] ps):ps=[]:=by simpa only[iR]using h
theorem rowsOf{B:Nat}{c:List Sh}{α:Type}{enc:α->List PV}{Q:α->Prop}(h:∀ps,iR B c ps->∃x,ps=enc x/\Q x):∀{rows:R_},(∀r∈rows,iR B c r)->∃l:List α,rows=l.map enc/\∀x∈l,Q x
|[],_=>⟨[],rfl,fun _ b=>by cases b⟩
|r::rows,d=>by obtain⟨x,rfl,b⟩:=h r (d r s_);obtain⟨l,rfl,hl⟩:=rowsOf h (rows:=rows) (fun y a=>d y (by simp[a]));exact⟨x::l,rfl,fun y a=>by rcases qam.1 a with rfl|a;{exact b};exact hl y a⟩
theorem O5{rows:R_}(h:∀r∈rows,iR B [.i .i64] r):∃l:List Int,rows=ints l:=by obtain⟨l,rfl,-⟩:=rowsOf (enc:=fun p:Int=>[PV.int .i64 p]) (Q:=fun _=>True) (fun ps h=>by obtain⟨n,r,rfl,-,h⟩:=dx h;obtain rfl:=kO h;exact⟨n,rfl,trivial⟩) h;exact⟨l,rfl⟩
abbrev zy:Sh:=.i .i64
abbrev ahW:List Sh:=[zy,zy,.b,zy,zy,zy,zy,zy,.l [zy],zy,zy,zy]
abbrev ahX:List Sh:=[zy,.l [zy]]
abbrev YH:List Sh:=[zy,zy,zy,zy,zy]
abbrev YJ:List Sh:=[zy,zy,zy,zy,zy,.l [zy]]
abbrev O6:List Sh:=[.l ahW,.l ahX,zy,zy,zy,zy,.l YH,.l YH,.l YJ,zy,zy,zy,zy]
theorem aoK(h:iR B ahW ps):∃x:aL,ps=x.enc/\x.cq.length<=B:=by obtain⟨d,_,rfl,-,h⟩:=dx h;obtain⟨e,_,rfl,-,h⟩:=dx h;obtain⟨f,_,rfl,a⟩:=Eu h;replace h:=a;obtain⟨g,_,rfl,-,h⟩:=dx h;obtain⟨i,_,rfl,-,h⟩:=dx h;obtain⟨j,_,rfl,-,h⟩:=dx h;obtain⟨k,_,rfl,-,h⟩:=dx h;obtain⟨m,_,rfl,-,h⟩:=dx h;obtain⟨rows,n,_,rfl,o,p,h⟩:=qe h;obtain⟨q,_,rfl,-,h⟩:=dx h;obtain⟨b,_,rfl,-,h⟩:=dx h;obtain⟨c,_,rfl,-,h⟩:=dx h;obtain rfl:=kO h;obtain⟨l,rfl⟩:=O5 p;exact⟨⟨d,e,f,g,i,j,k,m,l,n,q,b,c⟩,rfl,by simpa[ints]using o⟩
theorem aoL(h:iR B ahX ps):∃x:bz,ps=x.enc/\x.rows.length<=B:=by obtain⟨a,_,rfl,-,h⟩:=dx h;obtain⟨rows,b,_,rfl,c,d,h⟩:=qe h;obtain rfl:=kO h;obtain⟨l,rfl⟩:=O5 d;exact⟨⟨a,l,b⟩,rfl,by simpa[ints]using c⟩
theorem rowOf(h:iR B YH ps):∃x:Row,ps=x.enc/\True:=by obtain⟨a,_,rfl,-,h⟩:=dx h;obtain⟨b,_,rfl,-,h⟩:=dx h;obtain⟨c,_,rfl,-,h⟩:=dx h;obtain⟨d,_,rfl,-,h⟩:=dx h;obtain⟨e,_,rfl,-,h⟩:=dx h;obtain rfl:=kO h;exact⟨⟨a,b,c,d,e⟩,rfl,trivial⟩
theorem aln(h:iR B YJ ps):∃x:fU,ps=x.enc/\x.steps.length<=B:=by obtain⟨a,_,rfl,-,h⟩:=dx h;obtain⟨b,_,rfl,-,h⟩:=dx h;obtain⟨c,_,rfl,-,h⟩:=dx h;obtain⟨d,_,rfl,-,h⟩:=dx h;obtain⟨e,_,rfl,-,h⟩:=dx h;obtain⟨rows,f,_,rfl,g,i,h⟩:=qe h;obtain rfl:=kO h;obtain⟨l,rfl⟩:=O5 i;exact⟨⟨a,b,c,d,e,l,f⟩,rfl,by simpa[ints]using g⟩
theorem alp(h:iR 1048576 O6 ps):∃(c a j b r d f e t g:R_) (k l m n o p q s:Int) (cl:List aL) (vl:List bz) (u v:List Row) (w:List fU),ps=[.sl c a,.sl j b,.i k,.i l,.i m,.i n,.sl r d,.sl f e,.sl t g,.i o,.i p,.i q,.i s]/\DS c j r f t cl vl u v w:=by obtain⟨c,a,_,rfl,y,z,h⟩:=qe h;obtain⟨j,b,_,rfl,A,B,h⟩:=qe h;obtain⟨k,_,rfl,-,h⟩:=dx h;obtain⟨l,_,rfl,-,h⟩:=dx h;obtain⟨m,_,rfl,-,h⟩:=dx h;obtain⟨n,_,rfl,-,h⟩:=dx h;obtain⟨r,d,_,rfl,C,D,h⟩:=qe h;obtain⟨f,e,_,rfl,E,F,h⟩:=qe h;obtain⟨t,g,_,rfl,G,H,h⟩:=qe h;obtain⟨o,_,rfl,-,h⟩:=dx h;obtain⟨p,_,rfl,-,h⟩:=dx h;obtain⟨q,_,rfl,-,h⟩:=dx h;obtain⟨s,_,rfl,-,h⟩:=dx h;obtain rfl:=kO h;obtain⟨cl,rfl,I⟩:=rowsOf (fun ps=>aoK) z;obtain⟨vl,rfl,J⟩:=rowsOf (fun ps=>aoL) B;obtain⟨u,rfl,-⟩:=rowsOf (fun ps=>rowOf) D;obtain⟨v,rfl,-⟩:=rowsOf (fun ps=>rowOf) F;obtain⟨w,rfl,K⟩:=rowsOf (fun ps=>aln) H;simp only[qap]at y A C E G;exact⟨_,a,_,b,_,d,_,e,_,g,k,l,m,n,o,p,q,s,cl,vl,u,v,w,rfl,rfl,rfl,rfl,rfl,rfl,o_,o_,o_,o_,o_,fun x i=>by have:=I x i;omega,fun x i=>by have:=J x i;omega,fun x i=>by have:=K x i;omega⟩
end Go.aA
