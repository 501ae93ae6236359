import Derived.Lib.DecodeNEq
import Derived.Test.YtfaccbkibjkfjaaGreatDoorT10
import Derived.Test.YtfaccbkibjkfjaaGreatDoorT09
set_option linter.all false
set_option maxRecDepth 100000
set_option maxHeartbeats 1000000
namespace Go.aA
section
open Go Go.Am Go.Proofs
variable {l:List bw}
attribute [local irreducible] Am.bp.holds bH fw bP ek
variable {mx:Int}
theorem UA{k i m:Int}(a:m=1000003*(k+7)+i)(b:0<=k)(c:k<2^30)(d:0<=i)(e:i<2^30):pC mx 135 [.i k,.i i] (.i m):=by refine pZ ad8 ?_;(iterate 129 intro _);intro zI aU aV bC bA ag aC;refine gK ?_;refine aX ?_;subst_vars;grind[n9,kT,E3,dy]
theorem KO(v:Nat):Y1 v=1000003*(1+7)+Int.ofNat v:=r_
@[simp] theorem anL:marks.length=12:=by simp[marks]
theorem Ao{k i m:Int}(a:m=1000003*(k+7)+i)(b:0<=k)(c:k<2^30)(d:0<=i)(e:i<2^30):pC mx 58 [.i k,.i i] (.agg [.i m,.str [],.u 0,.bool false,.i 0,.i 0,.i 0,.u 0,.bool false]):=by refine pZ alI ?_;(iterate 129 intro _);intro zI aU aV bC bA ag aC;refine gK ?_;refine pO (UA a b c d e) ?_;refine oW ?_;rfl
theorem KS{rows e:R_}(b:rows=l.map bw.enc)(hl:l.length<2^32):pC mx 17 [.sl rows e] (.sl rows (((List.range 12).map bw.mark).map bw.enc)):=by have a:rows.length=l.length:=by{simp[b]};have f:aK 9 rows:=by{simp_all[Kh,bw.enc]};have g:fS 9 rows:=by{rw[b];exact iX (enc:=bw.enc) (fun _=>⟨rfl,by simp[bw.enc]⟩) l};obtain⟨W,h⟩:∃W,W=((List.range 12).map bw.mark).map bw.enc:=⟨_,rfl⟩;have i:∀v,aK 9 (W.take v):=fun v r b=>Kh (enc:=bw.enc) (n:=9) (fun _=>rfl) ((List.range 12).map bw.mark) r (h▸qbf b);refine pZ alK ?_;(iterate 82 intro _);intro j;(iterate 34 intro _);intro d _ _ _ o _ p _ _ _ _ _ zI aU aV bC bA ag aC;refine gK ?_;refine ae ?_ ?_;{subst_vars;simp;grind[dy]};rw[show j 0 _=[] by subst_vars;rfl];refine gK ?_;refine ae ?_ ?_;{subst_vars;simp[g];omega};rw[show d [] rows=rows by subst_vars;rfl];refine gK ?_;refine bQ [0,3,4] (nn [8,8]) (fun v s=>s.put (some 4) (.pv (.i (Int.ofNat v)))|>.aq 8 (.rows 9 (rows++W.take v) 0)) (12) (fun k=>True) ?_;intro v u w;generalize x:rows++W.take v=cur;refine ej ?_;refine bp.af (fun c=>?_) (fun c=>?_);{refine aY ?_;have q:v<12:=by{subst_vars;simp at c;omega};obtain⟨m,t⟩:∃m,m=1000003*(1+7)+Int.ofNat v:=⟨_,rfl⟩;refine pO (Ao t o_ o_ s_ g_) ?_;refine ae ?_ ?_;{subst_vars;simp[f,a];grind};refine gK ?_;refine aB ⟨q,trivial,?_⟩;rw[show p .i64 (o (Int.ofNat v) 1)=Int.ofNat (v+1) by grind[kY]];rw[show d cur [[.i m,.str [],.u 0,.bool false,.i 0,.i 0,.i 0,.u 0,.bool false]]=rows++W.take (v+1) by subst_vars;simp_all[qan,bw.mark,bw.enc,KO]];rfl};refine aY ?_;refine wW rfl ?_;refine gK ?_;refine ae ?_ ?_;{subst_vars;simp;omega};refine gK ?_;refine aX ?_;subst_vars;simp at c;obtain rfl:v=12:=o_;rw[qbI (l:=((List.range 12).map bw.mark).map bw.enc) s_];simp;grind[List.take_of_length_le]
theorem KT{rows d a:R_}(p:rows=l.map bw.enc)(hl:l.length<2^32):pC mx 71 [.sl rows d,.sl rows a] (.bool true):=by refine pZ Ja ?_;(iterate 121 intro _);intro e _ f _ g _ h _ zI aU aV bC bA ag aC;refine gK ?_;refine bp.af (fun i=>?_) (fun i=>?_);{subst_vars;simp_all};refine JJ [0,1,5] [] (fun v s=>s.put (some 5) (.pv (.i (Int.ofNat v)))) (l.length) (fun k=>True) (Fg.ca [0,1,5] [] rfl r_) ?_;intro v q r;refine ej ?_;refine bp.af (fun j=>?_) (fun j=>?_);{refine aY ?_;have b:v<l.length:=by{subst_vars;simp_all};obtain⟨x,m⟩:∃x,l[v]=x:=⟨_,rfl⟩;have n:h (Int.ofNat v) rows 9:=by{subst_vars;exact aO b rfl};have o:g rows (Int.ofNat v)=[.i x.id,.str x.number,.u x.size,.bool x.high,.i x.cD,.i x.load,.i x.discharge,.u x.cls,.bool x.cK]:=by{rw[<-m];subst_vars;exact aN b};(repeat(refine ae n ?_;rw[o];refine gK ?_));refine bp.af (fun c=>?_) (fun c=>?_);{exfalso;subst_vars;simp[JK]at c};refine ae (by subst_vars;simp[aR]) ?_;refine gK ?_;refine aB ⟨b,trivial,?_⟩;rw[show f .i64 (e (Int.ofNat v) 1)=Int.ofNat (v+1) by grind[kY]];rfl};refine aY ?_;refine wW rfl ?_;refine gK ?_;refine oW ?_;rfl
theorem KU{rows mk E:R_}(F:rows=l.map bw.enc)(h:mk=((List.range 12).map bw.mark).map bw.enc)(hl:l.length<2^32):pC mx 24 [.sl rows mk,.sl rows E] (.bool true):=by have a:rows.length=l.length:=by{simp[F]};have G:mk.length=12:=g_;have X:aK 9 rows:=by{simp_all[Kh,bw.enc]};have H:aK 9 mk:=by{simp_all[Kh,bw.enc]};rcases mk with _|⟨e,mk⟩;{simp_all};refine pZ alL ?_;(iterate 100 intro _);intro i _ _ _ _ _ _ _ I _ _ _ _ _ J t _ K L M O j P c u n y o z zI aU aV bC bA ag aC;refine gK ?_;refine bp.af (fun Q=>?_) (fun Q=>?_);{subst_vars;simp_all};refine aY ?_;have R:c .i64 (j (t rows) 12)=Int.ofNat (l.length+12):=by{rw[<-u,<-P,<-ag];simp[a];grind[dy]};rw[R];generalize Y:l.length+12=N;refine ae ?_ ?_;{rw[<-i];simp[a]at G ⊢;omega};obtain⟨all,p⟩:∃all,all=rows++e::mk:=⟨_,rfl⟩;rw[show I (K rows (e::mk)) 0 (Int.ofNat N)=all by rw[<-J,<-L,p];grind[gX,dj]];have Z:aK 9 all:=a_;refine gK ?_;refine JJ [0,1,5,6] [] (fun v s=>s.put (some 6) (.pv (.i (Int.ofNat v)))) (N) (fun k=>True) (Fg.ca [0,1,5,6] [] rfl r_) ?_;intro v hv hk;refine ej ?_;refine bp.af (fun A=>?_) (fun A=>?_);{refine aY ?_;have B:v<N:=by{subst_vars;simp at A;grind};refine bp.af (fun q=>?_) (fun q=>?_);{have C:v<l.length:=by{rw[<-aC,<-ag]at q;simp_all};obtain⟨x,hx⟩:∃x,l[v]=x:=⟨_,rfl⟩;have d:o (Int.ofNat v) rows 9:=by{subst_vars;exact aO C rfl};have f:n rows (Int.ofNat v)=[.i x.id,.str x.number,.u x.size,.bool x.high,.i x.cD,.i x.load,.i x.discharge,.u x.cls,.bool x.cK]:=by{subst_vars;exact aN C};have S:o (Int.ofNat v) all 9:=by{rw[<-z]at d ⊢;grind[ME]};have T:n all (Int.ofNat v)=[.i x.id,.str x.number,.u x.size,.bool x.high,.i x.cD,.i x.load,.i x.discharge,.u x.cls,.bool x.cK]:=by{rw[<-y]at f ⊢;simp_all};refine aY ?_;refine ae S ?_;rw[T];refine gK ?_;refine ae d ?_;rw[f];refine gK ?_;refine bp.af (fun b=>?_) (fun b=>?_);{refine ae (by subst_vars;simp[aR]) ?_;refine gK ?_;refine bp.af (fun g=>?_) (fun g=>?_);{exfalso;subst_vars;simp at g;omega};refine aY ?_;refine aB ⟨B,trivial,?_⟩;rw[show c .i64 (j (Int.ofNat v) 1)=Int.ofNat (v+1) by grind[kY]];rfl};subst_vars;simp[JK]at b};refine aY ?_;have x7:l.length<=v:=by{rw[<-aC,<-ag]at q;simp_all};refine bp.af (fun g=>?_) (fun g=>?_);{obtain⟨w,r⟩:∃w,w=v-l.length:=⟨_,rfl⟩;have D:w<12:=o_;obtain⟨m,U⟩:∃m,m=1000003*(1+7)+Int.ofNat w:=⟨_,rfl⟩;have V:c .i64 (M (Int.ofNat v) (t rows))=Int.ofNat w:=by{rw[<-u,<-O,<-ag];simp[a];grind[dy]};have Qd:aF.tu (Int.ofNat w) (e::mk) 9:=by{rw[h];exact aO a_ rfl};have W:aF.rat (e::mk) (Int.ofNat w)=[.i m,.str [],.u 0,.bool false,.i 0,.i 0,.i 0,.u 0,.bool false]:=by{grind[aN,bw.mark,bw.enc,KO]};have d:o (Int.ofNat v) all 9:=by{rw[<-z,p];grind[IM]};have f:n all (Int.ofNat v)=[.i m,.str [],.u 0,.bool false,.i 0,.i 0,.i 0,.u 0,.bool false]:=by{rw[<-y,p,H7 o_,a,<-r];exact W};refine aY ?_;refine ae d ?_;rw[f];refine gK ?_;rw[V];refine vZ (Ao U o_ o_ s_ g_) ?_;refine bp.af (fun b=>?_) (fun b=>?_);{refine ae (by subst_vars;simp[aR]) ?_;refine gK ?_;refine aB ⟨B,trivial,?_⟩;rw[show c .i64 (j (Int.ofNat v) 1)=Int.ofNat (v+1) by grind[kY]];rfl};subst_vars;simp[JK]at b};subst_vars;simp_all};refine wW rfl ?_;refine gK ?_;refine oW ?_;rfl
theorem w7{k i m:Int}(a:m=1000003*(k+7)+i)(b:0<=k)(c:k<2^30)(d:0<=i)(e:i<2^30):pC mx 204 [.i k,.i i] (.agg [.i m,.i 0,.i 0,.u 0]):=by refine pZ ad9 ?_;(iterate 129 intro _);intro zI aU aV bC bA ag aC;refine gK ?_;refine pO (UA a b c d e) ?_;refine oW ?_;rfl
theorem Eu{rows e:R_}{l:List aH}(b:rows=l.map aH.enc)(hl:l.length<2^32):pC mx 111 [.sl rows e] (.sl rows (((List.range 12).map aH.mark).map aH.enc)):=by have a:rows.length=l.length:=by{simp[b]};have f:aK 4 rows:=by{simp_all[Kh,aH.enc]};have g:fS 4 rows:=by{rw[b];exact iX (enc:=aH.enc) (fun _=>⟨rfl,by simp[aH.enc]⟩) l};obtain⟨W,h⟩:∃W,W=((List.range 12).map aH.mark).map aH.enc:=⟨_,rfl⟩;have i:∀v,aK 4 (W.take v):=fun v r b=>Kh (enc:=aH.enc) (n:=4) (fun _=>rfl) ((List.range 12).map aH.mark) r (h▸qbf b);refine pZ aea ?_;(iterate 82 intro _);intro j;(iterate 34 intro _);intro d _ _ _ o _ p _ _ _ _ _ zI aU aV bC bA ag aC;refine gK ?_;refine ae ?_ ?_;{subst_vars;simp;grind[dy]};rw[show j 0 _=[] by subst_vars;rfl];refine gK ?_;refine ae ?_ ?_;{subst_vars;simp[g];omega};rw[show d [] rows=rows by subst_vars;rfl];refine gK ?_;refine bQ [0,3,4] (nn [8,8]) (fun v s=>s.put (some 4) (.pv (.i (Int.ofNat v)))|>.aq 8 (.rows 4 (rows++W.take v) 0)) (12) (fun k=>True) ?_;intro v u w;generalize x:rows++W.take v=cur;refine ej ?_;refine bp.af (fun c=>?_) (fun c=>?_);{refine aY ?_;have q:v<12:=by{subst_vars;simp at c;omega};obtain⟨m,t⟩:∃m,m=1000003*(1+7)+Int.ofNat v:=⟨_,rfl⟩;refine pO (w7 t o_ o_ s_ g_) ?_;refine ae ?_ ?_;{subst_vars;simp[f,a];grind};refine gK ?_;refine aB ⟨q,trivial,?_⟩;rw[show p .i64 (o (Int.ofNat v) 1)=Int.ofNat (v+1) by grind[kY]];rw[show d cur [[.i m,.i 0,.i 0,.u 0]]=rows++W.take (v+1) by subst_vars;simp_all[qan,aH.mark,aH.enc,KO]];rfl};refine aY ?_;refine wW rfl ?_;refine gK ?_;refine ae ?_ ?_;{subst_vars;simp;omega};refine gK ?_;refine aX ?_;subst_vars;simp at c;obtain rfl:v=12:=o_;rw[qbI (l:=((List.range 12).map aH.mark).map aH.enc) s_];simp;grind[List.take_of_length_le]
theorem Ew{rows d a:R_}{l:List aH}(p:rows=l.map aH.enc)(hl:l.length<2^32):pC mx 72 [.sl rows d,.sl rows a] (.bool true):=by refine pZ Jb ?_;(iterate 121 intro _);intro e _ f _ g _ h _ zI aU aV bC bA ag aC;refine gK ?_;refine bp.af (fun i=>?_) (fun i=>?_);{subst_vars;simp_all};refine JJ [0,1,5] [] (fun v s=>s.put (some 5) (.pv (.i (Int.ofNat v)))) (l.length) (fun k=>True) (Fg.ca [0,1,5] [] rfl r_) ?_;intro v q r;refine ej ?_;refine bp.af (fun j=>?_) (fun j=>?_);{refine aY ?_;have b:v<l.length:=by{subst_vars;simp_all};obtain⟨x,m⟩:∃x,l[v]=x:=⟨_,rfl⟩;have n:h (Int.ofNat v) rows 4:=by{subst_vars;exact aO b rfl};have o:g rows (Int.ofNat v)=[.i x.box,.i x.slot.column,.i x.slot.ct,.u x.slot.half]:=by{rw[<-m];subst_vars;exact aN b};(repeat(refine ae n ?_;rw[o];refine gK ?_));refine bp.af (fun c=>?_) (fun c=>?_);{exfalso;subst_vars;simp[JK]at c};refine ae (by subst_vars;simp[aR]) ?_;refine gK ?_;refine aB ⟨b,trivial,?_⟩;rw[show f .i64 (e (Int.ofNat v) 1)=Int.ofNat (v+1) by grind[kY]];rfl};refine aY ?_;refine wW rfl ?_;refine gK ?_;refine oW ?_;rfl
theorem Ey{rows mk E:R_}{l:List aH}(F:rows=l.map aH.enc)(h:mk=((List.range 12).map aH.mark).map aH.enc)(hl:l.length<2^32):pC mx 117 [.sl rows mk,.sl rows E] (.bool true):=by have a:rows.length=l.length:=by{simp[F]};have G:mk.length=12:=g_;have X:aK 4 rows:=by{simp_all[Kh,aH.enc]};have H:aK 4 mk:=by{grind[Kh,aH.enc]};rcases mk with _|⟨e,mk⟩;{simp_all};refine pZ aei ?_;(iterate 100 intro _);intro i _ _ _ _ _ _ _ I _ _ _ _ _ J t _ K L M O j P c u n y o z zI aU aV bC bA ag aC;refine gK ?_;refine bp.af (fun Q=>?_) (fun Q=>?_);{subst_vars;simp_all};refine aY ?_;have R:c .i64 (j (t rows) 12)=Int.ofNat (l.length+12):=by{rw[<-u,<-P,<-ag];simp[a];grind[dy]};rw[R];generalize Y:l.length+12=N;refine ae ?_ ?_;{rw[<-i];simp[a]at G ⊢;omega};obtain⟨all,p⟩:∃all,all=rows++e::mk:=⟨_,rfl⟩;rw[show I (K rows (e::mk)) 0 (Int.ofNat N)=all by rw[<-J,<-L,p];grind[gX,dj]];have Z:aK 4 all:=a_;refine gK ?_;refine JJ [0,1,5,6] [] (fun v s=>s.put (some 6) (.pv (.i (Int.ofNat v)))) (N) (fun k=>True) (Fg.ca [0,1,5,6] [] rfl r_) ?_;intro v hv hk;refine ej ?_;refine bp.af (fun A=>?_) (fun A=>?_);{refine aY ?_;have B:v<N:=by{subst_vars;simp at A;grind};refine bp.af (fun q=>?_) (fun q=>?_);{have C:v<l.length:=by{rw[<-aC,<-ag]at q;simp_all};obtain⟨x,hx⟩:∃x,l[v]=x:=⟨_,rfl⟩;have d:o (Int.ofNat v) rows 4:=by{subst_vars;exact aO C rfl};have f:n rows (Int.ofNat v)=[.i x.box,.i x.slot.column,.i x.slot.ct,.u x.slot.half]:=by{subst_vars;exact aN C};have S:o (Int.ofNat v) all 4:=by{rw[<-z]at d ⊢;grind[ME]};have T:n all (Int.ofNat v)=[.i x.box,.i x.slot.column,.i x.slot.ct,.u x.slot.half]:=by{rw[<-y]at f ⊢;simp_all};refine aY ?_;refine ae S ?_;rw[T];refine gK ?_;refine ae d ?_;rw[f];refine gK ?_;refine bp.af (fun b=>?_) (fun b=>?_);{refine ae (by subst_vars;simp[aR]) ?_;refine gK ?_;refine bp.af (fun g=>?_) (fun g=>?_);{exfalso;subst_vars;simp at g;omega};refine aY ?_;refine aB ⟨B,trivial,?_⟩;rw[show c .i64 (j (Int.ofNat v) 1)=Int.ofNat (v+1) by grind[kY]];rfl};subst_vars;simp[JK]at b};refine aY ?_;have x7:l.length<=v:=by{rw[<-aC,<-ag]at q;simp_all};refine bp.af (fun g=>?_) (fun g=>?_);{obtain⟨w,r⟩:∃w,w=v-l.length:=⟨_,rfl⟩;have D:w<12:=o_;obtain⟨m,U⟩:∃m,m=1000003*(1+7)+Int.ofNat w:=⟨_,rfl⟩;have V:c .i64 (M (Int.ofNat v) (t rows))=Int.ofNat w:=by{rw[<-u,<-O,<-ag];simp[a];grind[dy]};have Qd:aF.tu (Int.ofNat w) (e::mk) 4:=by{rw[h];exact aO a_ rfl};have W:aF.rat (e::mk) (Int.ofNat w)=[.i m,.i 0,.i 0,.u 0]:=by{grind[aN,aH.mark,aH.enc,KO]};have d:o (Int.ofNat v) all 4:=by{rw[<-z,p];grind[IM]};have f:n all (Int.ofNat v)=[.i m,.i 0,.i 0,.u 0]:=by{rw[<-y,p,H7 o_,a,<-r];exact W};refine aY ?_;refine ae d ?_;rw[f];refine gK ?_;rw[V];refine vZ (w7 U o_ o_ s_ g_) ?_;refine bp.af (fun b=>?_) (fun b=>?_);{refine ae (by subst_vars;simp[aR]) ?_;refine gK ?_;refine aB ⟨B,trivial,?_⟩;rw[show c .i64 (j (Int.ofNat v) 1)=Int.ofNat (v+1) by grind[kY]];rfl};subst_vars;simp[JK]at b};subst_vars;simp_all};refine wW rfl ?_;refine gK ?_;refine oW ?_;rfl
structure ShipOK(c v r f t:R_)(cl:List aL)(vl:List bz)(rl fl:List Row)(tl:List zX):Prop where
 c:c=cl.map aL.enc
 v:v=vl.map bz.enc
 r:r=rl.map Row.enc
 f:f=fl.map Row.enc
 t:t=tl.map zX.enc
 cn:cl.length<2^32
 vn:vl.length<2^32
 rn:rl.length<2^32
 fn:fl.length<2^32
 tn:tl.length<2^32
 cp:∀x∈cl,x.cq.length<2^32
 vp:∀x∈vl,x.rows.length<2^32
 tp:∀x∈tl,x.steps.length<2^32
structure LentOK(C CM V VM RM FM T TM:R_)(cl:List aL)(vl:List bz)(tl:List zX):Prop where
 c:C=(cl.map aL.cV).map aL.enc
 cm:CM=((List.range 12).map aL.mark).map aL.enc
 v:V=(vl.map bz.cV).map bz.enc
 vm:VM=((List.range 12).map bz.mark).map bz.enc
 rm:RM=((List.range 12).map Row.aoa).map Row.enc
 fm:FM=((List.range 12).map Row.aob).map Row.enc
 t:T=(tl.map zX.cV).map zX.enc
 tm:TM=((List.range 12).map zX.mark).map zX.enc
end
open Go Go.Am
section
open Classical
variable {P:Prop} {r:Bool}
theorem tr{_i:Decidable P}(a:r=decide P)(h:P):some (PV.bool true)=some (PV.bool r):=a_
theorem fa{_i:Decidable P}(a:r=decide P)(h:¬P):some (PV.bool false)=some (PV.bool r):=a_
def at_(s:B_)(i:Nat):Int:=((s.getD i 0).toNat:Int)
theorem wm(s:B_)(i:Nat):0<=at_ s i/\at_ s i<256:=⟨by grind[at_],by unfold at_;have:=(s.getD i 0).toNat_lt;omega⟩
def yH(p:B_):Prop:=p.length=5/\∀i,i<p.length->65<=at_ p i/\at_ p i<=90
def ra(s:B_):Prop:=∀i,i<s.length->if i<3 then 65<=at_ s i/\at_ s i<=90 else if i=3 then at_ s i=85\/at_ s i=74\/at_ s i=90 else 48<=at_ s i/\at_ s i<=57
def val(b:Int):Int:=if b<=57 then b-48 else 10+(b-65)+(b-65+9)/10
def summed(s:B_):Nat->Int
 |0=>0
 |n+1=>summed s n+val (at_ s n)*2^n
def hU(s:B_):Prop:=s.length=11/\ra s/\at_ s 10-48=summed s 10%11%10
def most(size:Int):Int:=if size=20 then 32000 else if size=40 then 40000 else 0
def iL(b:bw):Prop:=(1<=b.id/\b.id<=999999)/\(b.number=[]\/hU b.number)/\(b.high=true->b.size=40)/\(1<=b.cD/\b.cD<=most b.size)/\(0<=b.load/\b.load<b.discharge/\b.discharge<20)/\b.cls<=9
def nf(l:List bw)(i:Nat):Prop:=∀h:i<l.length,iL l[i]/\(∀k,(a:k<i)->(l[i].number≠[]->l[k].number≠l[i].number))/\(i≠0->∀a:i-1<l.length,l[i-1].id<l[i].id)
def wo(l:List bw):Prop:=l.length<=2000/\∀i,i<l.length->nf l i
def lG(b:bw)(k:Int):Prop:=b.load<=k/\k<b.discharge
def aaU(b:bw):B_×Int:=
 if b.size=20/\b.high=false then(if b.cK then [50,50,82,49]else [50,50,71,49],0)
 else if b.size=40 then(if b.high then(if b.cK then [52,53,82,49]else [52,53,71,49])else(if b.cK then [52,50,82,49]else [52,50,71,49]),0)
 else([],60)
def rb(c:aL)(i:Nat):Prop:=0<=c.cq.getD i 0/\c.cq.getD i 0<c.dv/\(i=0\/c.cq.getD (i-1) 0<c.cq.getD i 0)
def In(n a b:Int):Prop:=a<=n/\n<=b
def fX(c:aL):Prop:=(∀i,i<c.cq.length->rb c i)/\In c.bay 0 39/\In c.row 0 30/\In c.dv 1 10/\In c.ko 0 40000/\In c.tT 0 500000000/\In c.tU 0 500000000/\In c.kj 0 1000000000000/\In c.x (-500000) 500000/\In c.y (-500000) 500000/\In c.z (-500000) 500000
def Je(a b:aL):Prop:=¬(a.bay=b.bay/\a.row=b.row/\a.deck=b.deck)
def qA(x:bz)(i:Nat):Prop:=0<=x.rows.getD i 0/\x.rows.getD i 0<=30/\(i=0\/x.rows.getD (i-1) 0<x.rows.getD i 0)
def iM(x:bz):Prop:=In x.bay 0 39/\x.rows≠[]/\∀i,i<x.rows.length->qA x i
def fo(c:List aL)(v:List bz):Prop:=(1<=c.length/\c.length<=200/\v.length<=40)/\(∀i,(h:i<c.length)->fX c[i]/\∀k,(a:k<i)->Je c[k] c[i])/\
 (∀i,(h:i<v.length)->iM v[i]/\∀k,(a:k<i)->v[k].bay=v[i].bay->∀r,r∈v[i].rows->r∉v[k].rows)
def fy(c:List aL)(x:Slot)(size:Int):Prop:=(0<=x.column/\x.column<c.length/\0<=x.ct/\∀h:x.column.toNat<c.length,x.ct<c[x.column.toNat].dv)/\((size=40/\x.half=0)\/(size=20/\(x.half=1\/x.half=2)))
def pj(a b:Int):Prop:=a=b\/a=0\/b=0
def zV(a b:Slot):Prop:=a.column=b.column/\a.ct=b.ct/\pj a.half b.half
def Has(l:List Slot)(x:Slot)(a:Int):Prop:=∃i,∃h:i<l.length,l[i].column=x.column/\l[i].ct=x.ct-1/\l[i].half=a
def Va(x:Slot)(l:List Slot):Prop:=x.ct<=0\/Has l x x.half\/(x.half=0/\Has l x 1/\Has l x 2)
def CF(n:Int):UInt8:=UInt8.ofNat (48+(n%10).toNat)
noncomputable def YX(c:List aL)(v:List bz)(x:Slot):B_×Int:=
 if ¬fo c v then([],2)else if ¬fy c x 20/\¬fy c x 40 then([],6)
 else match c[x.column.toNat]? with
  |none=>([],6)
  |some k=>
   let n:=4*k.bay+(if x.half=0 then 2 else if x.half=1 then 1 else 3)
   let t:=(2*(x.ct+1)+if k.deck then 80 else 0)%100
   ([CF (n/100),CF (n/10),CF n,CF (k.row/10),CF k.row,CF (t/10),CF t],0)
def ku(l:List bw)(id:Int):Option bw:=l.find? (fun b=>decide (b.id=id))
def DM(b:bw):Int:=if b.high then 2896 else 2591
noncomputable def iJ(boxes:List bw)(l:List aH)(a c:Int):Nat->Int
 |0=>0
 |n+1=>iJ boxes l a c n+match l[n]? with
  |none=>0
  |some x=>if x.slot.column=a/\(x.slot.half=c\/x.slot.half=0)then(match ku boxes x.box with|some b=>DM b|none=>0)else 0
noncomputable def ko(boxes:List bw)(l:List aH)(a b:Int):Int:=iJ boxes l a b l.length
def Fits(c:aL)(boxes:List bw)(l:List aH)(i:Int):Prop:=c.ko<=0\/(ko boxes l i 1<=c.ko/\ko boxes l i 2<=c.ko)
def pk(c:List aL)(boxes:List bw)(l:List aH)(i:Nat):Prop:=∀h:i<l.length,(∃b,ku boxes l[i].box=some b/\fy c l[i].slot b.size)/\Va l[i].slot (l.map (·.slot))/\∀k,(a:k<i)->l[k].box<l[i].box/\¬zV l[k].slot l[i].slot
def gC(c:List aL)(v:List bz)(boxes:List bw)(l:List aH):Prop:=fo c v/\(∀i,i<l.length->pk c boxes l i)/\∀i,(h:i<c.length)->Fits c[i] boxes l i
def abJ(c:List aL)(v:List bz)(call:Int)(a:B_)(boxes:List bw)(l:List aH):Prop:=
 (0<=call/\call<20)/\yH a/\boxes.length=l.length/\wo boxes/\gC c v boxes l/\∀i,(h:i<boxes.length)->lG boxes[i] call
def adq(c:B_):Prop:=c.length<=100/\∀i,i<c.length->32<=at_ c i/\at_ c i<=126
def adV(e:List B_):Prop:=1<=e.length/\e.length<=10/\∀i,(h:i<e.length)->adq e[i]
def uJ(s:List (List B_)):Prop:=1<=s.length/\s.length<=30/\∀i,(h:i<s.length)->adV s[i]
structure Seg where
 tag:B_
 data:List (List B_)
structure Message where
 kind:B_
 ref:B_
 Hd:List Seg
def adI(s:B_):Prop:=∀i,i<s.length->65<=at_ s i/\at_ s i<=90
def Y0(s:B_):Prop:=s.length=3/\adI s/\s≠[72,69,68]/\s≠[69,78,68]
def ab2(s:B_):Prop:=s.length=6/\adI s
def acU(s:B_):Prop:=1<=s.length/\s.length<=14/\∀i,i<s.length->(65<=at_ s i/\at_ s i<=90)\/(48<=at_ s i/\at_ s i<=57)
def adf(m:Message):Prop:=ab2 m.kind/\acU m.ref/\∀i,(h:i<m.Hd.length)->Y0 m.Hd[i].tag/\uJ ([m.Hd[i].tag]::m.Hd[i].data)
def Jf:List B_->List B_
 |[]=>[[]]
 |c::r=>c::(r.reverse.dropWhile (fun x=>x.isEmpty)).reverse
def CG(d:List (List B_)):List (List B_):=((d.map Jf).reverse.dropWhile (fun e=>e==[[]])).reverse
def digits(n:Nat):B_:=if h:n<10 then [UInt8.ofNat (48+n)]else digits (n/10)++[UInt8.ofNat (48+n%10)]
termination_by n
def abH:B_:=[66,65,89,80,76,78]
end
section
variable {s:B_} {v:Nat}
theorem VS{n:Nat}{a b:Nat->Int}(s:∀i,i+1<n->a i<a (i+1))(t:∀i,i+1<n->b i<b (i+1))(h:∀i,i<n->∃j,j<n/\b j=a i):∀i,i<n->a i=b i:=by have mono:∀(c:Nat->Int),(∀i,i+1<n->c i<c (i+1))->∀i j,i<j->j<n->c i<c j:=by{intro c x i j y f;induction j with|zero=>omega|succ j g=>grind};have u:∀i,i<n->∀j,j<n->b j=a i->i<=j:=by{intro i;induction i with|zero=>omega|succ i g=>intro l j f o;obtain⟨d,m,p⟩:=h i o_;have w:=g o_ d m p;have v:=s i l;by_cases q:j<=d;{exfalso;have:b j<=b d:=by{by_cases e:j=d;{simp_all};have:=mono b t j d o_ m;omega};omega};omega};have r:∀k i,i+k+1=n->∀j,j<n->b j=a i->j<=i:=by{intro k;induction k with|zero=>omega|succ k g=>intro i l j f o;obtain⟨d,m,p⟩:=h (i+1) o_;have w:=g (i+1) o_ d m p;have v:=s i o_;by_cases q:d<=j;{exfalso;have:b d<=b j:=by{by_cases e:d=j;{simp_all};have:=mono b t d j o_ f;omega};omega};omega};intro i l;obtain⟨j,f,o⟩:=h i l;have v:=r (n-1-i) i o_ j f o;grind
theorem JS:∃n a b c,Utf8.decode (⟨s.toArray⟩:ByteArray) v=Lib.decodeN n (s.getD v 0).toNat a b c:=by have e:(⟨s.toArray⟩:ByteArray).get! v=s.getD v 0:=by{show s.toArray[v]! =_;simp;rfl};exact⟨_,_,_,_,by rw[Lib.decode_at,e]⟩
theorem re(a:at_ s v<128):aF.rune s v=at_ s v/\aF.C0 s v=1:=by obtain⟨n,b,c,d,h⟩:=JS (s:=s) (v:=v);grind[at_,Lib.decodeN,aF]
theorem JT(d:128<=at_ s v):128<=aF.rune s v:=by obtain⟨n,a,b,c,h⟩:=JS (s:=s) (v:=v);have f:¬(s.getD v 0).toNat<128:=by{grind[at_]};have e:128<=(Lib.decodeN n (s.getD v 0).toNat a b c).1:=by{grind[Lib.decodeN]};grind[aF]
theorem Zx{n:Int}(a:0<=n)(h1:n<256):IntKind.wrap .u8 n=n:=by have b:(2:Int)^IntKind.u8.bits=256:=d_;unfold IntKind.wrap;simp only[b];rw[Int.emod_eq_of_lt a h1,qai (by simp[IntKind.signed])]
def acp(c:B_):List PV:=[.str c]
def strs(a:List B_):R_:=a.map acp
abbrev Elem:=List B_×R_
def acV(e:Elem):List PV:=[.sl (strs e.1) e.2]
def aeP(d:B_):List PV:=[.sl [acp d] []]
end
section
open Classical
variable {cl:List aL} {vl:List bz} {α:Type}
abbrev Key:=Int×Int×Int
section
variable {k:Key} {ks:List Key} {m r:List (Key×Nat)} {x:Key×Nat}
def ic(k:Key):List PV:=[.i k.1,.i k.2.1,.i k.2.2]
def Ae(x:Key×Nat):List PV:=[.i x.1.1,.i x.1.2.1,.i x.1.2.2,.i (Int.ofNat x.2)]
def eh(m:List (Key×Nat)):R_:=m.map Ae
def bump:List (Key×Nat)->Key->List (Key×Nat)
 |[],k=>[(k,1)]
 |(a,n)::r,k=>if k=a then(a,n+1)::r else(a,n)::bump r k
def sG:List (Key×Nat)->Key->Nat
 |[],_=>0
 |(a,n)::r,k=>if k=a then n else sG r k
def jm(a:List Key):List (Key×Nat):=a.foldl bump []
theorem Jh(a:List Key)(k:Key):jm (a++[k])=bump (jm a) k:=by grind[jm]
theorem F6(k:Key)(x:Key×Nat):JK (ic k) ((Ae x).take 3)=decide (k=x.1):=by grind[ic,Ae,JK]
theorem ak5{k:Key}:∀{m:List (Key×Nat)},aF.xJ 3 (eh m) (ic k) [.i 0]=.i (Int.ofNat (sG m k))
|[]=>r_
|(b,n)::r=>by have a:=ak5 (k:=k) (m:=r);simp only[aF,jy,eh,qaj,qbv,F6]at a ⊢;grind[sG,Ae]
theorem EG(f:α->α)(a:α)(l:List α)(i:Nat):(a::l).modify (i+1) f=a::l.modify i f:=s_
theorem Cn:dQ 3 (eh (x::r)) (ic k)=(decide (k=x.1)||dQ 3 (eh r) (ic k)):=by grind[dQ,eh,F6]
theorem DY:gZ 3 (eh (x::r)) (ic k)=if k=x.1 then 0 else gZ 3 (eh r) (ic k)+1:=by grind[gZ,eh,F6]
def setRow(rows:R_)(k:Key)(n:Nat):R_:=((match dQ 3 rows (ic k)with|true=>rows|false=>rows++[ic k++[PV.int .i64 0]]).modify (gZ 3 rows (ic k)) (fun r=>r.take 3++[PV.int .i64 (Int.ofNat n)]))
theorem yJ{k:Key}:∀{m:List (Key×Nat)},setRow (eh m) k (sG m k+1)=eh (bump m k)
|[]=>r_
|(a,n)::r=>by have b:=yJ (k:=k) (m:=r);unfold setRow at b ⊢;rw[Cn,DY];by_cases h:k=a;{grind[bump,sG,eh,Ae]};simp only[h,decide_false,Bool.false_or,qaW,sG,bump];have c:(match dQ 3 (eh r) (ic k)with|true=>eh ((a,n)::r)|false=>eh ((a,n)::r)++[ic k++[PV.int .i64 0]])=Ae (a,n)::(match dQ 3 (eh r) (ic k)with|true=>eh r|false=>eh r++[ic k++[PV.int .i64 0]]):=by{grind[eh]};refine qdC (congrArg (fun z=>List.modify z _ _) c) ?_;rw[EG,b];rfl
theorem Vk:aF.PT 3 (aF.sK 3 (eh m) (ic k) [.i 0]) (aF.mix 3 (eh m) (ic k)) [.i (Int.ofNat (sG m k+1))]=eh (bump m k):=yJ
theorem aaW:aF.CZ [1,1,1] 3 (eh m) (ic k):=by refine⟨rfl,by simp[aR,ic],fun r a=>?_⟩;obtain⟨x,_,rfl⟩:=qaw.1 a;simp[aR,ic,Ae]
theorem aaX:aF.min1 (aF.mix 3 (eh m) (ic k)) (aF.sK 3 (eh m) (ic k) [.i 0]):=by grind[aF,dQ,gZ]
theorem Co{k k':Key}:∀{m:List (Key×Nat)},sG (bump m k) k'=sG m k'+if k'=k then 1 else 0
|[]=>by simp[bump,sG]
|(q,n)::r=>by have a:=Co (k:=k) (k':=k') (m:=r);grind[bump,sG]
theorem wz{k:Key}:∀{m:List (Key×Nat)},(bump m k).map Prod.fst=if k∈m.map Prod.fst then m.map Prod.fst else m.map Prod.fst++[k]
|[]=>by simp[bump]
|(q,n)::r=>by have a:=wz (k:=k) (m:=r);grind[bump]
theorem Af{motive:List α->Prop}(b:motive [])(h1:∀l a,motive l->motive (l++[a]))(l:List α):motive l:=by rw[<-List.reverse_reverse l];induction l.reverse with|nil=>exact b|cons a r c=>simp_all
theorem tf:∀{a:List Key},sG (jm a) k=a.count k:=by intro a;refine Af (motive:=fun a=>sG (jm a) k=List.count k a) ?_ (fun a q b=>?_) a;{rfl};grind[Jh,Co]
theorem Hj:∀{a:List Key},((jm a).map Prod.fst).Nodup:=by intro a;refine Af (motive:=fun a=>((jm a).map Prod.fst).Nodup) ?_ (fun a q b=>?_) a;{simp[jm]};grind[Jh,wz]
theorem F7{x:Key×Nat}:∀{m:List (Key×Nat)},(m.map Prod.fst).Nodup->x∈m->sG m x.1=x.2
|[],_,h=>g_
|(q,n)::r,a,h=>by simp only[qaj,qdw]at a;rcases qam.1 h with h|h;{grind[sG]};have:x.1≠q:=fun e=>a.1 (e▸qbP h);simp[sG,qai this];exact F7 a.2 h
theorem F8{k:Key}:∀{m:List (Key×Nat)},0<sG m k->(k,sG m k)∈m
|[],h=>by grind[sG]
|(q,n)::r,h=>by simp only[sG]at h ⊢;by_cases e:k=q;{simp_all};simp only[qai e]at h ⊢;exact qaE _ (F8 h)
theorem once:(∀x∈jm ks,x.2<=1)↔ks.Nodup:=by rw[List.nodup_iff_count];constructor;{intro h k;rw[<-tf];grind[F8]};intro h x a;rw[<-F7 Hj a,tf];simp_all
theorem Vl:sG (jm ks) k<=ks.length:=by grind[tf]
def pw(x:aL):Key:=(x.bay,x.row,if x.deck then 1 else 0)
def j7(x:bz):List Key:=x.rows.map fun r=>(x.bay,r,2)
theorem yK{a b:aL}:pw a≠pw b↔Je a b:=by grind[pw,Je]
theorem DZ:(cl.map pw).Nodup↔∀i,(h:i<cl.length)->∀k,(a:k<i)->Je cl[k] cl[i]:=by grind[List.pairwise_iff_getElem,yK]
theorem rising{x:bz}(h:∀i,i<x.rows.length->qA x i):∀(j i:Nat),i<j->j<x.rows.length->x.rows.getD i 0<x.rows.getD j 0
|0,i,a,_=>o_
|j+1,i,a,b=>by have h1:=(h (j+1) b).2.2;simp only[qbp]at h1;by_cases e:i=j;{simp_all};have:=rising h j i o_ o_;omega
theorem rows_nodup{x:bz}(h:∀i,i<x.rows.length->qA x i):x.rows.Nodup:=by unfold List.Nodup;rw[qaU];intro i j c a b e;have:=rising h j i b a;simp_all
theorem ac8(e:∀i,(h:i<vl.length)->iM vl[i]):(vl.flatMap j7).Nodup↔∀i,(h:i<vl.length)->∀k,(d:k<i)->vl[k].bay=vl[i].bay->∀r,r∈vl[i].rows->r∉vl[k].rows:=by unfold List.Nodup;rw[List.pairwise_flatMap,qaU];constructor;{rintro⟨-,h⟩ i c k d f r j l;have:=h k i o_ c d (vl[k].bay,r,2) (by grind[j7]) (vl[i].bay,r,2) (by grind[j7]);simp_all};intro h;refine⟨fun x g=>?_,fun k i d c m a n b f=>?_⟩;{obtain⟨i,c,rfl⟩:=qaI g;have:=rows_nodup (e i c).2.2;grind[j7]};grind[j7]
def kB(cl:List aL)(vl:List bz):List Key:=cl.map pw++vl.flatMap j7
theorem D1(b:∀i,(h:i<vl.length)->iM vl[i]):(kB cl vl).Nodup↔(∀i,(h:i<cl.length)->∀k,(a:k<i)->Je cl[k] cl[i])/\∀i,(h:i<vl.length)->∀k,(a:k<i)->vl[k].bay=vl[i].bay->∀r,r∈vl[i].rows->r∉vl[k].rows:=by unfold kB;grind[DZ,ac8,j7,pw]
theorem J2(hl:1<=cl.length/\cl.length<=200/\vl.length<=40)(a:∀i,(h:i<cl.length)->fX cl[i])(b:∀i,(h:i<vl.length)->iM vl[i]):fo cl vl↔(kB cl vl).Nodup:=by grind[D1,fo]
end
end
structure cT where
 port:B_
 at_:Int
 dr:Int
def cT.enc(c:cT):List PV:=[.str c.port,.i c.at_,.i c.dr]
def cT.mark(i:Nat):cT:=⟨[],Y1 i,0⟩
structure Stat where
 l:List aH
 sp:R_
def Stat.enc(c:Stat):List PV:=[.sl (c.l.map aH.enc) c.sp]
def Stat.cV(c:Stat):Stat:=⟨c.l,((List.range 12).map aH.mark).map aH.enc⟩
def Stat.mark(i:Nat):Stat:=⟨[aH.mark i],[]⟩
structure Wat where
 l:List Int
 sp:R_
def Wat.enc(c:Wat):List PV:=[.sl (ints c.l) c.sp]
def Wat.cV(c:Wat):Wat:=⟨c.l,ints marks⟩
def Wat.mark(i:Nat):Wat:=⟨[Y1 i],[]⟩
open Classical
structure Place where
 bay:Int
 row:Int
 dv:Int
 deck:Bool
def Place.enc(p:Place):List PV:=[.u p.bay,.u p.row,.u p.dv,.bool p.deck]
structure Item where
 rk:Int
 cD:Int
 load:Int
 stay:Int
 small:Bool
 high:Bool
def Item.enc(p:Item):List PV:=[.u p.rk,.u p.cD,.u p.load,.u p.stay,.bool p.small,.bool p.high]
def Ob(c:aL)(b row:Int)(a:Bool):Prop:=c.bay=b/\c.row=row/\c.deck=a
def nP(l:List aH)(x:aH):List aH:=l.filter (fun y=>decide (y.box<x.box))++[x]++l.filter (fun y=>decide (x.box<y.box))
def Gk(l:List aH)(id:Int):Prop:=∃y∈l,y.box=id
def wP(l:List aH)(id:Int):Option Slot:=(l.find? (fun y=>decide (y.box=id))).map (·.slot)
def aap(size:Int):List Int:=if size=40 then [0]else if size=20 then [1,2]else []
def l9(size:Int)(c:Nat)(x:aL):List Slot:=(List.range x.dv.toNat).flatMap fun t:Nat=>(aap size).map fun h=>⟨(c:Int),(t:Int),h⟩
def slotsOf(cl:List aL)(size:Int):List Slot:=(cl.mapIdx (l9 size)).flatten
section
variable (cl:List aL) (vl:List bz) (boxes:List bw)
noncomputable def kq(a:List aH)(k c:Int)(l:List aH)(b:bw):List aH:=
 match wP a b.id with
 |some x=>if x.ct=c/\b.load<k/\k<b.discharge/\gC cl vl boxes (nP l ⟨b.id,x⟩)then nP l ⟨b.id,x⟩else l
 |none=>l
noncomputable def amt(a:List aH)(k b:Int)(l:List aH)(v:Nat):List aH:=(boxes.take v).foldl (kq cl vl boxes a k b) l
noncomputable def pS(a:List aH)(k:Int):Nat->List aH
 |0=>[]
 |t+1=>amt cl vl boxes a k (t:Int) (pS a k t) boxes.length
noncomputable def sf(l:List aH)(id:Int)(rk:Int):List Slot->Option (List aH)
 |[]=>none
 |x::r=>if x.column=rk/\gC cl vl boxes (nP l ⟨id,x⟩)then some (nP l ⟨id,x⟩)else sf l id rk r
noncomputable def iK(l:List aH)(id size a:Int):Nat->Option (List aH)
 |0=>none
 |t+1=>match iK l id size a t with
  |some r=>some r
  |none=>sf cl vl boxes l id ((a+t)%cl.length) (slotsOf cl size)
noncomputable def pU(a:Int->Int)(k:Int)(l:List aH)(b:bw):List aH⊕Int:=
 if k<b.load\/b.discharge<=k\/Gk l b.id then .inl l
 else match iK cl vl boxes l b.id b.size (a b.id) cl.length with
  |some r=>.inl r
  |none=>.inr b.id
noncomputable def iI(a:Int->Int)(k:Int)(l:List aH):Nat->List aH⊕Int
 |0=>.inl l
 |v+1=>match iI a k l v,boxes[v]? with
  |.inl c,some b=>pU cl vl boxes a k c b
  |.inl c,none=>.inl c
  |.inr e,_=>.inr e
noncomputable def Kj(a:Int->Int)(b:List aH)(k:Int):List aH⊕Int:=iI cl vl boxes a k (pS cl vl boxes b k 10) boxes.length
noncomputable def fj(a:Int->Int):Nat->List (List aH)⊕Int
 |0=>.inl []
 |k+1=>match fj a k with
  |.inl L=>(match Kj cl vl boxes a (L.getLastD []) (k:Int)with
   |.inl l=>.inl (L++[l])
   |.inr e=>.inr e)
  |.inr e=>.inr e
end
noncomputable def xF(cl:List aL)(vl:List bz)(boxes:List bw)(a:Int->Int)(calls:Nat):List (List aH)×Int:=
 match fj cl vl boxes a calls with
 |.inl L=>(L,0)
 |.inr e=>([],e)
noncomputable def rounds(cl:List aL)(vl:List bz)(a:Int->Int)(calls:Nat):Nat->List bw->List bw×List (List aH)
 |0,_=>([],List.replicate calls [])
 |n+1,boxes=>if(xF cl vl boxes a calls).2=0 then(boxes,(xF cl vl boxes a calls).1)else rounds cl vl a calls n (boxes.filter fun b=>decide (b.id≠(xF cl vl boxes a calls).2))
end Go.aA
