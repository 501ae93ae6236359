import Derived.Test.YtfaccbkibjkfjaaGreatDoorT29
import Derived.Test.YtfaccbkibjkfjaaGreatDoorT27
set_option linter.all false
set_option maxRecDepth 100000
set_option maxHeartbeats 1000000
namespace Go.aA
open Go Go.Am Go.Proofs
open Tryz (prog)
open Classical
variable {A:Ar} {C:CT} {D:R_} {I:IC} {K:Ex->St->Prop} {a:B_} {c:List aL} {call:Int} {cl:List aL} {d:List (List B_)} {g h:B_} {n:Nat} {st:St} {t:B_} {v:Nat} {vl:List bz}
section
variable {mx:Int}
abbrev xm:=bw×Slot
def xm.enc(r:xm):List PV:=[.i r.1.id,.str r.1.number,.u r.1.size,.bool r.1.high,.i r.1.cD,.i r.1.load,.i r.1.discharge,.u r.1.cls,.bool r.1.cK,.i r.2.column,.i r.2.ct,.u r.2.half]
def Pn:bw:=⟨0,[],0,false,0,0,0,0,false⟩
def M1:B_:=[76,79,67]
def aii:B_:=[69,81,68]
def ajA:B_:=[77,69,65]
def aij:B_:=[82,70,70]
def akM:B_:=[68,71,83]
def Qg(n:Int):Int:=aF.min (aF.max n 0) 255
def gP(a:B_)(d:List (List B_))(r:xm):Option xm:=
 if a=aii then match(lC (cmp d 0)).2 with
  |true=>some (⟨(lC (cmp d 0)).1,cmp d 1,(sizeOf (cmp d 2)).1.1,(sizeOf (cmp d 2)).1.2.1,r.1.cD,r.1.load,r.1.discharge,r.1.cls,(sizeOf (cmp d 2)).1.2.2⟩,r.2)
  |false=>none
 else if a=ajA then match(lC (cmp d 0)).2 with
  |true=>some (⟨r.1.id,r.1.number,r.1.size,r.1.high,(lC (cmp d 0)).1,r.1.load,r.1.discharge,r.1.cls,r.1.cK⟩,r.2)
  |false=>none
 else if a=aij then match(lC (cmp d 0)).2 with
  |true=>match(lC (cmp d 1)).2 with
   |true=>some (⟨r.1.id,r.1.number,r.1.size,r.1.high,r.1.cD,(lC (cmp d 0)).1,(lC (cmp d 1)).1,r.1.cls,r.1.cK⟩,r.2)
   |false=>none
  |false=>none
 else if a=akM then match(lC (cmp d 0)).2 with
  |true=>some (⟨r.1.id,r.1.number,r.1.size,r.1.high,r.1.cD,r.1.load,r.1.discharge,Qg (lC (cmp d 0)).1,r.1.cK⟩,r.2)
  |false=>none
 else none
noncomputable def aS(c:List aL)(v:List bz)(all:List xm)(g:xE):Option (List xm):=
 if g.1=M1 then(if(mw c v (cmp g.2 0)).2=0 then some (all++[(Pn,(mw c v (cmp g.2 0)).1)])else none)
 else match all.getLast? with
  |none=>none
  |some r=>match gP g.1 g.2 r with
   |none=>none
   |some r'=>some (all.dropLast++[r'])
noncomputable def nK(c:List aL)(v:List bz)(l:List xE):Nat->Option (List xm)
 |0=>some []
 |n+1=>match nK c v l n with
  |none=>none
  |some all=>match l[n]? with
   |none=>none
   |some g=>aS c v all g
def Qi:Mj
 |90=>some (abh,[.tmp 4],12)
 |176=>some (R4,[.tmp 6],17)
 |177=>some (R5,[.tmp 4],44)
 |179=>some (R7,[.tmp 4],12)
 |180=>some (R8,[.tmp 4],23)
 |181=>some (R9,[.tmp 4],19)
 |_=>none
theorem GX:∀f a b c,Qi f=some (a,b,c)->∃accs,gF prog (GG mx) accs f=some (a,b,c):=by intro f a b c h;unfold Qi at h;split at h;{grind[VB]};{grind[OE]};{grind[OG]};{grind[OI]};{grind[OJ]};{grind[OK]};cases h
def vY:cf:=match Ec with
 |.seq _ (.seq _ (.seq _ (.seq _ (.seq _ (.seq _ (.seq _ (.seq _ (.seq _ (.seq _ (.seq (.seq _ (.block _ (.loop b))) _))))))))))=>b
 |_=>.skip
structure MC where
 abE:List AV
 kind:B_
 ref:B_
 M:R_
 S1:R_
 call:Int
 port:B_
end
variable {x:MC}
section
variable {mx:Int}
abbrev mX(c csp vv vsp:R_)(l1 l2 l3 l4:Int)(r rsp f fsp t tsp:R_)(m1 m2 m3 m4:Int)(kind ref:B_)(M S1:R_)(call:Int)(port:B_):MC:=⟨[.pv (.sl c csp),.pv (.sl vv vsp),.pv (.i l1),.pv (.i l2),.pv (.i l3),.pv (.i l4),.pv (.sl r rsp),.pv (.sl f fsp),.pv (.sl t tsp),.pv (.i m1),.pv (.i m2),.pv (.i m3),.pv (.i m4)],kind,ref,M,S1,call,port⟩
def sZ(x:MC)(all:AV)(n v:Nat):List AV:=(.dead::.dead::.ptr 0 0::.dead::.dead::.ptr 1 0::(dn 4 (.ptr 2 0::.ptr 3 0::.dead::.dead::all::(dn 61 (.pv (.sl x.S1 [])::.pv (.i (Int.ofNat n))::.pv (.i (Int.ofNat v))::(dn 99 []))))))
def zA(x:MC):List (Option Am.Obj):=[some (.cells x.abE),some (.cells [.pv (.i 0),.pv (.str []),.full [],.full []]),some (.cells [.pv (.str x.kind),.pv (.str x.ref),.pv (.sl x.M [])]),some (.cells [.pv (.i x.call),.pv (.str x.port),.full [],.full []])]
def Wr(x:MC)(n v:Nat):St:=⟨sZ x (.full []) n v,[],0,zA x⟩
def uK(x:MC)(n v:Nat)(W:R_)(r:List PV):St:=⟨sZ x (.c8 4 0) n v,[],0,zA x++[some (.cw 1 (yB W (.ptr 5 0)) 0),some (.cells (r.map .pv))]⟩
def iT(l:List xm):R_:=l.map fun r=>[.ptr r.enc]
def eX(x:MC)(n v:Nat)(all:List xm):St:=match all.getLast? with
 |none=>Wr x n v
 |some r=>uK x n v (iT all.dropLast) r.enc
structure W6(x:MC)(c:List aL)(vl:List bz)(n v:Nat)(all:List xm)(g:xE)(K:Ex->St->Prop):Prop where
 on:∀{a':List xm} {st:St},aS c vl all g=some a'->Fg st (eX x n (v+1) a')->K .normal st
 er:∀{st:St},aS c vl all g=none->fN [.tmp 4,.cell 5 (some 4),.tmp 6] st=some (.eN [.str [],.agg [.i 0,.str [],.sl [] [],.sl [] []],.i 393])->K .ret st
theorem Po{all:List xm}{g:xE}(b:W6 x c vl n v all g K){a:List xm}(h:aS c vl all g=some a)(d:Fg st (eX x n (v+1) a)):(bp.fin .normal st).holds C A I K:=b.on h d
theorem Fj{all:List xm}{g:xE}(a:W6 x c vl n v all g K)(h:aS c vl all g=none)(b:fN [.tmp 4,.cell 5 (some 4),.tmp 6] st=some (.eN [.str [],.agg [.i 0,.str [],.sl [] [],.sl [] []],.i 393])):(bp.fin .ret st).holds C A I K:=a.er h b
end
attribute [local irreducible] Am.bp.holds bH fw bP ek
variable {mx:Int}
theorem e9(c:D=d.map bh)(hl:d.length<2^30)(b:∀e∈d,e.length<2^30)(f:t=cmp d 0):pC mx 87 [.agg [.str a,.sl D []],.i 0,.i 0] (.str t):=Qf (k:=0) c hl b o_ f
theorem gn(c:D=d.map bh)(hl:d.length<2^30)(b:∀e∈d,e.length<2^30)(f:t=cmp d 1):pC mx 87 [.agg [.str a,.sl D []],.i 1,.i 0] (.str t):=Qf (k:=1) c hl b o_ f
theorem jw(c:D=d.map bh)(hl:d.length<2^30)(b:∀e∈d,e.length<2^30)(f:t=cmp d 2):pC mx 87 [.agg [.str a,.sl D []],.i 2,.i 0] (.str t):=Qf (k:=2) c hl b o_ f
theorem ajB{i b:B_}{M q:R_}{c j s k r l f m t o:R_}{w z B C E G H I:Int}{J:List xE}(hK:W6 (mX c j s k w z B C r l f m t o E G H I a i M q call b) cl vl n v [] (g,d) K)(jI:c=cl.map aL.enc)(pN:s=vl.map bz.enc)(wU:cl.length<2^32)(Hn:vl.length<2^32)(CS:∀x∈cl,x.cq.length<2^32)(AE:∀x∈vl,x.rows.length<2^16)(hS:q=J.map fW)(hv:v<J.length)(ZE:n=J.length)(oa:J.length<=5000)(hg:J[v]=(g,d))(JC:d.length<=30/\∀e∈d,DL e): g=M1->fw (CC prog (GG mx)) aF (Hf prog (GG mx)) vY (eX (mX c j s k w z B C r l f m t o E G H I a i M q call b) n v []) K:=by intro M4;refine az (F:=fun A=>oI (CC prog (GG mx)) A (Hf prog (GG mx)) Qi->fw (CC prog (GG mx)) A (Hf prog (GG mx)) vY (eX (mX c j s k w z B C r l f m t o E G H I a i M q call b) n v []) K) ?_ (eM mixed GX);intro _ _ _ Me;(iterate 11 intro _);intro QU;(iterate 13 intro _);intro I4 I5;(iterate 27 intro _);intro sX sY;(iterate 61 intro _);intro df aw bu mz aI aQ aJ aP zI aU aV bC bA ag aC hT;obtain⟨D,S⟩:∃D,D=d.map bh:=⟨_,rfl⟩;have ec:aJ (Int.ofNat v) q 2:=by{rw[<-aP,hS];exact aO (enc:=fW) hv rfl};have bK:aI q (Int.ofNat v)=[.str g,.sl D []]:=by{rw[<-aQ,hS,aN (enc:=fW) hv,hg,S];rfl};have bO:Me (Int.ofNat v) (Int.ofNat n)=true:=by{rw[<-aC];simp;omega};have jA:bu .i64 (df (Int.ofNat v) 1)=Int.ofNat (v+1):=by{rw[<-mz,<-aw];exact kY o_};have we:d.length<2^30:=o_;have mC:∀e∈d,e.length<2^30:=fun e he=>by{have:=(JC.2 e he).2.1;omega};have T:QU g [76,79,67]=true:=by{rw[<-aU,M4];rfl};obtain⟨W,X⟩:∃W,W=cmp d 0:=⟨_,rfl⟩;obtain⟨⟨⟨rk,Q,h⟩,er⟩,u⟩:∃y,mw cl vl W=y:=⟨_,rfl⟩;(have yb:aS cl vl [] (g,d)=if er=0 then some ([]++[(Pn,⟨rk,Q,h⟩)])else none:=by unfold aS;rw[qao M4,<-X,u]);show fw _ _ _ _ (Wr (mX c j s k w z B C r l f m t o E G H I a i M q call b) n v) _;obtain⟨Y,L⟩:∃V,V=yB [] (.ptr 98 0):=⟨_,rfl⟩;have N:I5 [] [[.ptr 98 0]] 8 1/\([[.ptr 98 0]]:List (List AV))≠[]:=by{rw[<-sY];exact⟨⟨s_,s_,fun r R=>by simp at R;subst R;exact⟨rfl,rfl⟩,fun r R=>by cases R⟩,s_⟩};have O:I4 [] [[.ptr 98 0]]=Y:=by{rw[<-sX,L];rfl};unfold Wr sZ zA;refine o7 r_ (Fg.grow _ 178) ?_;refine agS (U:=false) hT 10000 c_ ?_;rw[bO];refine aY ?_;refine ae ec ?_;rw[bK];refine bl hT ?_;rw[T];refine aY ?_;by_cases P:er=0;rotate_left;{have Z:aS cl vl [] (g,d)=none:=by{rw[yb,qai P]};(repeat' (first|refine gH ?_|(refine bp.af (fun p=>?_) (fun p=>?_)<;>(try simp only[<-aC,<-bC,<-aV,<-bA,<-aU]at p)<;>(try rw[<-zI]at p)<;>(try rw[<-ag]at p)<;>(try simp at p)<;>(try(exfalso;omega)))|(refine xB hT (e9 S we mC X) ?_)|(refine xB hT (Es jI pN wU Hn CS AE u) ?_)|(refine ae N ?_;rw[O];refine bl hT ?_)));all_goals refine Fj hK Z ?_;refine F3 ?_;rfl};have Z:aS cl vl [] (g,d)=some ([]++[(Pn,⟨rk,Q,h⟩)]):=by{rw[yb,qao P]};(repeat' (first|refine gH ?_|(refine bp.af (fun p=>?_) (fun p=>?_)<;>(try simp only[<-aC,<-bC,<-aV,<-bA,<-aU]at p)<;>(try rw[<-zI]at p)<;>(try rw[<-ag]at p)<;>(try simp at p)<;>(try(exfalso;omega)))|(refine xB hT (e9 S we mC X) ?_)|(refine xB hT (Es jI pN wU Hn CS AE u) ?_)|(refine ae N ?_;rw[O];refine bl hT ?_)));refine Po hK Z ?_;rw[jA];have ad:eX (mX c j s k w z B C r l f m t o E G H I a i M q call b) n (v+1) ([]++[(Pn,⟨rk,Q,h⟩)])=uK (mX c j s k w z B C r l f m t o E G H I a i M q call b) n (v+1) (iT ([])) (xm.enc (Pn,⟨rk,Q,h⟩)):=by{unfold eX;simp};rw[ad];unfold uK sZ zA;dsimp only;refine Fg.xl [2,5,10,11,14,76,77,78] [some 0,some 1,some 2,some 3,some 100,some 98] rfl c_ c_ rfl ⟨⟨_,rfl,c_⟩,⟨_,rfl,c_⟩,⟨_,rfl,c_⟩,⟨_,rfl,c_⟩,⟨_,rfl,?_⟩,⟨_,rfl,c_⟩,trivial⟩;rw[L];simp only[bY,zeroV];cbv
theorem ajK{b i:B_}{M s:R_}{c j u k r l f m t o:R_}{w z B C E G H I:Int}{L:List xE}{a:List xm}{rd:xm}(xT:a.length<=5000)(hK:W6 (mX c j u k w z B C r l f m t o E G H I b i M s call g) cl vl n v (a++[rd]) (h,d) K)(jI:c=cl.map aL.enc)(pN:u=vl.map bz.enc)(wU:cl.length<2^32)(Hn:vl.length<2^32)(CS:∀x∈cl,x.cq.length<2^32)(AE:∀x∈vl,x.rows.length<2^16)(hS:s=L.map fW)(hv:v<L.length)(ZE:n=L.length)(oa:L.length<=5000)(hg:L[v]=(h,d))(JC:d.length<=30/\∀e∈d,DL e): h=M1->fw (CC prog (GG mx)) aF (Hf prog (GG mx)) vY (eX (mX c j u k w z B C r l f m t o E G H I b i M s call g) n v (a++[rd])) K:=by intro M4;refine az (F:=fun A=>oI (CC prog (GG mx)) A (Hf prog (GG mx)) Qi->fw (CC prog (GG mx)) A (Hf prog (GG mx)) vY (eX (mX c j u k w z B C r l f m t o E G H I b i M s call g) n v (a++[rd])) K) ?_ (eM mixed GX);intro _ _ _ Me;(iterate 11 intro _);intro QU;(iterate 13 intro _);intro I4 I5;(iterate 27 intro _);intro sX sY;(iterate 61 intro _);intro df aw bu mz aI aQ aJ aP zI aU aV bC bA ag aC hT;obtain⟨D,T⟩:∃D,D=d.map bh:=⟨_,rfl⟩;have ec:aJ (Int.ofNat v) s 2:=by{rw[<-aP,hS];exact aO (enc:=fW) hv rfl};have bK:aI s (Int.ofNat v)=[.str h,.sl D []]:=by{rw[<-aQ,hS,aN (enc:=fW) hv,hg,T];rfl};have bO:Me (Int.ofNat v) (Int.ofNat n)=true:=by{rw[<-aC];simp;omega};have jA:bu .i64 (df (Int.ofNat v) 1)=Int.ofNat (v+1):=by{rw[<-mz,<-aw];exact kY o_};have we:d.length<2^30:=o_;have mC:∀e∈d,e.length<2^30:=fun e he=>by{have:=(JC.2 e he).2.1;omega};have X:QU h [76,79,67]=true:=by{rw[<-aU,M4];rfl};obtain⟨Y,Z⟩:∃Y,Y=cmp d 0:=⟨_,rfl⟩;obtain⟨⟨⟨rk,R,p⟩,er⟩,J⟩:∃y,mw cl vl Y=y:=⟨_,rfl⟩;(have yb:aS cl vl (a++[rd]) (h,d)=if er=0 then some ((a++[rd])++[(Pn,⟨rk,R,p⟩)])else none:=by unfold aS;rw[qao M4,<-Z,J]);have Oj:eX (mX c j u k w z B C r l f m t o E G H I b i M s call g) n v (a++[rd])=uK (mX c j u k w z B C r l f m t o E G H I b i M s call g) n v (iT a) (xm.enc rd):=by{unfold eX;simp};rw[Oj];obtain⟨W,S⟩:∃W,W=iT a:=⟨_,rfl⟩;have aj:W.length<2^30:=by{rw[S,iT,qap];omega};have ad:aK 1 W:=by{rw[S,iT];exact Kh (enc:=fun r:xm=>[PV.ptr r.enc]) (fun _=>rfl) _};rw[<-S];obtain⟨rc,WG⟩:∃rc,rc=(xm.enc rd).map AV.pv:=⟨_,rfl⟩;obtain⟨zB,X2⟩:∃V,V=yB W (.ptr 5 0):=⟨_,rfl⟩;obtain⟨ah,N⟩:∃V,V=Oh W (.ptr 5 0) (.ptr 98 0):=⟨_,rfl⟩;have O:I5 zB [[.ptr 98 0]] 8 1:=by{rw[<-sY,X2];exact PH o_ d_ rfl ad};have P:I4 zB [[.ptr 98 0]]=ah:=by{rw[<-sX,X2,N];exact JH};unfold uK sZ zA;dsimp only;rw[<-WG,<-X2];refine o7 r_ (Fg.grow _ 178) ?_;refine agS (U:=false) hT 10000 c_ ?_;rw[bO];refine aY ?_;refine ae ec ?_;rw[bK];refine bl hT ?_;rw[X];refine aY ?_;by_cases Q:er=0;rotate_left;{have hn:aS cl vl (a++[rd]) (h,d)=none:=by{rw[yb,qai Q]};(repeat' (first|refine gH ?_|(refine bp.af (fun q=>?_) (fun q=>?_)<;>(try simp only[<-aC,<-bC,<-aV,<-bA,<-aU]at q)<;>(try rw[<-zI]at q)<;>(try rw[<-ag]at q)<;>(try simp at q)<;>(try(exfalso;omega)))|(refine xB hT (e9 T we mC Z) ?_)|(refine xB hT (Es jI pN wU Hn CS AE J) ?_)|(refine ae O ?_;rw[P];refine bl hT ?_)));all_goals refine Fj hK hn ?_;refine F3 ?_;rfl};have hn:aS cl vl (a++[rd]) (h,d)=some ((a++[rd])++[(Pn,⟨rk,R,p⟩)]):=by{rw[yb,qao Q]};(repeat' (first|refine gH ?_|(refine bp.af (fun q=>?_) (fun q=>?_)<;>(try simp only[<-aC,<-bC,<-aV,<-bA,<-aU]at q)<;>(try rw[<-zI]at q)<;>(try rw[<-ag]at q)<;>(try simp at q)<;>(try(exfalso;omega)))|(refine xB hT (e9 T we mC Z) ?_)|(refine xB hT (Es jI pN wU Hn CS AE J) ?_)|(refine ae O ?_;rw[P];refine bl hT ?_)));refine Po hK hn ?_;rw[jA];have ai:eX (mX c j u k w z B C r l f m t o E G H I b i M s call g) n (v+1) ((a++[rd])++[(Pn,⟨rk,R,p⟩)])=uK (mX c j u k w z B C r l f m t o E G H I b i M s call g) n (v+1) (iT ((a++[rd]))) (xm.enc (Pn,⟨rk,R,p⟩)):=by{unfold eX;simp};rw[ai];have Yn:iT (a++[rd])=W++[[.ptr (xm.enc rd)]]:=by{rw[S];simp[iT]};rw[Yn];unfold uK sZ zA;dsimp only;refine Fg.trans (Fg.M0 (id:=5) (cs:=rc) (ps:=xm.enc rd) rfl (by rw[WG];rfl) rfl) ?_;refine Fg.xl [2,5,10,11,14,76,77,78] [some 0,some 1,some 2,some 3,some 4,some 98] rfl c_ c_ rfl ⟨⟨_,rfl,c_⟩,⟨_,rfl,c_⟩,⟨_,rfl,c_⟩,⟨_,rfl,c_⟩,⟨_,rfl,?_⟩,⟨_,rfl,c_⟩,trivial⟩;rw[N,<-PG];simp only[Hv,zeroV];cbv
theorem ajQ{b:B_}{M o:R_}{c i p j r k f l t m:R_}{u w y z B C E G:Int}{q:List xE}(N:W6 (mX c i p j u w y z r k f l t m B C E G a h M o call b) cl vl n v [] (g,d) K)(jI:c=cl.map aL.enc)(pN:p=vl.map bz.enc)(wU:cl.length<2^32)(Hn:vl.length<2^32)(CS:∀x∈cl,x.cq.length<2^32)(AE:∀x∈vl,x.rows.length<2^16)(I:o=q.map fW)(J:v<q.length)(ZE:n=q.length)(oa:q.length<=5000)(O:q[v]=(g,d))(P:d.length<=30/\∀e∈d,DL e): g≠M1->fw (CC prog (GG mx)) aF (Hf prog (GG mx)) vY (eX (mX c i p j u w y z r k f l t m B C E G a h M o call b) n v []) K:=by intro L;refine az (F:=fun A=>oI (CC prog (GG mx)) A (Hf prog (GG mx)) Qi->fw (CC prog (GG mx)) A (Hf prog (GG mx)) vY (eX (mX c i p j u w y z r k f l t m B C E G a h M o call b) n v []) K) ?_ (eM mixed GX);intro _ _ _ Q;(iterate 11 intro _);intro R;(iterate 99 intro _);intro S _ _ _ _ _ T V W X Y Z aJ aP zI aU aV bC bA ag aC hT;obtain⟨D,hD⟩:∃D,D=d.map bh:=⟨_,rfl⟩;have ec:aJ (Int.ofNat v) o 2:=by{rw[<-aP,I];exact aO (enc:=fW) J rfl};have bK:Y o (Int.ofNat v)=[.str g,.sl D []]:=by{rw[<-Z,I,aN (enc:=fW) J,O,hD];rfl};have bO:Q (Int.ofNat v) (Int.ofNat n)=true:=by{rw[<-aC];simp;omega};have jA:W .i64 (T (Int.ofNat v) 1)=Int.ofNat (v+1):=by{rw[<-X,<-V];exact kY o_};have we:d.length<2^30:=o_;have mC:∀e∈d,e.length<2^30:=fun e he=>by{have:=(P.2 e he).2.1;omega};have H:R g [76,79,67]=false:=by{rw[<-aU];exact qa4 L};have hn:aS cl vl [] (g,d)=none:=by{unfold aS;rw[qai L];rfl};have Vi:S []=0:=by{rw[<-ag];rfl};show fw _ _ _ _ (Wr (mX c i p j u w y z r k f l t m B C E G a h M o call b) n v) _;unfold Wr sZ zA;refine o7 r_ (Fg.grow _ 178) ?_;refine agS (U:=false) hT 10000 c_ ?_;rw[bO];refine aY ?_;refine ae ec ?_;rw[bK];refine bl hT ?_;rw[H];refine aY ?_;(repeat' (first|refine gH ?_|(refine bp.af (fun s=>?_) (fun s=>?_)<;>(try simp only[<-aC,<-bC,<-aV,<-bA,<-aU]at s)<;>(try rw[<-zI]at s)<;>(try rw[<-ag]at s)<;>(try simp at s)<;>(try(exfalso;omega)))));all_goals refine Fj N hn ?_;refine F3 ?_;rfl
end Go.aA
