import Derived.Test.YtfaccbkibjkfjaaGreatDoorT46
import Derived.Test.YtfaccbkibjkfjaaGreatDoorT23
set_option linter.all false
set_option maxRecDepth 100000
set_option maxHeartbeats 1000000
namespace Go.aA
open Go Go.Am Go.Proofs
open Classical
attribute [local irreducible] Am.bp.holds bH fw bP ek
variable {mx:Int}
def bx0:List PV:=[.i 5,.str [67,83,81,85,51,48,53,52,51,56,51],.u 40,.bool true,.i 9000,.i 0,.i 2,.u 3,.bool false]
def YO:bw:=⟨5,[67,83,81,85,51,48,53,52,51,56,51],40,true,9000,0,2,3,false⟩
def YP:List aH:=[⟨5,⟨2,0,0⟩⟩]
def YV:B_:=[68,69,72,65,77]
def Mt:Nat->Int×B_×List bw×List aH
 |0=>(-1,YV,[YO],YP)
 |1=>(2,YV,[YO],YP)
 |2=>(19,YV,[{YO with load:=18,discharge:=19}],YP)
 |3=>(18,YV,[{YO with load:=18,discharge:=19}],YP)
 |4=>(1,[68,69,72,65],[YO],YP)
 |5=>(1,[68,69,72,65,109],[YO],YP)
 |6=>(1,YV,[{YO with cls:=10}],YP)
 |7=>(1,YV,[{YO with size:=20}],YP)
 |8=>(1,YV,[{YO with id:=6}],YP)
 |9=>(1,YV,[YO],[])
 |10=>(1,YV,[],YP)
 |11=>(1,YV,[YO,⟨7,[],20,false,1,0,2,0,false⟩],YP)
 |12=>(1,YV,[],[])
 |_=>(1,YV,[{YO with cK:=true,number:=[],high:=false}],YP)
def Kv:List B_:=[[82,49],[],[114,49],[49,50,51,52,53,54,55,56,57,48,49,50,51,52],[49,50,51,52,53,54,55,56,57,48,49,50,51,52,53]]
def Mu(v:Nat):PV:=.agg [.i (Mt v).1,.str (Mt v).2.1,.sl ((Mt v).2.2.1.map bw.enc) [],.sl ((Mt v).2.2.2.map aH.enc) []]
theorem YQ{c csp vv vsp r rsp f fsp t tsp:R_}{l1 l2 l3 l4 m1 m2 m3 m4:Int}(j:pC mx 27 [] (.agg [.sl c csp,.sl vv vsp,.i l1,.i l2,.i l3,.i l4,.sl r rsp,.sl f fsp,.sl t tsp,.i m1,.i m2,.i m3,.i m4]))(P:oQ Tryz.prog (GG mx) 40 [] [(9,[[.i 5,.str [67,83,81,85,51,48,53,52,51,56,51],.u 40,.bool true,.i 9000,.i 0,.i 2,.u 3,.bool false]])] (.agg [.pv (.i 1),.pv (.str [68,69,72,65,77]),.c8 0 0,.full [[.i 5,.i 2,.i 0,.u 0]]]))(l:∀{v:Nat} {a:B_},a.length<=15->pC mx 14 [.agg [.sl c csp,.sl vv vsp,.i l1,.i l2,.i l3,.i l4,.sl r rsp,.sl f fsp,.sl t tsp,.i m1,.i m2,.i m3,.i m4],.str a,Mu v] (.bool true))(d:∀{v:Nat} {a:B_},a.length<=15->pC mx 14 [.agg [.sl [] [],.sl [] [],.i 0,.i 0,.i 0,.i 0,.sl [] [],.sl [] [],.sl [] [],.i 0,.i 0,.i 0,.i 0],.str a,Mu v] (.bool true)):pC mx 34 [] (.bool true):=by refine pZ amA ?_;(iterate 17 intro _);intro Q;(iterate 67 intro _);intro R;(iterate 29 intro _);intro S T _ U _ _ _ A _ B V W C D zI aU aV bC bA ag aC;refine gK ?_;refine pO j ?_;refine jJ (fun v σ_=>(σ_.tidy [1,2] (nn [1,1,107,109])).put (some 2) (.pv (.i (Int.ofNat v)))) (14) (fun k=>True) (Fg.ca [1,2] (nn [1,1,107,109]) rfl (by first|(cbv;done)|(simp;cbv;done)|(simp;rfl))) ?_;intro v Y m;refine ej ?_;refine bp.af (fun e=>?_) (fun e=>?_);{have E:v<14:=by{rw[<-aC]at e;simp at e;omega};refine aY ?_;refine CA c_ P ?_;refine gK ?_;refine ae (show C 0 [bx0] 9 by rw[<-D];exact⟨d_,d_,rfl⟩) ?_;refine go 3 c_ ?_;refine BA ?_;obtain⟨F,o⟩:∃x,x=(Mt v).1:=⟨_,rfl⟩;obtain⟨G,p⟩:∃x,x=(Mt v).2.1:=⟨_,rfl⟩;obtain⟨H,b⟩:∃x,x=(Mt v).2.2.1.map bw.enc:=⟨_,rfl⟩;obtain⟨I,q⟩:∃x,x=(Mt v).2.2.2.map aH.enc:=⟨_,rfl⟩;have Z:Mu v=.agg [.i F,.str G,.sl H [],.sl I []]:=by{rw[o,p,b,q];rfl};refine Wb (fun s=>(s.tidy [1,2] (nn [1,1,107,109])).put (some 3) (.pv (.ptr [.i F,.str G,.sl H [],.sl I []]))) r_ ?_ ?_;{refine gK ?_;(repeat' (first|refine gH ?_|(refine iE (fun J=>?_) (fun J=>?_)<;>(try simp at J)<;>(try(exfalso;omega)))));(all_goals first|((refine acF ?_;obtain⟨k,rfl⟩:∃k:Nat,v=k:=⟨_,rfl⟩;have m:v<14/\(v=0\/v=1\/v=2\/v=3\/v=4\/v=5\/v=6\/v=7\/v=8\/v=9\/v=10\/v=11\/v=12\/v=13):=o_;rcases m.2 with h|h|h|h|h|h|h|h|h|h|h|h|h|h<;>first|(exfalso;omega)|(subst h;(try rw[<-R]);rw[o,p,b,q];exact Fg.trans (Fg.sC (id:=110) rfl rfl) (Fg.trans (Fg.M0 (id:=3) rfl rfl c_) (Fg.ca [1,2,3] (nn [1,1,107,109]) rfl c_)))))|skip);refine ae (show Q [bx0] [[.i 7,.str [],.u 20,.bool false,.i 1,.i 0,.i 2,.u 0,.bool false]] 64 9 by rw[<-T];exact⟨d_,d_,(by intro r u;rw[qaO.1 u];exact⟨rfl,s_⟩),(by intro r u;rw[qaO.1 u];rfl)⟩) ?_;refine gK ?_;refine acF ?_;rw[<-U];obtain rfl:v=11:=o_;rw[o,p,b,q];exact Fg.trans (Fg.sC (id:=110) rfl rfl) (Fg.trans (Fg.M0 (id:=3) rfl rfl c_) (Fg.ca [1,2,3] (nn [1,1,107,109]) rfl c_))};refine gK ?_;obtain⟨n,rfl⟩:∃n,n=v:=⟨_,rfl⟩;refine jJ (fun v σ_=>(σ_.tidy [1,2,3,91,92,93] (nn [1,1,107,109])).put (some 93) (.pv (.i (Int.ofNat v)))|>.put (some 91) (.full (Kv.map fun x=>[PV.str x]))|>.put (some 92) (.pv (.int .i64 (S (Kv.map fun x=>[PV.str x]))))) (5) (fun k=>True) (Fg.ca [1,2,3,91,92,93] (nn [1,1,107,109]) rfl (by first|(cbv;done)|(simp;cbv;done)|(simp;rfl))) ?_;intro v Y m;(try dsimp only);generalize w:(Kv.map fun x=>[PV.str x])=X;refine ej ?_;have y:X.length=5:=by{rw[<-w];rfl};refine bp.af (fun z=>?_) (fun z=>?_);{have K:v<5:=by{rw[<-aC,<-ag]at z;simp[y]at z;omega};have i:v<Kv.length:=K;obtain⟨L,g⟩:∃x,x=Kv.getD v []:=⟨_,rfl⟩;have M:L.length<=15:=by{have:∀x∈Kv,x.length<=15:=d_;rw[g,qab,qag i];exact this _ (qaf i)};have N:=l (v:=n) M;have O:=d (v:=n) M;rw[Z]at N O;refine aY ?_;refine ae (show C (Int.ofNat v) X 1 by rw[<-D];exact inS w.symm i) ?_;refine gK ?_;rw[show V X (Int.ofNat v)=[.str L] by rw[<-W,g];exact atS w.symm i];refine aY ?_;refine pO N ?_;refine pO O ?_;refine aB ⟨K,trivial,?_⟩;rw[wS B A (v:=v) o_];exact Fg.ca [1,2,3,91,92,93] (nn [1,1,107,109]) rfl c_};refine aY ?_;refine wW rfl ?_;refine gK ?_;refine aB ⟨E,trivial,?_⟩;rw[wS B A (v:=n) o_];exact Fg.ca [1,2] (nn [1,1,107,109]) rfl c_};have E:v=14:=by{rw[<-aC]at e;simp at e;omega};refine aY ?_;refine wW rfl ?_;refine gK ?_;refine aX ?_;rfl
end Go.aA
