import Derived.Test.YtjclmfaodngbfaaGreatDoorT31
import Derived.Test.YtjclmfaodngbfaaGreatDoorT32
import Derived.Test.YtjclmfaodngbfaaGreatDoorT15
import Derived.Test.YtjclmfaodngbfaaGreatDoorT10
import Derived.Test.YtjclmfaodngbfaaGreatDoorT09
set_option linter.all false
set_option maxRecDepth 100000
set_option maxHeartbeats 1000000
namespace Go.bt
open Go Go.Am Go.Proofs
open Classical
variable {l:List Int}
attribute [local irreducible] Am.bp.holds bH fw bP ek
variable {mx:Int}
def Rz:Mj
 |136=>some (Mu,[.tmp 2],6)
 |_=>none
theorem Lh:∀f a b c,Rz f=some (a,b,c)->∃accs,gF Tryz.prog (GG mx) accs f=some (a,b,c):=by intro f a b c h;unfold Rz at h;split at h;{cases h;exact⟨[],Kb⟩};cases h
theorem Lk{x y:Int}{r:Bool}(a:r=decide (x<y)):pC mx 73 [.int .i64 x,.int .i64 y] (.bool r):=by refine pT Lh NG ?_;intro _ _ _ b _ c d;(iterate 122 intro _);intro zI aU aV bC bA ag aC hT;have e:d (c x x)=false:=by{rw[<-aV,<-bA];simp};refine bl hT ?_;rw[e];refine aY ?_;have f:r=b x y:=by{rw[a,<-aC];rfl};rw[<-f];cases r;all_goals refine aY ?_;refine aX ?_;rfl
theorem Ck{rows z:List (List PV)}(b:rows=ints l)(hl:l.length<2^32)(A:l≠[])(B:fU l):pC mx 26 [.sl rows z] (.bool true):=by have C:=List.length_pos_iff.2 A;obtain⟨D,h⟩:∃n,n=Int.ofNat (l.length-1):=⟨_,rfl⟩;refine pZ Nz ?_;(iterate 119 intro _);intro j E _ _ k F m o q s zI aU aV bC bA ag aC;have t:∀{x:Int} {p:Nat},x=(p:Int)->0<p->p<2^33->k .i64 (j x 1)=Int.ofNat (p-1):=fun{x p} a K L=>by{rw[<-F,<-E,a];simp only[aF];rw[dy (by omega) (by omega)];show(p:Int)-1=((p-1:Nat):Int);omega};refine gK ?_;rw[t (p:=l.length) (by rw[<-ag,b];simp[ints]) C (by omega),<-h];refine T6 (fun(p:Int) σ_=>(σ_.tidy [0,3] []).put (some 3) (.pv (.int .i64 p))) (fun p=>∃i:Nat,p=(i:Int)/\i<l.length) (fun p=>p.toNat) D (Fg.ca [0,3] [] rfl (by cbv)) ⟨l.length-1,h,by omega⟩ ?_;rintro x ⟨i,a,f⟩;(try dsimp only);refine ej ?_;refine bp.af (fun g=>?_) (fun g=>?_);{rw[<-aC,a]at g;simp at g;obtain⟨e,c⟩:∃x,x=Int.ofNat (i-1):=⟨_,rfl⟩;have G:q x rows 1:=by{rw[<-s,b,a];exact aO (enc:=fun p=>[PV.int .i64 p]) f rfl};have u:m rows x=[.int .i64 l[i]]:=by{rw[<-o,b,a];exact aN (enc:=fun p=>[PV.int .i64 p]) f};have H:q e rows 1:=by{rw[<-s,b,c];exact aO (enc:=fun p=>[PV.int .i64 p]) (show i-1<l.length by omega) rfl};have v:m rows e=[.int .i64 l[i-1]]:=by{rw[<-o,b,c];exact aN (enc:=fun p=>[PV.int .i64 p]) (show i-1<l.length by omega)};have w:l[i-1]<l[i]:=List.pairwise_iff_getElem.1 B (i-1) i (by omega) f (by omega);generalize l[i-1]=I at v w;generalize l[i]=J at u w;have d:k .i64 (j x 1)=e:=by{rw[t a (by omega) (by omega),c]};refine aY ?_;refine ae G ?_;rw[u];refine gK ?_;rw[d];refine ae H ?_;rw[v];refine gK ?_;refine vZ (Lk (x:=J) (y:=I) (r:=false) (by rw[decide_eq_false];omega)) ?_;rw[d];refine aB ⟨e,⟨i-1,c,by omega⟩,by rw[a,c];simp;omega,?_⟩;exact Fg.ca [0,3] [] rfl (by cbv)};refine aY ?_;refine wW rfl ?_;refine gK ?_;refine aX ?_;rfl
theorem D3{rows b:List (List PV)}(a:rows=ints l)(h:l≠[])(hl:l.length<2^32):oQ Tryz.prog (GG mx) 28 [.sl rows b] [(1,rows)] (.c8 0 0):=by have c:rows.length=l.length:=by{simp[a,ints]};refine BO (rs:=[.c8 0 0]) mixed amI (iC rfl) (az (F:=fun A=>bH (CC Tryz.prog (GG mx)) A (Hf Tryz.prog (GG mx)) [.code PJ] (ri [.tmp 2] [(1,rows)] [.c8 0 0]) .normal (Am.start 8 [.sl rows b])) ?_);(iterate 105 intro _);intro d;(iterate 10 intro _);intro i j f;(iterate 10 intro _);intro zI aU aV bC bA ag aC;refine gK ?_;refine ae (by rw[<-d,<-f];right;rw[a];intro e;exact h (by simpa[ints]using (List.append_eq_nil_iff.1 e).1)) ?_;refine gK ?_;refine ae (by rw[<-i,<-d];exact⟨⟨by simp;omega,by simp;omega,by rw[a];exact iX (enc:=fun p=>[PV.int .i64 p]) (fun p=>⟨rfl,fun q g=>by simp at g;rw[g];rfl⟩) _,by simp⟩,.inl rfl⟩) ?_;refine gK ?_;have k:j [] rows=rows:=by{rw[<-f];simp};rw[k];refine o6 (fg (vs:=[.c8 7 0]) (t:=[]) [some 7] (by cbv) rfl (by cbv) rfl rfl rfl)
theorem wv{cl:List aL}{vl:List bz}{l:List aH}(d:ai cl vl l)(e:cl.length<=12){a:Int}(f:a∈aE cl):∀x∈aA cl vl l a,x.length<=1000:=fun x b=>by have g:=CG d (bay:=a);have h:=j6 (cl:=cl) (bay:=a);have i:=CD d.1 f;have c:aA cl vl l a=([98,97,121,32]++digits a.toNat)::(aA cl vl l a).tail:=by{unfold aA;rfl};rw[c]at b;rcases List.mem_cons.1 b with rfl|b;{have:(digits a.toNat).length<=40:=by{have:=tW (k:=2) (n:=a.toNat) (by decide) (by omega);omega};simp;omega};rw[g x b];omega
end Go.bt
