import Derived.Test.YtfaccbkibjkfjaaGreatDoorT11
import Derived.Test.YtfaccbkibjkfjaaGreatDoorT15
import Derived.Test.YtfaccbkibjkfjaaGreatDoorT16
import Derived.Test.YtfaccbkibjkfjaaGreatDoorT10
import Derived.Test.YtfaccbkibjkfjaaGreatDoorT17
import Derived.Test.YtfaccbkibjkfjaaGreatDoorT12
set_option linter.all false
set_option maxRecDepth 100000
set_option maxHeartbeats 1000000
section
open Go Go.Am Go.Proofs
attribute [local irreducible] Am.bp.holds bH fw bP ek
namespace Go.bt
variable {mx:Int}
open Classical
def kl (l:List cT) (i:Nat):cT:=l.getD i ⟨[],0,0⟩
theorem Cx {l:List cT} {i:Nat} (h:i<l.length):kl l i=l[i]:=by simp[kl,qab,h]
def wH (l:List cT) (i:Nat):Prop:=¬tc (kl l i).port (kl l i).at_ (kl l i).dr∨(0<i∧((kl l i).at_≤(kl l (i-1)).at_∨(kl l i).port=(kl l (i-1)).port))
def fh (l:List cT) (k e:Int):Prop:=(l.length<2∧k= -1∧e=2)∨(20<l.length∧k= -1∧e=5)∨(2≤l.length∧l.length≤20∧eW (wH l) l.length k∧e=if 0≤k then 200 else 0)
theorem fh.ex (l:List cT):∃k e,fh l k e:=by
 by_cases h1:l.length<2
 ·exact⟨_,_,.inl ⟨h1,rfl,rfl⟩⟩
 ·by_cases h2:20<l.length
  ·exact⟨_,_,.inr (.inl ⟨h2,rfl,rfl⟩)⟩
  ·obtain⟨k,hk⟩:=eW.ex (wH l) l.length;exact⟨k,_,.inr (.inr ⟨by omega,by omega,hk,rfl⟩)⟩
theorem fh.short {l:List cT} {k e:Int} (h:fh l k e) (h1:l.length<2):k= -1∧e=2:=by
 rcases h with h|h|h
 ·exact h.2
 ·omega
 ·omega
theorem fh.long {l:List cT} {k e:Int} (h:fh l k e) (h1:20<l.length):k= -1∧e=5:=by
 rcases h with h|h|h
 ·omega
 ·exact h.2
 ·omega
theorem fh.bad {l:List cT} {k e:Int} (h:fh l k e) (h1:2≤l.length) (h2:l.length≤20) {v:Nat} (hv:v<l.length) (hb:wH l v) (hn:∀j,j<v→¬wH l j):k=Int.ofNat v∧e=200:=by
 rcases h with h|h|h
 ·omega
 ·omega
 ·have:=h.2.2.1.at hv hb hn;refine⟨this,?_⟩;rw[h.2.2.2,this,qao (by simp)]
theorem fh.Hh {l:List cT} {k e:Int} (h:fh l k e) (h1:2≤l.length) (h2:l.length≤20) (hn:∀j,j<l.length→¬wH l j):k= -1∧e=0:=by
 rcases h with h|h|h
 ·omega
 ·omega
 ·have:=h.2.2.1.none hn;refine⟨this,?_⟩;rw[h.2.2.2,this,qai (by omega)]
theorem Kw {rows sp:List (List PV)}:pC mx 139 [.sl rows sp] (.gM 226 [.ptr [.sl rows sp]]):=by
 refine pZ N5 ?_
 iterate 129 intro _
 intro zI aU aV bC bA ag aC;refine gK ?_;refine aX ?_;rfl
theorem Kx {rows sp:List (List PV)} {l:List cT} {k e:Int} (hr:rows=l.map cT.enc) (hl:l.length<2^32) (dD:fh l k e):pC mx 62 [.sl rows sp] (.eN [.int .i64 k,.int .i64 e]):=by
 have hlen:rows.length=l.length:=by simp[hr]
 refine DI (rs:=[.int .i64 k,.int .i64 e]) (BS mixed N4 (leT rfl) (az (F:=fun A=>fw (CC Tryz.prog (GG mx)) A (Hf Tryz.prog (GG mx)) aap (Am.start 49 [.sl rows sp]) (fun e' s=>match e' with|.normal=>wg Tryz.prog (GG mx) A 1 23 [24,25] RU RV RW (ri [.cell 2 none,.cell 3 none] [] ([.int .i64 k,.int .i64 e].map .pv)) s|e'=>ri [.cell 2 none,.cell 3 none] [] ([.int .i64 k,.int .i64 e].map .pv) e' s)) ?_))
 iterate 32 intro _
 intro Bw
 iterate 45 intro _
 intro Ga vU Gb
 iterate 40 intro _
 intro df aw bu mz aI aQ aJ aP zI aU aV bC bA ag aC;refine ej ?_;refine bp.af (fun h1=>?_) (fun h1=>?_)
 ·replace h1:=eE h1
  refine aY ?_;obtain⟨rfl,rfl⟩:=dD.short (by omega);refine j0 (fg (t:=[]) [] (by cbv) rfl (by cbv) rfl rfl rfl)
 ·replace h1:=eE h1
  refine aY ?_;refine bp.af (fun h2=>?_) (fun h2=>?_)
  ·replace h2:=eE h2
   refine aY ?_;obtain⟨rfl,rfl⟩:=dD.long (by omega);refine j0 (fg (t:=[]) [] (by cbv) rfl (by cbv) rfl rfl rfl)
  ·replace h2:=eE h2
   refine aY ?_
   have h0l:0<l.length:=by omega
   obtain⟨x,hx⟩:∃x,l[0]=x:=⟨_,rfl⟩;obtain⟨jd,Ao,Ap⟩:=x
   have bG:aJ 0 rows 3:=by rw[←aP,hr];exact aO (enc:=cT.enc) (v:=0) h0l rfl
   have aW:aI rows 0=[.str jd,.int .i64 Ao,.int .i64 Ap]:=by rw[←aQ,hr];exact(aN (enc:=cT.enc) (v:=0) h0l).trans (by rw[hx];rfl)
   have Zd:kl l 0=⟨jd,Ao,Ap⟩:=by rw[Cx h0l,hx]
   refine ae bG ?_;rw[aW];refine gK ?_;refine cU (by cbv) (F9 rfl) (fun h=>?_) (fun h=>?_)<;>simp only[qae,qad]at h
   ·refine gK ?_;refine ao (by cbv) Kw (fun h=>by first|rfl|cases h) ?_;refine gK ?_
    have YF:¬wH l 0:=by
     rintro(h'|⟨h',-⟩)
     ·rw[Zd]at h';exact h' h
     ·omega
    have hN:(lI l).length=l.length-1:=by simp[lI]
    have hx:∀x∈lI l,x.length=2:=by
     intro x hx;obtain⟨j,-,rfl⟩:=qaw.1 hx;rfl
    refine j0 (G5 _ (Fg.ca [2,3,23] ([none,none,some 2,some 3]++List.replicate 45 none) rfl (by cbv)) 226 [.ptr [.sl rows sp]] (lI l) (fun _=>[none,none,some (.cells [.pv (.int .i64 0)]),some (.cells [.pv (.int .i64 0)])]++List.replicate 45 none) (fun j=>¬wH l (j+1)) rfl (Ku hr hl (by intro h';rw[h']at hlen;simp at hlen;omega)) hx rfl ?_ ?_)
    ·intro v hv eL
     have rB:v+1<l.length:=by omega
     have abB:v<l.length:=by omega
     have hk:∀j,j<v+1→¬wH l j:=fun j hj=>by
      rcases j with _|j
      ·exact YF
      ·exact eL j (by omega)
     obtain⟨⟨pa,aa,da⟩,hxa⟩:∃x,l[v]=x:=⟨_,rfl⟩;obtain⟨⟨pb,ab,db⟩,Yl⟩:∃x,l[v+1]=x:=⟨_,rfl⟩
     have hka:kl l v=⟨pa,aa,da⟩:=by rw[Cx abB,hxa]
     have Qv:kl l (v+1)=⟨pb,ab,db⟩:=by rw[Cx rB,Yl]
     have bad:wH l (v+1)→k=Int.ofNat (v+1)∧e=200:=fun h=>dD.bad (by omega) (by omega) rB h hk
     have hxk:(lI l)[v]=[.int .i64 (Int.ofNat v),.agg [.str pa,.int .i64 aa,.int .i64 da,.str pb,.int .i64 ab,.int .i64 db]]:=by
      simp[lI,qab,rB,abB,hxa,Yl,cT.enc]
     have ho0:vU 0 3=0:=by rw[←Gb];rfl
     have ho1:vU 1 3=3:=by rw[←Gb];rfl
     have hi0:Bw 0 2:=by rw[←Ga];simp[aF]
     have hi1:Bw 1 2:=by rw[←Ga];simp[aF]
     rw[hxk];refine ej ?_;refine j0 ⟨rfl,?_⟩;refine ej ?_;refine ae hi0 ?_;rw[ho0];refine gK ?_;refine ae hi1 ?_;rw[ho1];refine gK ?_;refine cU (by cbv) (F9 rfl) (fun h2=>?_) (fun h2=>?_)<;>simp only[qae,qad]at h2
     ·refine gK ?_;refine bp.af (fun ht=>?_) (fun ht=>?_)
      ·rw[←bC]at ht;simp at ht;refine aY ?_;obtain⟨rfl,rfl⟩:=bad (.inr ⟨by omega,.inl (by rw[Qv,qbp,hka];exact ht)⟩)
       have hs:bu .i64 (df (Int.ofNat v) 1)=Int.ofNat (v+1):=by rw[←mz,←aw];exact kY (by omega)
       rw[hs];refine j0 ⟨_,Fg.refl _,rfl,fg (t:=[]) [] (by cbv) rfl (by cbv) rfl rfl rfl⟩
      ·rw[←bC]at ht;simp at ht;refine aY ?_;refine bp.af (fun hq=>?_) (fun hq=>?_)
       ·rw[←aU]at hq;simp at hq;refine aY ?_;obtain⟨rfl,rfl⟩:=bad (.inr ⟨by omega,.inr (by rw[Qv,qbp,hka];exact hq)⟩)
        have hs:bu .i64 (df (Int.ofNat v) 1)=Int.ofNat (v+1):=by rw[←mz,←aw];exact kY (by omega)
        rw[hs];refine j0 ⟨_,Fg.refl _,rfl,fg (t:=[]) [] (by cbv) rfl (by cbv) rfl rfl rfl⟩
       ·rw[←aU]at hq;simp at hq;refine aY ?_;refine j0 ⟨_,Fg.ca [] ([none,none,some 2,some 3]++List.replicate 45 none) rfl (by cbv),rfl,?_,rfl⟩;rintro(h'|⟨-,h'|h'⟩)
        ·rw[Qv]at h';exact h' h2
        ·rw[Qv,qbp,hka]at h';dsimp only at h';omega
        ·rw[Qv,qbp,hka]at h';exact hq h'
     ·refine gK ?_;obtain⟨rfl,rfl⟩:=bad (.inl (by rw[Qv];exact h2))
      have hs:bu .i64 (df (Int.ofNat v) 1)=Int.ofNat (v+1):=by rw[←mz,←aw];exact kY (by omega)
      rw[hs];refine j0 ⟨_,Fg.refl _,rfl,fg (t:=[]) [] (by cbv) rfl (by cbv) rfl rfl rfl⟩
    ·intro eL;refine ej ?_
     obtain⟨rfl,rfl⟩:=dD.Hh (by omega) (by omega) (fun j hj=>by
      rcases j with _|j
      ·exact YF
      ·exact eL j (by omega))
     refine j0 (fg (t:=[]) [] (by cbv) rfl (by cbv) rfl rfl rfl)
   ·refine gK ?_;obtain⟨rfl,rfl⟩:=dD.bad (by omega) (by omega) h0l (.inl (by rw[Zd];exact h)) (fun j hj=>by omega);refine j0 (fg (t:=[]) [] (by cbv) rfl (by cbv) rfl rfl rfl)
def PB (l:List bw) (calls:Int) (i:Nat):Prop:=∀h:i<l.length,(1≤l[i].id∧l[i].id≤999999)∧(i≠0→∀h':i-1<l.length,l[i-1].id<l[i].id)∧(l[i].size=40∨(l[i].size=20∧l[i].high=false))∧0≤l[i].load∧l[i].load<l[i].discharge∧l[i].discharge<calls
def je (l:List bw) (calls:Int):Prop:=(1≤calls∧calls≤20)∧l.length≤2000∧∀i,i<l.length→PB l calls i
def py (l:List bw):Nat→Int
 |0=>0
 |v+1=>(l.getD v ⟨0,[],0,false,0,0,0,0,false⟩).id
theorem pV {l:List bw} {v:Nat} (h:v<l.length):py l (v+1)=l[v].id:=by simp[py,qab,h]
noncomputable def uc (l:List bw) (k:Int) (v:Nat):List Int:=((l.take v).filter (fun b=>decide (lG b k))).map (·.id)
theorem Cz {l:List bw} {k:Int} {v:Nat} (h:v<l.length):uc l k (v+1)=if lG l[v] k then uc l k v++[l[v].id]else uc l k v:=by
 unfold uc;rw[qan h,qb4]
 by_cases hp:lG l[v] k<;>simp[hp]
theorem Aq {l:List bw} {k:Int} {v:Nat}:(uc l k v).length≤l.length:=by
 unfold uc;rw[qap];exact qbr (qbB _ _) (by simp;omega)
theorem Ky {rows sp:List (List PV)} {l:List bw} {calls:Int} {r:Bool} (hr:rows=l.map bw.enc) (hl:l.length<2^32) (dD:r=decide (je l calls)):pC mx 142 [.sl rows sp,.int .i64 calls] (.bool r):=by
 have hlen:rows.length=l.length:=by simp[hr]
 refine pZ N6 ?_
 iterate 122 intro _
 intro aw _ mz aI aQ aJ aP zI aU aV bC bA ag aC;refine gK ?_
 repeat' (first|refine gH ?_|(refine iE (fun hc=>?_) (fun hc=>?_)<;>(try simp at hc)<;>(try(exfalso;omega))))
 all_goals try(refine aX ?_;exact fa dD (fun h=>by have:=h.1;have:=h.2.1;omega))
 refine bQ [0,1,19,20,5,21] [] (fun v σ_=>σ_.put (some 21) (.pv (.int .i64 (Int.ofNat v)))|>.put (some 5) (.pv (.int .i64 (py l v)))) (l.length) (fun k=>PB l calls k) ?_;intro v hv hk
 try dsimp only
 generalize hla:py l v=la;refine ej ?_;refine bp.af (fun hd=>?_) (fun hd=>?_)
 ·have aT:v<l.length:=by rw[←aC,←ag]at hd;simp at hd;omega
  obtain⟨gI,bj⟩:∃x,l[v]=x:=⟨_,rfl⟩
  have bG:aJ (Int.ofNat v) rows 9:=by rw[←aP,hr];exact aO (enc:=bw.enc) aT rfl
  obtain⟨⟨iN,fO,eZ,Ut,eG,eA,gi,jl,dI⟩,bW⟩:∃y,gI=y:=⟨_,rfl⟩;subst bW
  have aW:aI rows (Int.ofNat v)=[.int .i64 iN,.str fO,.int .u8 eZ,.bool Ut,.int .i64 eG,.int .i64 eA,.int .i64 gi,.int .u8 jl,.bool dI]:=by rw[←aQ,hr,aN (enc:=bw.enc) aT,bj];rfl
  have vx:py l (v+1)=iN:=by rw[pV aT,bj]
  have bad:¬PB l calls v→¬je l calls:=fun h h'=>h (h'.2.2 v aT)
  have l5:PB l calls v↔(py l v<iN∧iN≤999999)∧(eZ=40∨(eZ=20∧Ut=false))∧0≤eA∧eA<gi∧gi<calls:=by
   constructor
   ·intro h;have:=h aT;rw[bj]at this;obtain⟨⟨h1,h2⟩,h3,h4,h5⟩:=this;refine⟨⟨?_,h2⟩,h4,h5⟩
    rcases v with _|v
    ·simp[py];dsimp only at h1;omega
    ·rw[pV (by omega)];exact h3 (by omega) (by omega)
   ·rintro⟨⟨h1,h2⟩,h4,h5⟩ _;rw[bj];refine⟨⟨?_,h2⟩,?_,h4,h5⟩
    ·rcases v with _|v
     ·simp[py]at h1;dsimp only;omega
     ·have:=(hk v (by omega) (by omega)).1.1;rw[pV (by omega)]at h1;dsimp only;omega
    ·intro h0 K3
     rcases v with _|v
     ·omega
     ·rw[pV (by omega)]at h1;exact h1
  rw[hla]at l5
  rcases Ut with _|_
  all_goals
   refine aY ?_;refine ae bG ?_;rw[aW];refine gK ?_
   repeat' (first|refine gH ?_|(refine iE (fun hc=>?_) (fun hc=>?_)<;>(try simp at hc)<;>(try(exfalso;omega))))
   all_goals first
    |refine ta ⟨aT,l5.2 (by first|omega|(simp;omega)),?_⟩
     rw[wS mz aw (v:=v) (by omega)];rw[vx]
     cbv
    |skip
     refine dS ?_;exact fa dD (bad (by rw[l5];first|omega|(simp;omega)))
 ·have aT:v=l.length:=by rw[←aC,←ag]at hd;simp at hd;omega
  refine aY ?_;refine wW rfl ?_;refine gK ?_;refine aX ?_;exact tr dD ⟨by omega,by omega,fun i hi=>hk i (by omega)⟩
end Go.bt
end
