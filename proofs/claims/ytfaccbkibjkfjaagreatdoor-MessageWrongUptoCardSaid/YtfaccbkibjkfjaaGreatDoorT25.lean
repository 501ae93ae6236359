import Derived.Test.YtfaccbkibjkfjaaGreatDoorT24
import Derived.Test.YtfaccbkibjkfjaaGreatDoorT11
import Derived.Test.YtfaccbkibjkfjaaGreatDoorT23
import Derived.Test.YtfaccbkibjkfjaaGreatDoorT20
import Derived.Test.YtfaccbkibjkfjaaGreatDoorT10
set_option linter.all false
set_option maxRecDepth 100000
set_option maxHeartbeats 1000000
section
open Go Go.Am Go.Proofs
attribute [local irreducible] Am.bp.holds bH fw bP ek
namespace Go.bt
variable {mx:Int}
open Classical
theorem Hf {l:List bw}:fS 9 (l.map bw.enc):=by
 intro r hr;obtain⟨x,-,rfl⟩:=List.mem_map.1 hr;obtain⟨a,b,c,d,e,f,g,h,i⟩:=x;exact⟨rfl,by simp[bw.enc]⟩
theorem Kh {b:bw} {l:List bw} (h:lG b (Int.ofNat 0)):b.id∈uc (b::l) (Int.ofNat 0) (b::l).length:=by
 unfold uc;rw[List.take_length];exact List.mem_map.2 ⟨b,List.mem_filter.2 ⟨List.mem_cons_self ..,decide_eq_true h⟩,rfl⟩
theorem VU (HB:pC mx 12 [] (.bool true)) {ph psp td isp:List (List PV)} {PL:List Place} {L:List Item} {covers n0 way:Int}
  (hp:ph=PL.map Place.enc) (Up:∀x∈PL,xw x) (xT:PL.length<2^32) (Tp:0≤covers∧covers<2^32) (hi:td=L.map Item.enc) (xR:∀x∈L,BM x) (hl:L.length<2^32) (hn0:0≤n0∧n0<256) (hway:0≤way∧way<256):
  pC mx 9 [.sl ph psp,.int .u32 covers,.sl td isp,.int .u8 n0,.int .u8 way] (.bool true):=by
 obtain⟨cl,uy⟩:∃x,x=ie PL:=⟨_,rfl⟩;obtain⟨vl,rB⟩:∃x,x=cJ covers 5:=⟨_,rfl⟩;obtain⟨N,wI⟩:∃x,x=2+n0%5:=⟨_,rfl⟩
 have hN5:2≤N∧N≤6:=by
  have h1:=Int.emod_nonneg n0 (by decide:(5:Int)≠0);have h2:=Int.emod_lt_of_pos n0 (by decide:(0:Int)<5);omega
 obtain⟨calls,hN⟩:∃c:Nat,N=Int.ofNat c:=⟨N.toNat,by simp;omega⟩;have hNc:N=(calls:Int):=hN;obtain⟨n,hn⟩:∃x,x=min L.length 12:=⟨_,rfl⟩;obtain⟨M,hM⟩:∃x,x=L.take n:=⟨_,rfl⟩;obtain⟨Ew,Mv⟩:∃x,x=(cl.length:Int):=⟨_,rfl⟩;obtain⟨home,DT⟩:∃x,x=BZ M Ew:=⟨_,rfl⟩;obtain⟨⟨B,SS⟩,YS⟩:∃x,x=rounds cl vl home calls (n+1) (fU M N n):=⟨_,rfl⟩;obtain⟨rows,iv⟩:∃x,x=cl.map aL.enc:=⟨_,rfl⟩;obtain⟨pz,rI⟩:∃x,x=vl.map bz.enc:=⟨_,rfl⟩
 obtain⟨gy,wO⟩:∃x,x=(gB calls).map cT.enc:=⟨_,rfl⟩;obtain⟨brows,jb⟩:∃x,x=(lP [] B B.length).map bw.enc:=⟨_,rfl⟩;obtain⟨srows,hS⟩:∃x,x=SS.map Tu:=⟨_,rfl⟩;have hv:=Mx (mx:=mx) (psp:=psp) (isp:=isp) (mrows:=[]) (msp:=[]) (more:=[]) hp Up xT Tp hi xR hl rfl (fun x hx=>by simp at hx) (by simp) hn0 uy rB wI hN hn hM Mv DT YS iv rI wO jb hS;obtain⟨GD,pH⟩:=GQ PL;obtain⟨YC,Zc⟩:=Kg PL;obtain⟨Ma,gh,hv3⟩:=B3 (covers:=covers) (v:=5)
 rw[←uy]at GD pH YC Zc;rw[←rB]at Ma gh hv3
 have hMl:M.length=n:=by rw[hM];simp;omega
 have abt:∀b∈fU M N n,∃i,∃h:i<M.length,i<n∧b=kX N i M[i]:=fun b hb=>Ch hb
 have Uq:∀b∈fU M N n,b.id≠0∧b.id≠1:=fun b hb=>by
  obtain⟨i,h1,h2,rfl⟩:=abt b hb;simp only[kX];omega
 have WW:fj cl vl B home calls=.inl SS:=by
  have:=He (cl:=cl) (vl:=vl) (home:=home) (calls:=calls) (n:=n+1) (boxes:=fU M N n) (by rw[o9 (by omega)];omega) (fun b hb=>(Uq b hb).1);rw[←YS]at this;exact this
 have fu:B.Sublist (fU M N n):=by
  have:=Hc (cl:=cl) (vl:=vl) (home:=home) (calls:=calls) (n:=n+1) (boxes:=fU M N n);rw[←YS]at this;exact this
 have hBl:B.length≤12:=by have:=fu.length_le;rw[o9 (by omega)]at this;omega
 have abz:∀b∈B,og b:=fun b hb=>by
  obtain⟨i,h1,h2,rfl⟩:=abt b (fu.subset hb);exact Eh (xR _ (List.mem_of_mem_take (by rw[←hM];exact List.getElem_mem h1))) hN5 (by omega)
 obtain⟨hSl,hSf⟩:=s5 WW;have hSn:=Hb WW;obtain⟨B2,Wc⟩:∃x,x=lP [] B B.length:=⟨_,rfl⟩
 have hB2l:B2.length=B.length:=by rw[Wc];exact rf (Nat.le_refl _)
 have My:∀b∈B2,og b:=fun b hb=>by
  rw[Wc]at hb;obtain⟨c,hc,hlk⟩:=O6 hb;exact Ve hlk (abz c hc)
 obtain⟨sl,oa⟩:∃x,x=SS.map fun l=>(⟨l,[]⟩:Stat):=⟨_,rfl⟩
 have abA:sl.length=calls:=by rw[oa,List.length_map,hSl]
 have Pl:srows=sl.map Stat.enc:=by rw[hS,oa,List.map_map];rfl
 have Ur:∀x∈sl,x.l.length<2^32∧∀y∈x.l,kL y:=fun x hx=>by
  rw[oa]at hx;obtain⟨l,LI,rfl⟩:=List.mem_map.1 hx;refine⟨?_,xx (hSf l LI) abz (by omega) (fun c hc=>by have:=(GD c hc).2.2.1;omega)⟩;have:=hSn l LI;show l.length<2^32;omega
 rw[←Wc]at jb
 have bad:∀{Us:List cT} {nT:List bw} {Zg:List Stat} {YX Y0 sr2:List (List PV)},YX=Us.map cT.enc→Y0=nT.map bw.enc→sr2=Zg.map Stat.enc→Us.length<2^32→nT.length<2^32→Zg.length<2^32→(∀b∈nT,og b)→(∀x∈Zg,x.l.length<2^32∧∀y∈x.l,kL y)→
   (∀k1 i2 k3,fh Us k1 0→ib nT i2 0→dq cl vl nT (Int.ofNat Us.length) Zg k3 0→False)→
   pC mx 21 [.agg [.sl rows [],.sl pz [],.int .i64 0,.int .i64 0,.int .i64 0,.int .i64 0,.sl [] [],.sl [] [],.sl [] [],.int .i64 0,.int .i64 0,.int .i64 0,.int .i64 0],.sl YX [],.sl Y0 [],.agg [.sl sr2 [],.sl [] []],.int .i64 0] (.eN [At,.int .i64 2]):=by
  intro Us nT Zg YX Y0 sr2 h1 h2 h3 h4 h5 h6 h7 h8 h9;obtain⟨k1,e1,g1⟩:=fh.ex Us;obtain⟨i2,e2,g2⟩:=Ck nT;obtain⟨k3,e3,g3⟩:=dq.ex cl vl nT (Int.ofNat Us.length) Zg
  have eb:¬(e1=0∧e2=0∧e3=0):=by
   rintro⟨rfl,rfl,rfl⟩;exact h9 k1 i2 k3 g1 g2 g3
  have he:wW e1 e2 e3 (Int.ofNat Us.length) 0=2:=by rw[wW,if_neg eb]
  exact YI iv rI (by omega) (by omega) (fun x hx=>by rw[(GD x hx).2.2.2.1];decide) (fun x hx=>by rcases(Ma x hx).2.2 with h|h<;>rw[h]<;>decide) rfl h1 h4 h3 h6 h2 h5 h7 h8 g1 g2 g3 he.symm (by decide)
 refine pZ Zw ?_
 iterate 84 intro _
 intro nJ EB _ _ _ _ _ _ _ _ kK _ _ _ _ _ _ Ab _ _ _ _ _ _ eo _ _ _ oZ sg uP l8 dF bJ bX _ _ _ _ _ _ aI aQ aJ aP aB aU aV bC bA ag aC;refine gK ?_;refine ao (by cbv) HB (fun h=>by first|rfl|cases h) ?_;refine gK ?_;obtain⟨w5,hw5⟩:∃x,x=way%5:=⟨_,rfl⟩
 have h5:oZ way 5=w5:=by rw[←sg,hw5];exact Int.tmod_eq_emod_of_nonneg hway.1
 have hw:w5=0∨w5=1∨w5=2∨w5=3∨w5=4:=by omega
 clear hw5
 refine CA (by cbv) hv ?_;refine go 16 (by cbv) ?_;refine BA ?_
 rcases hw with rfl|rfl|rfl|rfl|rfl
 ·refine vW (Fg.sC (id:=75) rfl rfl) ?_;refine gK ?_;rw[h5];refine ae (by rw[←Ab];simp) ?_;refine gK ?_;refine MP ?_;refine aY ?_
  have hsrl:srows.length=calls:=by rw[Pl,List.length_map,abA]
  refine ae (by rw[←kK,←ag];exact⟨by decide,by simp only[X5,hsrl];omega,by simp,.inr (by rw[Pl];exact bl (enc:=Stat.enc) (fun _=>rfl) _)⟩) ?_;obtain⟨sr2,abG⟩:∃x,x=(sl.tail).map Stat.enc:=⟨_,rfl⟩
  have PU:eo srows 1 (l8 srows)=sr2:=by
   rw[←uP,←ag,abG,Pl];simp only[aF,List.length_map];rw[List.map_tail,←List.drop_one];exact List.take_of_length_le (by simp)
  rw[PU]
  have L3:=bad wO jb abG (by rw[fT];omega) (by omega) (by rw[List.length_tail];omega) My (fun x hx=>Ur x (List.mem_of_mem_tail hx)) (fun k1 i2 k3 g1 g2 g3=>by
   have h1:=g3.zero.2.2.1;rw[List.length_tail,abA,fT]at h1;have h2:((calls-1:Nat):Int)=(calls:Int):=h1
   omega)
  refine gK ?_;refine ao (by cbv) L3 (fun h=>by first|rfl|cases h) ?_;refine gK ?_;refine MP ?_;refine aY ?_;refine ao (by cbv) (uQ (rows:=[]) (brows:=[]) (l:=[]) (boxes:=[]) rfl rfl (by simp) (by simp)) (fun h=>by first|rfl|cases h) ?_;refine gK ?_;refine aX ?_;rfl
 ·refine gK ?_;rw[h5];refine ae (by rw[←Ab];simp) ?_;refine gK ?_;refine Pk ?_;refine aY ?_;refine MP ?_;refine aY ?_
  have hkrl:gy.length=calls:=by rw[wO,List.length_map,fT]
  have Zd:(0:Nat)<(gB calls).length:=by rw[fT];omega
  have WH:(1:Nat)<(gB calls).length:=by rw[fT];omega
  have hin0:aJ 0 gy 3:=by rw[←aP,wO];exact(aO (enc:=cT.enc) Zd rfl:aF.tu (Int.ofNat 0) _ _)
  have mz:aJ 1 gy 3:=by rw[←aP,wO];exact(aO (enc:=cT.enc) WH rfl:aF.tu (Int.ofNat 1) _ _)
  have WX:aI gy 0=[.str (zL 0).port,.int .i64 1000,.int .i64 0]:=by rw[←aQ,wO];exact(aN (enc:=cT.enc) Zd:aF.rat _ (Int.ofNat 0)=_).trans (by simp[gB];rfl)
  obtain⟨pt,Up⟩:∃x,x=(zL 0).port:=⟨_,rfl⟩;rw[←Up]at WX;obtain⟨Us,Y1⟩:∃x,x=(gB calls).set 1 {zL 1 with port:=pt}:=⟨_,rfl⟩
  have hkl2l:Us.length=calls:=by rw[Y1,List.length_set,fT]
  obtain⟨YX,Ut⟩:∃x,x=Us.map cT.enc:=⟨_,rfl⟩
  have ow:nJ gy 1 0 [.str pt]=YX:=by
   rw[←EB,Ut,Y1,List.map_set,wO];show((gB calls).map cT.enc).set 1 (jL 0 [.str pt] (((gB calls).map cT.enc).getD 1 []))=_
   congr 1
   rw[List.getD_eq_getElem?_getD,List.getElem?_map,List.getElem?_eq_getElem WH];simp[gB,zL,cT.enc,jL]
  refine ae hin0 ?_;refine gK ?_;rw[WX];refine aY ?_;refine ae mz ?_
  have L3:=bad Ut jb Pl (by omega) (by omega) (by omega) My Ur (fun k1 i2 k3 g1 g2 g3=>by
   rcases g1 with⟨-,-,h⟩|⟨-,-,h⟩|⟨h1,h2,h3,h4⟩
   ·simp at h
   ·simp at h
   ·have hk:¬0≤k1:=fun h=>by rw[if_pos h]at h4;simp at h4
    rcases h3 with⟨h3,-⟩|⟨v,-,-,-,h3⟩
    ·refine h3 1 (by omega) (.inr ⟨by omega,.inr ?_⟩);rw[Cx (by omega),show(1:Nat)-1=0 from rfl,Cx (by omega)];simp[Y1,gB,Up]
    ·exact hk (by rw[h3];simp))
  refine go 4 (by cbv) ?_;refine BA ?_;rw[ow];refine Cy rfl (Fg.sC (id:=75) rfl rfl) ?_;refine gK ?_;refine ao (by cbv) L3 (fun h=>by first|rfl|cases h) ?_;refine gK ?_;refine MP ?_;refine aY ?_;refine ao (by cbv) (uQ (rows:=[]) (brows:=[]) (l:=[]) (boxes:=[]) rfl rfl (by simp) (by simp)) (fun h=>by first|rfl|cases h) ?_;refine gK ?_;refine aX ?_;rfl
 ·refine vW (Fg.sC (id:=75) rfl rfl) ?_;refine gK ?_;rw[h5];refine ae (by rw[←Ab];simp) ?_;refine gK ?_;refine Pk ?_;refine aY ?_;refine Pk ?_;refine aY ?_;refine MP ?_;refine aY ?_
  have hkrl:gy.length=calls:=by rw[wO,List.length_map,fT]
  refine ae (by rw[←kK];exact⟨by decide,by decide,by omega,.inl rfl⟩) ?_;obtain⟨YX,Ut⟩:∃x,x=((gB calls).take 1).map cT.enc:=⟨_,rfl⟩
  have PU:eo gy 0 1=YX:=by rw[←uP,Ut,wO];simp[aF,List.map_take]
  rw[PU]
  have AB:((gB calls).take 1).length=1:=by rw[List.length_take,fT];omega
  have L3:=bad Ut jb Pl (by rw[AB];decide) (by omega) (by omega) My Ur (fun k1 i2 k3 g1 g2 g3=>by
   have:=(g1.short (by rw[AB];decide)).2
   simp at this)
  refine gK ?_;refine ao (by cbv) L3 (fun h=>by first|rfl|cases h) ?_;refine gK ?_;refine MP ?_;refine aY ?_;refine ao (by cbv) (uQ (rows:=[]) (brows:=[]) (l:=[]) (boxes:=[]) rfl rfl (by simp) (by simp)) (fun h=>by first|rfl|cases h) ?_;refine gK ?_;refine aX ?_;rfl
 ·refine vW (Fg.sC (id:=75) rfl rfl) ?_;refine gK ?_;rw[h5];refine ae (by rw[←Ab];simp) ?_;refine gK ?_;obtain⟨b9,V6⟩:∃x:bw,x=⟨1,[],40,false,1,0,1,0,false⟩:=⟨_,rfl⟩;obtain⟨Y0,MN⟩:∃x,x=(b9::B2).map bw.enc:=⟨_,rfl⟩
  have L3:=bad wO MN Pl (by rw[fT];omega) (by simp;omega) (by omega) (fun b hb=>by
   rcases List.mem_cons.1 hb with rfl|hb
   ·rw[V6];unfold og Lc;dsimp only;omega
   ·exact My b hb) Ur (fun k1 i2 k3 g1 g2 g3=>by
   have hbd:=g3.zero.2.2.2 0 (by omega);refine hbd (.inr ?_);intro he;have h1:=Kh (b:=b9) (l:=B2) (by rw[V6];exact⟨by decide,by decide⟩);rw[←he,show b9.id=1 by rw[V6]]at h1;obtain⟨y,hy,Zj⟩:=List.mem_map.1 h1
   have h0:0<SS.length:=by omega
   have Y2:(tq sl 0).l=SS[0]:=by rw[mC (by omega)];simp[oa]
   rw[Y2]at hy;obtain⟨b,hb,LF⟩:=Mn (hSf _ (List.getElem_mem h0)) hy
   exact(Uq b (fu.subset hb)).2 (LF.trans Zj))
  refine Pk ?_;refine aY ?_;refine Pk ?_;refine aY ?_;refine Pk ?_;refine aY ?_;refine MP ?_;refine aY ?_
  have PU:bJ [[.int .i64 1,.str [],.int .u8 40,.bool false,.int .i64 1,.int .i64 0,.int .i64 1,.int .u8 0,.bool false]] brows=Y0:=by rw[←bX,MN,jb,V6];rfl
  refine ae (by rw[←dF,jb];exact⟨by simp;omega,by simp;omega,Hf,fun r hr=>by simp at hr;rw[hr];rfl⟩) ?_;rw[PU];refine go 4 (by cbv) ?_;refine BA ?_;refine Cy rfl (Fg.sC (id:=57) rfl rfl) ?_;refine gK ?_;refine ao (by cbv) L3 (fun h=>by first|rfl|cases h) ?_;refine gK ?_;refine MP ?_;refine aY ?_;refine ao (by cbv) (uQ (rows:=[]) (brows:=[]) (l:=[]) (boxes:=[]) rfl rfl (by simp) (by simp)) (fun h=>by first|rfl|cases h) ?_
  refine gK ?_;refine aX ?_;rfl
 ·refine vW (Fg.sC (id:=75) rfl rfl) ?_;refine gK ?_;rw[h5];refine ae (by rw[←Ab];simp) ?_;refine gK ?_;obtain⟨b9,V6⟩:∃x:bw,x=⟨1,[],40,false,0,0,1,0,false⟩:=⟨_,rfl⟩;obtain⟨Y0,MN⟩:∃x,x=(b9::B2).map bw.enc:=⟨_,rfl⟩
  have L3:=bad wO MN Pl (by rw[fT];omega) (by simp;omega) (by omega) (fun b hb=>by
   rcases List.mem_cons.1 hb with rfl|hb
   ·rw[V6];unfold og Lc;dsimp only;omega
   ·exact My b hb) Ur (fun k1 i2 k3 g1 g2 g3=>by
   have hbd:=g3.zero.2.2.2 0 (by omega);refine hbd (.inr ?_);intro he;have h1:=Kh (b:=b9) (l:=B2) (by rw[V6];exact⟨by decide,by decide⟩);rw[←he,show b9.id=1 by rw[V6]]at h1;obtain⟨y,hy,Zj⟩:=List.mem_map.1 h1
   have h0:0<SS.length:=by omega
   have Y2:(tq sl 0).l=SS[0]:=by rw[mC (by omega)];simp[oa]
   rw[Y2]at hy;obtain⟨b,hb,LF⟩:=Mn (hSf _ (List.getElem_mem h0)) hy
   exact(Uq b (fu.subset hb)).2 (LF.trans Zj))
  refine Pk ?_;refine aY ?_;refine Pk ?_;refine aY ?_;refine Pk ?_;refine aY ?_;refine Pk ?_;refine aY ?_
  have PU:bJ [[.int .i64 1,.str [],.int .u8 40,.bool false,.int .i64 0,.int .i64 0,.int .i64 1,.int .u8 0,.bool false]] brows=Y0:=by rw[←bX,MN,jb,V6];rfl
  refine ae (by rw[←dF,jb];exact⟨by simp;omega,by simp;omega,Hf,fun r hr=>by simp at hr;rw[hr];rfl⟩) ?_;rw[PU];refine go 4 (by cbv) ?_;refine BA ?_;refine Cy rfl (Fg.sC (id:=32) rfl rfl) ?_;refine gK ?_;refine ao (by cbv) L3 (fun h=>by first|rfl|cases h) ?_;refine gK ?_;refine MP ?_;refine aY ?_;refine ao (by cbv) (uQ (rows:=[]) (brows:=[]) (l:=[]) (boxes:=[]) rfl rfl (by simp) (by simp)) (fun h=>by first|rfl|cases h) ?_
  refine gK ?_;refine aX ?_;rfl
end Go.bt
end
