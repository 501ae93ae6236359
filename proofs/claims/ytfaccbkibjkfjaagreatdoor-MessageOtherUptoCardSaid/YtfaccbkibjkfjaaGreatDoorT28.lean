import Derived.Test.YtfaccbkibjkfjaaGreatDoorT27
import Derived.Test.YtfaccbkibjkfjaaGreatDoorT24
import Derived.Test.YtfaccbkibjkfjaaGreatDoorT10
import Derived.Test.YtfaccbkibjkfjaaGreatDoorT20
import Derived.Test.YtfaccbkibjkfjaaGreatDoorT25
import Derived.Test.YtfaccbkibjkfjaaGreatDoorT11
set_option linter.all false
set_option maxRecDepth 100000
set_option maxHeartbeats 1000000
section
open Go Go.Am Go.Proofs
namespace Go.bt
variable {mx:Int}
open Classical
structure afS (cl:List aL) (vl:List bz) (calls:Nat) (B2:List bw) (sl:List Stat):Prop where
 Hh:acL B2
 few:B2.length≤12
 ty:∀b∈B2,og b
 len:sl.length=calls
 sp:∀x∈sl,x.sp=[]
 sty:∀x∈sl,x.l.length<2^32∧∀y∈x.l,kL y
 oz:∀b∈B2,b.discharge<(calls:Int)
 st:∀j,j<sl.length→gC cl vl B2 (tq sl j).l∧(tq sl j).l.map (·.box)=uc B2 (Int.ofNat j) B2.length
theorem ahA {ph psp td isp ado msp rows pz gy:List (List PV)} {PL:List Place} {L:List Item} {more:List Int} {covers n0 N:Int} {calls:Nat} {cl:List aL} {vl:List bz}
  (hp:ph=PL.map Place.enc) (Up:∀x∈PL,xw x) (xT:PL.length<2^32) (Tp:0≤covers∧covers<2^32) (hi:td=L.map Item.enc) (xR:∀x∈L,BM x) (hl:L.length<2^32) (hm:ado=m8s more) (hmt:∀x∈more,0≤x∧x<256) (hml:more.length<2^32) (hn0:0≤n0∧n0<256)
  (uy:cl=ie PL) (rB:vl=cJ covers 5) (wI:N=2+n0%5) (hN:N=Int.ofNat calls) (iv:rows=cl.map aL.enc) (rI:pz=vl.map bz.enc) (wO:gy=(gB calls).map cT.enc):
  ∃B2 sl brows srows,afS cl vl calls B2 sl∧brows=B2.map bw.enc∧srows=sl.map Stat.enc∧
   oQ Tryz.prog (GG mx) 35 [.sl ph psp,.int .u32 covers,.sl td isp,.int .u8 n0,.sl ado msp] [(3,gy)] (one? [MX rows pz,.c8 0 0,.pv (.sl brows []),Vf srows]):=by
 have hN5:2≤N∧N≤6:=by
  have h1:=qbb n0 (by decide:(5:Int)≠0);have h2:=qaY n0 (by decide:(0:Int)<5);omega
 have hNc:N=(calls:Int):=hN;obtain⟨n,hn⟩:∃x,x=min L.length 12:=⟨_,rfl⟩;obtain⟨M,hM⟩:∃x,x=L.take n:=⟨_,rfl⟩;obtain⟨Ew,Mv⟩:∃x,x=(cl.length:Int):=⟨_,rfl⟩;obtain⟨home,DT⟩:∃x,x=BZ M Ew:=⟨_,rfl⟩;obtain⟨⟨B,SS⟩,YS⟩:∃x,x=rounds cl vl home calls (n+1) (fU M N n):=⟨_,rfl⟩;obtain⟨brows,jb⟩:∃x,x=(lP more B B.length).map bw.enc:=⟨_,rfl⟩;obtain⟨srows,hS⟩:∃x,x=SS.map Tu:=⟨_,rfl⟩;have hv:=Mx (mx:=mx) (psp:=psp) (isp:=isp) (msp:=msp) hp Up xT Tp hi xR hl hm hmt hml hn0 uy rB wI hN hn hM Mv DT YS iv rI wO jb hS
 obtain⟨GD,pH⟩:=GQ PL;obtain⟨YC,Zc⟩:=Kg PL;obtain⟨Ma,gh,hv3⟩:=B3 (covers:=covers) (v:=5);rw[←uy]at GD pH YC Zc;rw[←rB]at Ma gh hv3
 have hMl:M.length=n:=by rw[hM];simp;omega
 have abt:∀b∈fU M N n,∃i,∃h:i<M.length,i<n∧b=kX N i M[i]:=fun b hb=>Ch hb
 have Uq:∀b∈fU M N n,b.id≠0∧b.id≠1:=fun b hb=>by
  obtain⟨i,h1,h2,rfl⟩:=abt b hb;simp only[kX];omega
 have WW:fj cl vl B home calls=.inl SS:=by
  have:=He (cl:=cl) (vl:=vl) (home:=home) (calls:=calls) (n:=n+1) (boxes:=fU M N n) (by rw[o9 (by omega)];omega) (fun b hb=>(Uq b hb).1);rw[←YS]at this;exact this
 have fu:B.Sublist (fU M N n):=by
  have:=Hc (cl:=cl) (vl:=vl) (home:=home) (calls:=calls) (n:=n+1) (boxes:=fU M N n);rw[←YS]at this;exact this
 have hBl:B.length≤12:=by have:=fu.length_le;rw[o9 (by omega)]at this;omega
 have abz:∀b∈B,og b:=fun b hb=>by
  obtain⟨i,h1,h2,rfl⟩:=abt b (fu.subset hb);exact Eh (xR _ (qbf (by rw[←hM];exact qaf h1))) hN5 (by omega)
 obtain⟨hSl,hSf⟩:=s5 WW;have hSn:=Hb WW;obtain⟨B2,Wc⟩:∃x,x=lP more B B.length:=⟨_,rfl⟩
 have hB2l:B2.length=B.length:=by rw[Wc];exact abY (qak _)
 have My:∀b∈B2,og b:=fun b hb=>by
  rw[Wc]at hb;obtain⟨c,hc,hlk⟩:=O6 hb;exact Ve hlk (abz c hc)
 obtain⟨sl,oa⟩:∃x,x=SS.map fun l=>(⟨l,[]⟩:Stat):=⟨_,rfl⟩
 have abA:sl.length=calls:=by rw[oa,qap,hSl]
 have Ur:∀x∈sl,x.l.length<2^32∧∀y∈x.l,kL y:=fun x hx=>by
  rw[oa]at hx;obtain⟨l,LI,rfl⟩:=qaw.1 hx;refine⟨?_,xx (hSf l LI) abz (by omega) (fun c hc=>by have:=(GD c hc).2.2.1;omega)⟩;have:=hSn l LI;show l.length<2^32;omega
 rw[←Wc]at jb
 have hMt:∀x∈M,BM x:=fun x hx=>xR x (qbf (by rw[←hM];exact hx))
 obtain⟨hg,hd⟩:=ag0 (more:=more) hNc (by omega) (by omega) hMt fu;rw[←Wc]at hg hd
 have kN:fo cl vl:=by rw[uy,rB];exact ad5 PL covers
 refine⟨B2,sl,brows,srows,⟨hg,by omega,My,abA,fun x hx=>?_,Ur,fun b hb=>by rw[←hNc];exact hd b hb,fun j hj=>?_⟩,jb,by rw[hS,oa,qcA];rfl,hv⟩
 ·rw[oa]at hx;obtain⟨l,-,rfl⟩:=qaw.1 hx;rfl
 ·have hj2:j<SS.length:=by omega
  have e:(tq sl j).l=SS[j]:=by rw[mC hj];simp[oa]
  rw[e,Wc];exact af1 kN GD WW (ad7.sublist fu) j hj2
theorem afS.check {cl:List aL} {vl:List bz} {calls:Nat} {B2:List bw} {sl:List Stat} (h:afS cl vl calls B2 sl) (hs:fo cl vl) (hc:1≤calls∧calls≤20) {k e:Int} (hr:dq cl vl B2 (Int.ofNat calls) sl k e):e=0:=by
 refine(hr.Hh hs (h.Hh.pb (by have:=h.few;omega) ⟨by show(1:Int)≤(calls:Int);omega,by show(calls:Int)≤20;omega⟩ h.oz) (by rw[h.len]) fun j hj=>?_).2;obtain⟨h1,h2⟩:=h.st j hj;rintro(hb|hb)
 ·exact hb h1
 ·exact hb h2
theorem afS.boxes {cl:List aL} {vl:List bz} {calls:Nat} {B2:List bw} {sl:List Stat} (h:afS cl vl calls B2 sl) {i e:Int} (hr:ib B2 i e):e=0:=by
 have hb:=(h.Hh.right (by have:=h.few;omega)).2
 rcases hr with⟨h1,-⟩|⟨-,v,hv,-,-,-,L3⟩|⟨-,-,-,h1⟩
 ·have:=h.few;omega
 ·exact absurd (hb v hv) L3
 ·exact h1
end Go.bt
end
section
open Go Go.Am Go.Proofs
attribute [local irreducible] Am.bp.holds bH fw bP ek
namespace Go.bt
variable {mx:Int}
open Classical
theorem ahV (HB:pC mx 12 [] (.bool true)) {ph psp td isp agA jsp ado msp:List (List PV)} {PL:List Place} {L L2:List Item} {more:List Int} {covers n0:Int}
  (hp:ph=PL.map Place.enc) (Up:∀x∈PL,xw x) (xT:PL.length<2^32) (Tp:0≤covers∧covers<2^32) (hi:td=L.map Item.enc) (xR:∀x∈L,BM x) (hl:L.length<2^32) (hj:agA=L2.map Item.enc) (hjty:∀x∈L2,BM x) (xe:L2.length<2^32) (hn0:0≤n0∧n0<256) (hm:ado=m8s more) (hmt:∀x∈more,0≤x∧x<256) (hml:more.length<2^32):
  pC mx 8 [.sl ph psp,.int .u32 covers,.sl td isp,.sl agA jsp,.int .u8 n0,.sl ado msp] (.bool true):=by
 obtain⟨cl,uy⟩:∃x,x=ie PL:=⟨_,rfl⟩;obtain⟨vl,rB⟩:∃x,x=cJ covers 5:=⟨_,rfl⟩;obtain⟨N,wI⟩:∃x,x=2+n0%5:=⟨_,rfl⟩
 have hN5:2≤N∧N≤6:=by
  have h1:=qbb n0 (by decide:(5:Int)≠0);have h2:=qaY n0 (by decide:(0:Int)<5);omega
 obtain⟨calls,hN⟩:∃c:Nat,N=Int.ofNat c:=⟨N.toNat,by simp;omega⟩;have hNc:N=(calls:Int):=hN;obtain⟨rows,iv⟩:∃x,x=cl.map aL.enc:=⟨_,rfl⟩;obtain⟨pz,rI⟩:∃x,x=vl.map bz.enc:=⟨_,rfl⟩;obtain⟨gy,wO⟩:∃x,x=(gB calls).map cT.enc:=⟨_,rfl⟩;obtain⟨B,sl,brows,srows,hV,jb,Pl,Ma⟩:=ahA (mx:=mx) (psp:=psp) (isp:=isp) (msp:=msp) hp Up xT Tp hi xR hl hm hmt hml hn0 uy rB wI hN iv rI wO;obtain⟨B2,Zg,af9,srows2,hV2,MN,abG,gh⟩:=ahA (mx:=mx) (psp:=psp) (isp:=jsp) (msp:=msp) hp Up xT Tp hj hjty xe hm hmt hml hn0 uy rB wI hN iv rI wO
 have kN:fo cl vl:=by rw[uy,rB];exact ad5 PL covers
 obtain⟨GD,pH⟩:=GQ PL;obtain⟨YC,Zc⟩:=Kg PL;obtain⟨ajT,hw2',hw3'⟩:=B3 (covers:=covers) (v:=5);rw[←uy]at GD pH YC Zc;rw[←rB]at ajT hw2' hw3';refine pZ ai2 ?_;intro _ _ _ _ _ Ys QQ _ _ _ _ _ _ _ _ QU
 iterate 85 intro _
 intro Ab
 iterate 10 intro _
 intro oZ sg _ l8 _ _ _ _ _ df aw bu mz _ _ _ _ zI aU aV bC bA ag aC;refine gK ?_;refine ao (by cbv) HB (fun h=>by first|rfl|cases h) ?_;refine gK ?_;refine CA (by cbv) Ma ?_;refine gK ?_;refine CA (by cbv) gh ?_;refine gK ?_
 have ajU:gy.length=calls:=by rw[wO,qap,fT]
 have hjrl:agA.length=L2.length:=by rw[hj,qap]
 refine jJ (fun v σ_=>((σ_.tidy [3,13,14,15,16,19,20,57,58] (nn [13,13,2,16,3,20,106,127])).put (some 14) (.pv (.sl gy []))).put (some 58) (.pv (.int .i64 (Int.ofNat v)))) calls (fun _=>True) (Fg.trans (Fg.sC (id:=128) rfl rfl) (Fg.trans (Fg.sC (id:=129) rfl rfl) (Fg.ca [3,13,14,15,16,19,20,57,58] (nn [13,13,2,16,3,20,106,127]) rfl (by cbv)))) ?_;intro v hv hvk
 try dsimp only
 refine ej ?_;refine bp.af (fun hd=>?_) (fun hd=>?_)
 ·have HI:v<calls:=by rw[←aC,←ag]at hd;simp at hd;omega
  obtain⟨w,hw⟩:∃w,w=(v+L2.length)%calls:=⟨_,rfl⟩
  have hw1:w<calls:=by rw[hw];exact Nat.mod_lt _ (by omega)
  have hidx:oZ (bu .i64 (df (Int.ofNat v) (l8 agA))) (l8 gy)=Int.ofNat w:=by
   rw[←sg,←mz,←aw,←ag];simp only[E4,n9,kT,X5,ajU,hjrl];rw[dy (by simp;omega) (by simp;omega),hw];rfl
  obtain⟨k1,e1,g1⟩:=fh.ex (gB calls);obtain⟨rfl,rfl⟩:=af2 (by omega) g1;obtain⟨i2,e2,g2⟩:=Ck B;obtain rfl:=hV.boxes g2;obtain⟨k3,e3,g3⟩:=dq.ex cl vl B N sl;obtain rfl:e3=0:=hV.check kN (by omega) (by rw[hN]at g3;exact g3);obtain⟨j2,f2,q2⟩:=Ck B2;obtain rfl:=hV2.boxes q2;obtain⟨j3,f3,q3⟩:=dq.ex cl vl B2 N Zg;obtain rfl:f3=0:=hV2.check kN (by omega) (by rw[hN]at q3;exact q3)
  have aiG:∀x∈cl,x.cq.length<2^32:=fun x hx=>by rw[(GD x hx).2.2.2.1];decide
  have aiH:∀x∈vl,x.rows.length<2^16:=fun x hx=>by rcases(ajT x hx).2.2 with h|h<;>rw[h]<;>decide
  obtain⟨afT,WI⟩:∃p,p=(kal (gB calls) v).port:=⟨_,rfl⟩;obtain⟨port2,hp2⟩:∃p,p=(kal (gB calls) w).port:=⟨_,rfl⟩;obtain⟨X1,hX1⟩:∃x,x=abb B (Int.ofNat v) B.length:=⟨_,rfl⟩;obtain⟨X2,hX2⟩:∃x,x=abb B2 (Int.ofNat w) B2.length:=⟨_,rfl⟩;obtain⟨Y1,hY1⟩:∃x,x=(tq sl v).l:=⟨_,rfl⟩;obtain⟨Y2,hY2⟩:∃x,x=(tq Zg w).l:=⟨_,rfl⟩;obtain⟨xr1,ahW⟩:∃x,x=X1.map bw.enc:=⟨_,rfl⟩;obtain⟨xr2,aiI⟩:∃x,x=X2.map bw.enc:=⟨_,rfl⟩;obtain⟨yr1,ahX⟩:∃x,x=Y1.map aH.enc:=⟨_,rfl⟩
  obtain⟨yr2,aiJ⟩:∃x,x=Y2.map aH.enc:=⟨_,rfl⟩;have hof1:=agl (mx:=mx) (csp:=[]) (vsp:=[]) (r:=[]) (rsp:=[]) (f:=[]) (fsp:=[]) (t:=[]) (tsp:=[]) (l1:=0) (l2:=0) (l3:=0) (l4:=0) (m1:=0) (m2:=0) (m3:=0) (m4:=0) (ksp:=[]) (bsp:=[]) (ssp:=[]) (wrows:=[]) (wsp:=[]) (k:=Int.ofNat v) (res:=.agg [.int .i64 (Int.ofNat v),.str afT,.sl xr1 [],.sl yr1 []]) iv rI (by omega) (by omega) aiG aiH (by rw[fT];exact hN) wO (by rw[fT];omega) Pl (by have:=hV.len;omega) jb (by have:=hV.few;omega) hV.ty hV.sty hV.sp g1 g2 g3 ⟨by simp,by rw[hNc];show(v:Int)<(calls:Int);omega⟩ (by rw[ahW,ahX,hX1,hY1,WI];rfl)
  have hof2:=agl (mx:=mx) (csp:=[]) (vsp:=[]) (r:=[]) (rsp:=[]) (f:=[]) (fsp:=[]) (t:=[]) (tsp:=[]) (l1:=0) (l2:=0) (l3:=0) (l4:=0) (m1:=0) (m2:=0) (m3:=0) (m4:=0) (ksp:=[]) (bsp:=[]) (ssp:=[]) (wrows:=[]) (wsp:=[]) (k:=Int.ofNat w) (res:=.agg [.int .i64 (Int.ofNat w),.str port2,.sl xr2 [],.sl yr2 []]) iv rI (by omega) (by omega) aiG aiH (by rw[fT];exact hN) wO (by rw[fT];omega) abG (by have:=hV2.len;omega) MN (by have:=hV2.few;omega) hV2.ty hV2.sty hV2.sp g1 q2 q3 ⟨by simp,by rw[hNc];show(w:Int)<(calls:Int);omega⟩ (by rw[aiI,aiJ,hX2,hY2,hp2];rfl)
  have Up:∀{u:Nat},u<calls→yH (kal (gB calls) u).port:=fun{u} hu=>by
   rw[agV (by rw[fT];exact hu),adz];exact ad9 _ (aea (by omega))
  obtain⟨Zp,sb1⟩:=hV.st v (by rw[hV.len];exact HI);obtain⟨EZ,sb2⟩:=hV2.st w (by rw[hV2.len];exact hw1);obtain⟨hS1,hG1,WE⟩:=aet (j:=v) (by omega) (Up HI) hV.Hh (by have:=hV.few;omega) Zp sb1;obtain⟨hS2,hG2,oA⟩:=aet (j:=w) (by omega) (Up hw1) hV2.Hh (by have:=hV2.few;omega) EZ sb2;rw[←WI,←hX1,←hY1]at hS1;rw[←hX1]at hG1;rw[←hX1,←hY1]at WE;rw[←hp2,←hX2,←hY2]at hS2;rw[←hX2]at hG2;rw[←hX2,←hY2]at oA
  have hX1l:X1.length≤12:=by rw[hX1];have:=aei (l:=B) (k:=Int.ofNat v) (v:=B.length);have:=hV.few;omega
  have hX2l:X2.length≤12:=by rw[hX2];have:=aei (l:=B2) (k:=Int.ofNat w) (v:=B2.length);have:=hV2.few;omega
  have aA:VU [65]:=by intro b hb;simp at hb;rw[hb];decide
  have aB:VU [66]:=by intro b hb;simp at hb;rw[hb];decide
  have ht1:=adA hS1 hG1 WE (by omega) aA (by decide) (by decide);have ht2:=adA hS2 hG2 oA (by omega) aA (by decide) (by decide);have ht3:=adA hS1 hG1 WE (by omega) aB (by decide) (by decide);obtain⟨T1,hT1⟩:∃x,x=agJ [65] (pieces cl vl (Int.ofNat v) afT (X1.zip Y1)):=⟨_,rfl⟩;obtain⟨T2,hT2⟩:∃x,x=agJ [65] (pieces cl vl (Int.ofNat w) port2 (X2.zip Y2)):=⟨_,rfl⟩;obtain⟨T3,hT3⟩:∃x,x=agJ [66] (pieces cl vl (Int.ofNat v) afT (X1.zip Y1)):=⟨_,rfl⟩
  rw[←hT1]at ht1;rw[←hT2]at ht2;rw[←hT3]at ht3
  have ajV:T1=T2↔(Int.ofNat v=Int.ofNat w∧afT=port2∧X1=X2∧Y1=Y2):=by
   rw[hT1,hT2];constructor
   ·intro h;exact(aeA hS1 hG1 WE hS2 hG2 oA aA aA h).2
   ·rintro⟨e1,e2,e3,e4⟩;rw[e1,e2,e3,e4]
  have ajW:T1≠T3:=by
   rw[hT1,hT3];intro h;have:=(aeA hS1 hG1 WE hS1 hG1 WE aA aB h).1;simp at this
  have hY1l:Y1.length=X1.length:=by have:=congrArg List.length WE;simpa using this
  have hY2l:Y2.length=X2.length:=by have:=congrArg List.length oA;simpa using this
  have ajX:∀b∈X1,og b:=fun b hb=>by rw[hX1]at hb;unfold abb at hb;exact hV.ty b (qbf (qba.1 hb).1)
  have hX2t:∀b∈X2,og b:=fun b hb=>by rw[hX2]at hb;unfold abb at hb;exact hV2.ty b (qbf (qba.1 hb).1)
  have ajY:∀y∈Y1,kL y:=fun y hy=>by rw[hY1,mC (by rw[hV.len];exact HI)]at hy;exact(hV.sty _ (qaf _)).2 y hy
  have hY2t:∀y∈Y2,kL y:=fun y hy=>by rw[hY2,mC (by rw[hV2.len];exact hw1)]at hy;exact(hV2.sty _ (qaf _)).2 y hy
  have W:=fun{call:Int} {port ref t0:List UInt8} {X:List bw} {Y:List aH} {xr yr:List (List PV)} (hx:xr=X.map bw.enc) (hy:yr=Y.map aH.enc) (h1:X.length<2^15) (h2:Y.length<2^15) (h3:∀b∈X,og b) (h4:∀y∈Y,kL y) (h5:ref.length<2^32) (h6:adL cl vl ref call port X Y=(t0,0))=>ahz (mx:=mx) (csp:=[]) (vsp:=[]) (r:=[]) (rsp:=[]) (f:=[]) (fsp:=[]) (t:=[]) (tsp:=[]) (l1:=0) (l2:=0) (l3:=0) (l4:=0) (m1:=0) (m2:=0) (m3:=0) (m4:=0) (bsp:=[]) (sp:=[]) iv rI (by omega) (by omega) aiG aiH hy hx h2 h1 h3 h4 h5 h6
  refine aY ?_;refine ao (by cbv) hof1 (fun h=>by first|rfl|cases h) ?_;refine gK ?_;refine ae (by rw[←Ab,←ag];simp[ajU];omega) ?_;rw[hidx];refine gK ?_;refine bF (by cbv) hof2 (fun h=>by first|rfl|cases h) ?_;refine gK ?_;refine ao (by cbv) (W ahW ahX (by omega) (by omega) ajX ajY (by decide) ht1) (fun h=>by first|rfl|cases h) ?_;refine gK ?_;refine ao (by cbv) (W aiI aiJ (by omega) (by omega) hX2t hY2t (by decide) ht2) (fun h=>by first|rfl|cases h) ?_
  refine gK ?_;refine ao (by cbv) (W ahW ahX (by omega) (by omega) ajX ajY (by decide) ht3) (fun h=>by first|rfl|cases h) ?_;refine gK ?_;rw[show QQ (Ys (bu .i64 (df (bu .i64 (df (bu .i64 (df (bu .i64 (df 0 0)) 0)) 0)) 0)) 0)=false by rw[←aV,←bA,←mz,←aw];decide];refine aY ?_;have LU:=ajl (mx:=mx) (sp:=[]) (sp2:=[]) (bsp:=[]) (bsp2:=[]) (call:=Int.ofNat v) (call2:=Int.ofNat w) (port:=afT) (port2:=port2) ahX aiJ ahW aiI (by omega) (by omega) (by omega) (by omega) rfl
  refine cU (by cbv) LU (fun h=>?_) (fun h=>?_)<;>simp only[qae,qad]at h
  ·have heq:=ajV.2 h;refine gK ?_;rw[show QU T1 T2=true by rw[←aU];simp[aF];exact heq];refine aY ?_;rw[show QU T1 T3=false by rw[←aU];simp[aF];exact ajW];refine aY ?_;refine ta ⟨HI,trivial,?_⟩;rw[wS mz aw (v:=v) (by omega)];exact Fg.ca [3,13,14,15,16,19,20,57,58] (nn [13,13,2,16,3,20,106,127]) rfl (by cbv)
  ·have MB:=fun g=>h (ajV.1 g)
   refine gK ?_;rw[show QU T1 T2=false by rw[←aU];simp[aF];exact MB];refine aY ?_;rw[show QU T1 T3=false by rw[←aU];simp[aF];exact ajW];refine aY ?_;refine ta ⟨HI,trivial,?_⟩;rw[wS mz aw (v:=v) (by omega)];exact Fg.ca [3,13,14,15,16,19,20,57,58] (nn [13,13,2,16,3,20,106,127]) rfl (by cbv)
 ·have HI:v=calls:=by rw[←aC,←ag]at hd;simp at hd;omega
  refine aY ?_;refine wW rfl ?_;refine gK ?_;refine aX ?_;rfl
end Go.bt
end
