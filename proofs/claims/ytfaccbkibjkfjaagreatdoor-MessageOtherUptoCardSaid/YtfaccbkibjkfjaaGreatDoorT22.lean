import Derived.Test.YtfaccbkibjkfjaaGreatDoorT11
import Derived.Test.YtfaccbkibjkfjaaGreatDoorT19
import Derived.Test.YtfaccbkibjkfjaaGreatDoorT08
import Derived.Test.YtfaccbkibjkfjaaGreatDoorT17
import Derived.Test.YtfaccbkibjkfjaaGreatDoorT10
set_option linter.all false
set_option maxRecDepth 100000
set_option maxHeartbeats 1000000
section
open Go Go.Am Go.Proofs
attribute [local irreducible] Am.bp.holds bH fw bP ek
namespace Go.bt
variable {mx:Int}
open Classical
def aaB (N x85 x86:Int) (c csp vv vsp r rsp f fsp t tsp brows iv:List (List PV)) (l1 l2 l3 l4 m1 m2 m3 m4:Int):St:=⟨[.dead,.dead,.pv (.int .i64 N),.dead,.ptr 4 0,.dead,.dead,.dead,.full [],.ptr 9 0,.c8 10 0,.dt 20,.dead,.dead,.dead,.dead,.dead,.dead,.dead,.dead,.dead,.dead,.dead,.dead,.dead,.dead,.dead,.dead,.dead,.dead,.dead,.dead,.dead,.dead,.dead,.dead,.dead,.dead,.dead,.dead,.dead,.dead,.dead,.dead,.dead,.dead,.dead,.dead,.dead,.dead,.dead,.dead,.dead,.dead,.dead,.dead,.dead,.dead,.dead,.dead,.dead,.dead,.dead,.dead,.dead,.dead,.dead,.dead,.dead,.dead,.dead,.dead,.dead,.dead,.dead,.dead,.dead,.dead,.dead,.dead,.dead,.dead,.dead,.dead,.dead,.pv (.int .i64 x85),.pv (.int .i64 x86),.pv (.bool true),.dead,.agg [.pv (.sl c csp),.pv (.sl vv vsp),.pv (.int .i64 l1),.pv (.int .i64 l2),.pv (.int .i64 l3),.pv (.int .i64 l4),.pv (.sl r rsp),.pv (.sl f fsp),.pv (.sl t tsp),.pv (.int .i64 m1),.pv (.int .i64 m2),.pv (.int .i64 m3),.pv (.int .i64 m4)],.c8 10 0,.dt 20,.pv (.int .i64 N),.dead,.dead,.dead,.dead,.dead,.dead,.dead,.dead,.dead,.dead,.dead,.dead,.dead,.dead,.dead,.dead,.dead,.dead,.dead,.dead,.dead,.dead,.dead,.dead,.dead,.dead,.dead],[],0,[none,none,none,none,some (.cells [.pv (.sl c csp),.pv (.sl vv vsp),.pv (.int .i64 l1),.pv (.int .i64 l2),.pv (.int .i64 l3),.pv (.int .i64 l4),.pv (.sl r rsp),.pv (.sl f fsp),.pv (.sl t tsp),.pv (.int .i64 m1),.pv (.int .i64 m2),.pv (.int .i64 m3),.pv (.int .i64 m4)]),none,none,none,none,some (.cells [.full [],.full []]),some (.rows 9 brows 0),none,none,none,none,none,none,none,none,none,some (.map false false 1 iv)]⟩
def DS (x:AV) (N x85 x86:Int) (c csp vv vsp r rsp f fsp t tsp brows iv:List (List PV)) (l1 l2 l3 l4 m1 m2 m3 m4:Int):St:=⟨[.dead,.dead,.pv (.int .i64 N),.dead,.ptr 4 0,.dead,.dead,.dead,.full [],.ptr 9 0,.c8 10 0,.dt 20,.dead,.dead,.dead,.dead,.dead,.dead,.dead,.dead,.dead,.dead,.dead,.dead,.dead,.dead,.dead,.dead,.dead,.dead,.dead,.dead,.dead,.dead,.dead,.dead,.dead,.dead,.dead,.dead,.dead,.dead,.dead,.dead,.dead,.dead,.dead,.dead,.dead,.dead,.dead,.dead,.dead,.dead,.dead,.dead,.dead,.dead,.dead,.dead,.dead,.dead,.dead,.dead,.dead,.dead,.dead,.dead,.dead,.dead,.dead,.dead,.dead,.dead,.dead,.dead,.dead,.dead,.dead,.dead,.dead,.dead,.dead,.dead,.dead,.pv (.int .i64 x85),.pv (.int .i64 x86),.pv (.bool true),.dead,.agg [.pv (.sl c csp),.pv (.sl vv vsp),.pv (.int .i64 l1),.pv (.int .i64 l2),.pv (.int .i64 l3),.pv (.int .i64 l4),.pv (.sl r rsp),.pv (.sl f fsp),.pv (.sl t tsp),.pv (.int .i64 m1),.pv (.int .i64 m2),.pv (.int .i64 m3),.pv (.int .i64 m4)],.c8 10 0,.dt 20,.pv (.int .i64 N),.dead,.dead,.dead,.dead,.dead,.dead,.dead,.dead,.dead,.dead,.dead,.dead,.dead,.dead,.dead,.dead,.dead,.dead,.dead,.dead,.dead,.dead,.dead,.dead,.dead,.dead,.dead],[],0,[none,none,none,none,some (.cells [.pv (.sl c csp),.pv (.sl vv vsp),.pv (.int .i64 l1),.pv (.int .i64 l2),.pv (.int .i64 l3),.pv (.int .i64 l4),.pv (.sl r rsp),.pv (.sl f fsp),.pv (.sl t tsp),.pv (.int .i64 m1),.pv (.int .i64 m2),.pv (.int .i64 m3),.pv (.int .i64 m4)]),none,none,none,none,some (.cells [.full [],.full []]),some (.rows 9 brows 0),none,none,none,none,none,none,none,none,none,some (.map false false 1 iv),none,none,none,none,none,none,none,none,some (.cells [x,.full []])]⟩
theorem Uk {c csp vv vsp r rsp f fsp t tsp:List (List PV)} {l1 l2 l3 l4 m1 m2 m3 m4:Int} {brows iv rows:List (List PV)} {cl:List aL} {vl:List bz} {boxes:List bw} {home:Int→Int} {calls:Nat} {N x85 x86 id:Int} (hN:N=Int.ofNat calls) (jI:c=cl.map aL.enc) (pN:vv=vl.map bz.enc) (wU:cl.length<2^20) (Hn:vl.length<2^32) (CS:∀x∈cl,x.cq.length<2^32) (AE:∀x∈vl,x.rows.length<2^16) (MB:cl≠[]) (Iw:∀x∈cl,x.dv<2^32)
  (jb:brows=boxes.map bw.enc) (hid0:∀b∈boxes,b.id≠0) (lO:boxes.length<2^20) (vf:∀b∈boxes,og b) (wI:calls<2^20)
  (DT:∀b∈boxes,aF.CZ [1] 1 iv [.int .i64 b.id]∧aF.xJ 1 iv [.int .i64 b.id] [.int .i64 0]=.int .i64 (home b.id)∧0≤home b.id∧home b.id<2^32)
  (oa:∀size,(slotsOf cl size).length<2^32) (hR:rows=(xF cl vl boxes home calls).1.map Tu) (hid:id=(xF cl vl boxes home calls).2):
  Hf Tryz.prog (GG mx) 161 [.agg [.pv (.sl c csp),.pv (.sl vv vsp),.pv (.int .i64 l1),.pv (.int .i64 l2),.pv (.int .i64 l3),.pv (.int .i64 l4),.pv (.sl r rsp),.pv (.sl f fsp),.pv (.sl t tsp),.pv (.int .i64 m1),.pv (.int .i64 m2),.pv (.int .i64 m3),.pv (.int .i64 m4)],.c8 10 0,.dt 20,.pv (.int .i64 N)] (aaB N x85 x86 c csp vv vsp r rsp f fsp t tsp brows iv l1 l2 l3 l4 m1 m2 m3 m4) (fun v st'=>∃x,v=.eN [.agg [x,.full []],.pv (.int .i64 id)]∧st'=DS x N x85 x86 c csp vv vsp r rsp f fsp t tsp brows iv l1 l2 l3 l4 m1 m2 m3 m4∧((id=0∧x=.pv (.sl rows []))∨(id≠0∧x=.full []))):=by
 have KD:brows.length=boxes.length:=by simp[jb]
 have Su:c.length=cl.length:=by simp[jI]
 obtain⟨Lk,XS⟩:∃Lk,Lk=LK cl vl boxes home:=⟨_,rfl⟩
 have hL0:Lk 0=[]:=by rw[XS];rfl
 obtain⟨Wk,hWk⟩:∃Wk:Nat→List aH,Wk=fun v=>(Lk v).getLastD []:=⟨_,rfl⟩
 have hW0:Wk 0=[]:=by rw[hWk];simp only[hL0];rfl
 unfold aaB;refine Oa mixed UU (az (F:=fun A=>fw (CC Tryz.prog (GG mx)) A (Hf Tryz.prog (GG mx)) Wa (enter 178 [.agg [.pv (.sl c csp),.pv (.sl vv vsp),.pv (.int .i64 l1),.pv (.int .i64 l2),.pv (.int .i64 l3),.pv (.int .i64 l4),.pv (.sl r rsp),.pv (.sl f fsp),.pv (.sl t tsp),.pv (.int .i64 m1),.pv (.int .i64 m2),.pv (.int .i64 m3),.pv (.int .i64 m4)],.c8 10 0,.dt 20,.pv (.int .i64 N)] ⟨[.dead,.dead,.pv (.int .i64 N),.dead,.ptr 4 0,.dead,.dead,.dead,.full [],.ptr 9 0,.c8 10 0,.dt 20,.dead,.dead,.dead,.dead,.dead,.dead,.dead,.dead,.dead,.dead,.dead,.dead,.dead,.dead,.dead,.dead,.dead,.dead,.dead,.dead,.dead,.dead,.dead,.dead,.dead,.dead,.dead,.dead,.dead,.dead,.dead,.dead,.dead,.dead,.dead,.dead,.dead,.dead,.dead,.dead,.dead,.dead,.dead,.dead,.dead,.dead,.dead,.dead,.dead,.dead,.dead,.dead,.dead,.dead,.dead,.dead,.dead,.dead,.dead,.dead,.dead,.dead,.dead,.dead,.dead,.dead,.dead,.dead,.dead,.dead,.dead,.dead,.dead,.pv (.int .i64 x85),.pv (.int .i64 x86),.pv (.bool true),.dead,.agg [.pv (.sl c csp),.pv (.sl vv vsp),.pv (.int .i64 l1),.pv (.int .i64 l2),.pv (.int .i64 l3),.pv (.int .i64 l4),.pv (.sl r rsp),.pv (.sl f fsp),.pv (.sl t tsp),.pv (.int .i64 m1),.pv (.int .i64 m2),.pv (.int .i64 m3),.pv (.int .i64 m4)],.c8 10 0,.dt 20,.pv (.int .i64 N),.dead,.dead,.dead,.dead,.dead,.dead,.dead,.dead,.dead,.dead,.dead,.dead,.dead,.dead,.dead,.dead,.dead,.dead,.dead,.dead,.dead,.dead,.dead,.dead,.dead,.dead,.dead],[],0,[none,none,none,none,some (.cells [.pv (.sl c csp),.pv (.sl vv vsp),.pv (.int .i64 l1),.pv (.int .i64 l2),.pv (.int .i64 l3),.pv (.int .i64 l4),.pv (.sl r rsp),.pv (.sl f fsp),.pv (.sl t tsp),.pv (.int .i64 m1),.pv (.int .i64 m2),.pv (.int .i64 m3),.pv (.int .i64 m4)]),none,none,none,none,some (.cells [.full [],.full []]),some (.rows 9 brows 0),none,none,none,none,none,none,none,none,none,some (.map false false 1 iv)]⟩) (MO [.cell 8 (some 2),.tmp 9] 120 0 (fun v st'=>∃x,v=.eN [.agg [x,.full []],.pv (.int .i64 id)]∧st'=DS x N x85 x86 c csp vv vsp r rsp f fsp t tsp brows iv l1 l2 l3 l4 m1 m2 m3 m4∧((id=0∧x=.pv (.sl rows []))∨(id≠0∧x=.full []))))) ?_)
 iterate 33 intro _
 intro zm I7
 iterate 26 intro _
 intro Kb YK
 iterate 11 intro _
 intro zu Vu uH Pe
 iterate 10 intro _
 intro yw Kc
 iterate 11 intro _
 intro Ab
 iterate 10 intro _
 intro oZ sg _ l8 dF bJ bX _ _ df aw bu mz aI aQ aJ aP zI aU aV bC bA ag aC;refine ej ?_;refine jJ (fun v σ_=>(((((σ_.tidy [0,1,2,3,4,8,10,11,12] (nn [4,4,4,9,0,10,9,20,4,25,3,29,1,31,18,50,145,196])).put (some 12) (.pv (.int .i64 (Int.ofNat v)))).aq 31 (.cells [.c8 196 0,.full []])).aq 50 (.map false true 1 ((Wk v).map aH.enc)))).aq 196 (.rows 1 ((Lk v).map Tu) 0)) calls (fun k=>∃L,fj cl vl boxes home (k+1)=.inl L) (by rw[hL0,hW0];exact Fg.trans (Fg.Wd 178 rfl) (Fg.trans (Fg.Th (id:=31) (j:=0) (k:=196) (sz:=1) rfl rfl rfl rfl rfl) (Fg.ca [0,1,2,3,4,8,10,11,12] (nn [4,4,4,9,0,10,9,20,4,25,3,29,1,31,18,50,145,196]) rfl (by cbv)))) ?_
 intro v hv hk
 try dsimp only
 generalize hwr:(Wk v).map aH.enc=wr;generalize yb:(Lk v).map Tu=st;obtain⟨was,YL⟩:∃was,was=Wk v:=⟨_,rfl⟩;rw[←YL]at hwr
 have hSv:fj cl vl boxes home v=.inl (Lk v):=by
  have:∃L,fj cl vl boxes home v=.inl L:=by
   rcases qdf v with h0|h0
   ·exact⟨[],by rw[h0];rfl⟩
   ·have:=hk (v-1) (by omega);rw[Nat.sub_add_cancel h0]at this;exact this
  obtain⟨L,hL⟩:=this;rw[XS,LK,hL]
 obtain⟨hLl,hLf⟩:=s5 hSv
 have aaL:wM cl vl boxes was:=by
  rw[YL,hWk];dsimp only;rw[List.getLastD_eq_getLast?]
  cases hq:(Lk v).getLast? with
  |none=>exact .inl rfl
  |some y=>exact hLf y (List.mem_of_getLast? hq)
 have aaM:=xx aaL vf (by omega) Iw
 obtain⟨SS,YM⟩:∃SS:Nat→List aH,SS=fun t=>pS cl vl boxes was (v:Int) t:=⟨_,rfl⟩
 have hSS0:SS 0=[]:=by rw[YM];rfl
 refine ej ?_;refine bp.af (fun hd=>?_) (fun hd=>?_)
 ·rw[←aC,hN]at hd;simp at hd;refine aY ?_;refine jJ (fun q σ_=>((σ_.tidy [0,1,2,3,4,8,10,11,12,13,14] (nn [4,4,4,9,0,10,9,20,4,25,3,29,1,31,18,50,145,196])).put (some 13) (.pv (.sl ((SS q).map aH.enc) []))).put (some 14) (.pv (.int .i64 (Int.ofNat q)))) 10 (fun _=>True) (by rw[hSS0];exact Fg.trans (Fg.aao (d:=13) rfl rfl) (Fg.ca [0,1,2,3,4,8,10,11,12,13,14] (nn [4,4,4,9,0,10,9,20,4,25,3,29,1,31,18,50,145,196]) rfl (by cbv))) ?_
  intro q hq Zf
  try dsimp only
  generalize hls:(SS q).map aH.enc=ls;refine ej ?_;refine bp.af (fun hb=>?_) (fun hb=>?_)
  ·rw[←aC]at hb;simp at hb
   obtain⟨TT,hTT⟩:∃TT:Nat→List aH,TT=fun u=>sc cl vl boxes was (v:Int) (q:Int) (SS q) u:=⟨_,rfl⟩
   have hTT0:TT 0=SS q:=by rw[hTT];simp[sc]
   refine aY ?_;refine jJ (fun u σ_=>((σ_.tidy [0,1,2,3,4,8,10,11,12,13,14,39,40,41] (nn [4,4,4,9,0,10,9,20,4,25,3,29,1,31,18,50,145,196])).put (some 13) (.pv (.sl ((TT u).map aH.enc) []))).put (some 41) (.pv (.int .i64 (Int.ofNat u)))) boxes.length (fun _=>True) (by rw[hTT0,hls];exact Fg.ca [0,1,2,3,4,8,10,11,12,13,14,39,40,41] (nn [4,4,4,9,0,10,9,20,4,25,3,29,1,31,18,50,145,196]) rfl (by cbv)) ?_
   intro u hu Ze
   try dsimp only
   generalize bO:(TT u).map aH.enc=lt;refine ej ?_;refine bp.af (fun hc=>?_) (fun hc=>?_)
   ·have qd:u<boxes.length:=by rw[←aC,←ag]at hc;simp at hc;omega
    obtain⟨gI,bj⟩:∃x,boxes[u]=x:=⟨_,rfl⟩
    have bG:aJ (Int.ofNat u) brows 9:=by rw[←aP,jb];exact aO (enc:=bw.enc) qd rfl
    obtain⟨⟨iN,fO,eZ,Ut,eG,eA,gi,jl,dI⟩,bW⟩:∃y,gI=y:=⟨_,rfl⟩;subst bW
    have aW:aI brows (Int.ofNat u)=[.int .i64 iN,.str fO,.int .u8 eZ,.bool Ut,.int .i64 eG,.int .i64 eA,.int .i64 gi,.int .u8 jl,.bool dI]:=by rw[←aQ,jb,aN (enc:=bw.enc) qd,bj];rfl
    refine aY ?_;refine ae bG ?_;refine gK ?_;rw[aW];refine aY ?_;have U4:=vf _ (qaf qd);rw[bj]at U4
    have hTs:TT (u+1)=kq cl vl boxes was (v:Int) (q:Int) (TT u) boxes[u]:=by rw[hTT];exact Cc qd
    rw[bj]at hTs
    have sw:yw [1] 1 wr [.int .i64 iN]:=by rw[←Kc,←hwr];exact Uf
    refine ae sw ?_
    have lf:I7 1 wr [.int .i64 iN] [.int .i64 0,.int .i64 0,.int .u8 0]=(match wP was iN with|some x=>x.enc|none=>[.int .i64 0,.int .i64 0,.int .u8 0]):=by rw[←YK,←hwr];exact UY
    have hhas:zm 1 wr [.int .i64 iN]=(wP was iN).isSome:=by rw[←Kb,←hwr];exact MV
    rw[lf,hhas]
    cases hw:wP was iN with
    |none=>
     have hT1:TT (u+1)=TT u:=by rw[hTs];simp only[kq,hw]
     dsimp only[Option.isSome];refine gK ?_;refine ta ⟨qd,trivial,?_⟩;rw[wS mz aw (v:=u) (by omega)];rw[show lt=(TT (u+1)).map aH.enc by rw[←bO,hT1]];exact Fg.ca [0,1,2,3,4,8,10,11,12,13,14,39,40,41] (nn [4,4,4,9,0,10,9,20,4,25,3,29,1,31,18,50,145,196]) rfl (by cbv)
    |some x=>
     obtain⟨xc,xt,xh⟩:=x;have hxm:=U1 hw;dsimp only[Option.isSome,Slot.enc]
     have skip:¬(xt=(q:Int)∧eA<(v:Int)∧(v:Int)<gi)→TT (u+1)=TT u:=fun h=>by
      rw[hTs];simp only[kq,hw];rw[qai (fun h'=>h ⟨h'.1,h'.2.1,h'.2.2.1⟩)]
     refine gK ?_
     repeat' (first|refine gH ?_|(refine iE (fun hc=>?_) (fun hc=>?_)<;>(try simp at hc)<;>(try(exfalso;omega))))
     ·have aaP:(TT u).length<2^30:=by
       have h1:=yu (cl:=cl) (vl:=vl) (boxes:=boxes) (was:=was) (k:=(v:Int)) (tier:=(q:Int)) (l:=SS q) (v:=u) (by omega);have h2:=sk (cl:=cl) (vl:=vl) (boxes:=boxes) (was:=was) (k:=(v:Int)) (t:=q);have h3:q*boxes.length≤10*boxes.length:=qaL _ (by omega);rw[show TT u=sc cl vl boxes was (v:Int) (q:Int) (SS q) u by rw[hTT]];rw[show SS q=pS cl vl boxes was (v:Int) q by rw[YM]]at h1 ⊢;omega
      have aaQ:kL ⟨iN,⟨xc,xt,xh⟩⟩:=aaM _ hxm
      have hTf:wM cl vl boxes (TT u):=by rw[hTT];dsimp only;rw[YM];exact Ca qu
      have hTty:∀y∈nP (TT u) ⟨iN,⟨xc,xt,xh⟩⟩,kL y:=fun y hy=>by
       rcases qav.1 hy with hy|hy
       ·rcases qav.1 hy with hy|hy
        ·exact xx hTf vf (by omega) Iw y (qba.1 hy).1
        ·rw[qaO]at hy;rw[hy];exact aaQ
       ·exact xx hTf vf (by omega) Iw y (qba.1 hy).1
      have xG:=xy (l:=TT u) (x:=⟨iN,⟨xc,xt,xh⟩⟩);obtain⟨nx,YN⟩:∃nx,nx=(nP (TT u) ⟨iN,⟨xc,xt,xh⟩⟩).map aH.enc:=⟨_,rfl⟩;refine ao (by cbv) (MR (l:=TT u) (x:=⟨iN,⟨xc,xt,xh⟩⟩) bO.symm aaP YN) (fun h=>by first|rfl|cases h) ?_;refine gK ?_;refine cU (by cbv) (Pb (fun hq=>Aj jI pN (by omega) Hn CS AE hq) jI (by omega) YN jb (by omega) (by omega) vf hTty rfl) (fun h=>?_) (fun h=>?_)<;>simp only[qae,qad]at h
      ·refine gK ?_;refine ta ⟨qd,trivial,?_⟩;rw[wS mz aw (v:=u) (by omega)];rw[show nx=(TT (u+1)).map aH.enc by rw[YN,hTs];simp only[kq,hw];rw[qao ⟨by omega,by omega,by omega,h⟩]];exact Fg.ca [0,1,2,3,4,8,10,11,12,13,14,39,40,41] (nn [4,4,4,9,0,10,9,20,4,25,3,29,1,31,18,50,145,196]) rfl (by cbv)
      ·refine gK ?_;refine ta ⟨qd,trivial,?_⟩;rw[wS mz aw (v:=u) (by omega)];rw[show lt=(TT (u+1)).map aH.enc by rw[←bO,hTs];simp only[kq,hw];rw[qai (fun h'=>h h'.2.2.2)]];exact Fg.ca [0,1,2,3,4,8,10,11,12,13,14,39,40,41] (nn [4,4,4,9,0,10,9,20,4,25,3,29,1,31,18,50,145,196]) rfl (by cbv)
     all_goals
      refine ta ⟨qd,trivial,?_⟩;rw[wS mz aw (v:=u) (by omega)];rw[show lt=(TT (u+1)).map aH.enc by rw[←bO,skip (by omega)]];exact Fg.ca [0,1,2,3,4,8,10,11,12,13,14,39,40,41] (nn [4,4,4,9,0,10,9,20,4,25,3,29,1,31,18,50,145,196]) rfl (by cbv)
   ·have qd:u=boxes.length:=by rw[←aC,←ag]at hc;simp at hc;omega
    refine aY ?_;refine wW rfl ?_;refine gK ?_;refine ta ⟨by omega,trivial,?_⟩;rw[wS mz aw (v:=q) (by omega)];rw[show lt=(SS (q+1)).map aH.enc by rw[←bO,hTT,qd,YM];rfl];exact Fg.ca [0,1,2,3,4,8,10,11,12,13,14] (nn [4,4,4,9,0,10,9,20,4,25,3,29,1,31,18,50,145,196]) rfl (by cbv)
  ·rw[←aC]at hb;simp at hb
   have hq':q=10:=by omega
   subst hq'
   obtain⟨PP,hPP⟩:∃PP:Nat→List aH,PP=fun u=>(match iI cl vl boxes home (v:Int) (SS 10) u with|.inl l=>l|.inr _=>[]):=⟨_,rfl⟩
   have hPP0:PP 0=SS 10:=by rw[hPP];rfl
   have hSf:wM cl vl boxes (SS 10):=by rw[YM];exact qu
   have hSl:(SS 10).length≤10*boxes.length:=by rw[YM];exact sk
   have px:∀e,iI cl vl boxes home (v:Int) (SS 10) boxes.length=e→Kj cl vl boxes home ((Lk v).getLastD []) (v:Int)=e:=fun e h=>by
    rw[←h,YM,YL,hWk];rfl
   refine aY ?_;refine wW rfl ?_;refine gK ?_;refine jJ (fun u σ_=>((σ_.tidy [0,1,2,3,4,8,10,11,12,13,83,84,85] (nn [4,4,4,9,0,10,9,20,4,25,3,29,1,31,18,50,145,196])).put (some 13) (.pv (.sl ((PP u).map aH.enc) []))).put (some 85) (.pv (.int .i64 (Int.ofNat u)))) boxes.length (fun k=>∃l,iI cl vl boxes home (v:Int) (SS 10) (k+1)=.inl l) (by rw[hPP0,hls];exact Fg.ca [0,1,2,3,4,8,10,11,12,13,83,84,85] (nn [4,4,4,9,0,10,9,20,4,25,3,29,1,31,18,50,145,196]) rfl (by cbv)) ?_
   intro u hu Ze
   try dsimp only
   have hPu:iI cl vl boxes home (v:Int) (SS 10) u=.inl (PP u):=by
    have:∃l,iI cl vl boxes home (v:Int) (SS 10) u=.inl l:=by
     rcases qdf u with h0|h0
     ·exact⟨SS 10,by rw[h0];rfl⟩
     ·have:=Ze (u-1) (by omega);rw[Nat.sub_add_cancel h0]at this;exact this
    obtain⟨l,hl⟩:=this;rw[hPP];simp only[hl]
   have hPf:wM cl vl boxes (PP u):=uR hSf hPu
   have hPl:(PP u).length≤11*boxes.length:=by have:=xA hPu;omega
   generalize jo:(PP u).map aH.enc=pp;refine ej ?_;refine bp.af (fun hc=>?_) (fun hc=>?_)
   ·have qd:u<boxes.length:=by rw[←aC,←ag]at hc;simp at hc;omega
    obtain⟨gI,bj⟩:∃x,boxes[u]=x:=⟨_,rfl⟩
    have bG:aJ (Int.ofNat u) brows 9:=by rw[←aP,jb];exact aO (enc:=bw.enc) qd rfl
    obtain⟨⟨iN,fO,eZ,Ut,eG,eA,gi,jl,dI⟩,bW⟩:∃y,gI=y:=⟨_,rfl⟩;subst bW
    have aW:aI brows (Int.ofNat u)=[.int .i64 iN,.str fO,.int .u8 eZ,.bool Ut,.int .i64 eG,.int .i64 eA,.int .i64 gi,.int .u8 jl,.bool dI]:=by rw[←aQ,jb,aN (enc:=bw.enc) qd,bj];rfl
    have U4:=vf _ (qaf qd);rw[bj]at U4;have hho:=DT _ (qaf qd);rw[bj]at hho;have WM:=MI qd hPu;rw[bj]at WM;refine aY ?_;refine ae bG ?_;refine gK ?_;rw[aW];refine aY ?_
    have Ul:(¬((v:Int)<eA∨gi≤(v:Int)∨MC (PP u) iN)→False)→(∃l,iI cl vl boxes home (v:Int) (SS 10) (u+1)=.inl l)∧PP (u+1)=PP u:=fun h=>by
     have h1:iI cl vl boxes home (v:Int) (SS 10) (u+1)=.inl (PP u):=by
      rw[WM];unfold pU;dsimp only;rw[qao (Classical.not_not.1 h)]
     exact⟨⟨_,h1⟩,by rw[show PP (u+1)=(match iI cl vl boxes home (v:Int) (SS 10) (u+1)with|.inl l=>l|.inr _=>[]) by rw[hPP],h1]⟩
    repeat' (first|refine gH ?_|(refine iE (fun hc=>?_) (fun hc=>?_)<;>(try simp at hc)<;>(try(exfalso;omega))))
    ·obtain⟨h1,h2⟩:=Ul (fun h=>h (.inl (by assumption)));refine ta ⟨qd,h1,?_⟩;rw[wS mz aw (v:=u) (by omega)];rw[show pp=(PP (u+1)).map aH.enc by rw[←jo,h2]];exact Fg.ca [0,1,2,3,4,8,10,11,12,13,83,84,85] (nn [4,4,4,9,0,10,9,20,4,25,3,29,1,31,18,50,145,196]) rfl (by cbv)
    ·obtain⟨h1,h2⟩:=Ul (fun h=>h (.inr (.inl (by assumption))));refine ta ⟨qd,h1,?_⟩;rw[wS mz aw (v:=u) (by omega)];rw[show pp=(PP (u+1)).map aH.enc by rw[←jo,h2]];exact Fg.ca [0,1,2,3,4,8,10,11,12,13,83,84,85] (nn [4,4,4,9,0,10,9,20,4,25,3,29,1,31,18,50,145,196]) rfl (by cbv)
    refine cU (by cbv) (T4 (l:=PP u) jo.symm (by omega) rfl) (fun h=>?_) (fun h=>?_)<;>simp only[qae,qad]at h
    ·refine gK ?_;obtain⟨h1,h2⟩:=Ul (fun h'=>h' (.inr (.inr h)));refine ta ⟨qd,h1,?_⟩;rw[wS mz aw (v:=u) (by omega)];rw[show pp=(PP (u+1)).map aH.enc by rw[←jo,h2]];exact Fg.ca [0,1,2,3,4,8,10,11,12,13,83,84,85] (nn [4,4,4,9,0,10,9,20,4,25,3,29,1,31,18,50,145,196]) rfl (by cbv)
    have WM:iI cl vl boxes home (v:Int) (SS 10) (u+1)=(match iK cl vl boxes (PP u) iN eZ (home iN) cl.length with|some r=>.inl r|none=>.inr iN):=by
     rw[WM];unfold pU;dsimp only;rw[qai (by rintro(h'|h'|h');omega;omega;exact h h')];cases iK cl vl boxes (PP u) iN eZ (home iN) cl.length<;>rfl
    obtain⟨TN,hTN⟩:∃TN:Nat→Option (List aH),TN=fun q=>iK cl vl boxes (PP u) iN eZ (home iN) q:=⟨_,rfl⟩
    have hTN0:TN 0=none:=by rw[hTN];rfl
    refine gK ?_;refine jJ (fun q σ_=>if TN q=none then((σ_.tidy [0,1,2,3,4,8,10,11,12,13,21,22,23,83,84,85] (nn [4,4,4,9,0,10,9,20,4,25,3,29,1,31,10,42,7,50,145,196])).put (some 22) (.pv (.bool false))).put (some 23) (.pv (.int .i64 (Int.ofNat q)))else(((σ_.tidy [0,1,2,3,4,8,10,11,12,13,21,22,23,83,84,85] (nn [4,4,4,9,0,10,9,20,4,25,3,29,1,31,10,42,7,50,145,196])).put (some 13) (.pv (.sl (((TN q).getD []).map aH.enc) []))).put (some 22) (.pv (.bool true))).put (some 23) (.pv (.int .i64 (Int.ofNat q)))) cl.length (fun _=>True) (by rw[qao hTN0];exact Fg.ca [0,1,2,3,4,8,10,11,12,13,21,22,23,83,84,85] (nn [4,4,4,9,0,10,9,20,4,25,3,29,1,31,10,42,7,50,145,196]) rfl (by cbv)) ?_
    intro q hq Zf
    by_cases hT:TN q=none
    ·rw[qao hT];refine ej ?_
     repeat' (first|refine gH ?_|(refine iE (fun hc=>?_) (fun hc=>?_)<;>(try simp at hc)<;>(try(exfalso;omega))))
     ·obtain⟨Z,hZ⟩:∃Z,Z=slotsOf cl eZ:=⟨_,rfl⟩;obtain⟨zr,ER⟩:∃zr,zr=Z.map Slot.enc:=⟨_,rfl⟩
      have KQ:Z.length<2^32:=by rw[hZ];exact oa _
      have GI:zr.length=Z.length:=by simp[ER]
      obtain⟨tgt,aaY⟩:∃tgt:Int,tgt=(home iN+(q:Int))%(cl.length:Int):=⟨_,rfl⟩
      have ajf:TN (q+1)=sf cl vl boxes (PP u) iN tgt Z:=by
       have:TN (q+1)=iK cl vl boxes (PP u) iN eZ (home iN) (q+1):=by rw[hTN]
       rw[this,iK]
       have h2:iK cl vl boxes (PP u) iN eZ (home iN) q=none:=by rw[←hT,hTN]
       rw[h2,hZ,aaY]
      refine ao (by cbv) (YH jI (by omega) MB Iw hZ ER KQ) (fun h=>by first|rfl|cases h) ?_;refine gK ?_;refine jJ (fun w σ_=>(σ_.tidy [0,1,2,3,4,8,10,11,12,13,21,22,23,83,84,85,119,120,121] (nn [4,4,4,9,0,10,9,20,4,25,3,29,1,31,10,42,7,50,145,196])).put (some 121) (.pv (.int .i64 (Int.ofNat w)))) Z.length (fun k=>∀hk:k<Z.length,¬zS cl vl boxes (PP u) iN tgt Z[k]) (Fg.ca [0,1,2,3,4,8,10,11,12,13,21,22,23,83,84,85,119,120,121] (nn [4,4,4,9,0,10,9,20,4,25,3,29,1,31,10,42,7,50,145,196]) rfl (by cbv)) ?_
      intro w hw hwk
      try dsimp only
      refine ej ?_;refine bp.af (fun WQ=>?_) (fun WQ=>?_)
      ·have Iu:w<Z.length:=by rw[←aC,←ag]at WQ;simp at WQ;omega
       obtain⟨Ac,fv⟩:∃x,Z[w]=x:=⟨_,rfl⟩
       have gw:aJ (Int.ofNat w) zr 3:=by rw[←aP,ER];exact aO (enc:=Slot.enc) Iu rfl
       obtain⟨⟨Ge,Ah,Ai⟩,jF⟩:∃y,Ac=y:=⟨_,rfl⟩;subst jF
       have dV:aI zr (Int.ofNat w)=[.int .i64 Ge,.int .i64 Ah,.int .u8 Ai]:=by rw[←aQ,ER,aN (enc:=Slot.enc) Iu,fv];rfl
       refine aY ?_;refine ae gw ?_;rw[dV];refine gK ?_;obtain⟨nx,YN⟩:∃nx,nx=(nP (PP u) ⟨iN,⟨Ge,Ah,Ai⟩⟩).map aH.enc:=⟨_,rfl⟩;refine ao (by cbv) (MR (l:=PP u) (x:=⟨iN,⟨Ge,Ah,Ai⟩⟩) jo.symm (by omega) YN) (fun h=>by first|rfl|cases h) ?_;refine gK ?_;refine ae (by rw[←Kc];exact hho.1) ?_;rw[show uH 1 iv [.int .i64 iN] [.int .i64 0]=.int .i64 (home iN) by rw[←Pe];exact hho.2.1]
       have htg:oZ (bu .i64 (df (home iN) (Int.ofNat q))) (l8 c)=tgt:=by
        rw[aaY,←sg,←mz,←aw,←ag];have h1:0≤home iN:=hho.2.2.1;have h2:home iN<2^32:=hho.2.2.2;simp only[n9,kT,E4,X5];rw[dy (by simp;omega) (by simp;omega),Su];exact qa8 (by simp;omega)
       refine gK ?_;have afX:0<cl.length:=qbm.2 MB;refine ae (by rw[←Ab,←ag];simp;intro h0;rw[h0]at Su;simp at Su;omega) ?_;rw[htg];refine gK ?_
       have hTf2:∀y∈nP (PP u) ⟨iN,⟨Ge,Ah,Ai⟩⟩,kL y:=fun y hy=>by
        have hzm:(⟨Ge,Ah,Ai⟩:Slot)∈slotsOf cl eZ:=by rw[←hZ,←fv];exact qaf Iu
        rcases qav.1 hy with hy|hy
        ·rcases qav.1 hy with hy|hy
         ·exact xx hPf vf (by omega) Iw y (qba.1 hy).1
         ·rw[qaO]at hy;rw[hy];obtain⟨k1,k2,k3⟩:=Ue (by omega) Iw hzm;exact⟨U4.2.2.1,k1,k2,k3⟩
        ·exact xx hPf vf (by omega) Iw y (qba.1 hy).1
       have xG:=xy (l:=PP u) (x:=⟨iN,⟨Ge,Ah,Ai⟩⟩);refine bp.af (fun he=>?_) (fun he=>?_)
       ·rw[←bA]at he;simp at he;refine aY ?_;refine gG (by cbv) (Pb (fun hq=>Aj jI pN (by omega) Hn CS AE hq) jI (by omega) YN jb (by omega) (by omega) vf hTf2 rfl) (fun h'=>?_) (fun h'=>?_)<;>simp only[qae,qad]at h'
        ·have Cy:TN (q+1)=some (nP (PP u) ⟨iN,⟨Ge,Ah,Ai⟩⟩):=by
          rw[ajf,DP Iu (fun j hj=>hwk j hj (by omega)) (by rw[fv];exact⟨he,h'⟩),fv]
         refine gK ?_;refine wW rfl ?_;refine gK ?_;refine ta ⟨by omega,trivial,?_⟩;rw[qai (by rw[Cy];simp),Cy];dsimp only[Option.getD];rw[←YN];rw[wS mz aw (v:=q) (by omega)];exact Fg.ca [0,1,2,3,4,8,10,11,12,13,21,22,23,83,84,85] (nn [4,4,4,9,0,10,9,20,4,25,3,29,1,31,10,42,7,50,145,196]) rfl (by cbv)
        ·refine gK ?_;refine ta ⟨Iu,fun _=>?_,?_⟩
         ·rw[fv];exact fun hcs=>h' hcs.2
         rw[wS mz aw (v:=w) (by omega)];exact Fg.ca [0,1,2,3,4,8,10,11,12,13,21,22,23,83,84,85,119,120,121] (nn [4,4,4,9,0,10,9,20,4,25,3,29,1,31,10,42,7,50,145,196]) rfl (by cbv)
       ·rw[←bA]at he;simp at he;refine aY ?_;refine ta ⟨Iu,fun _=>?_,?_⟩
        ·rw[fv];exact fun hcs=>he hcs.1
        rw[wS mz aw (v:=w) (by omega)];exact Fg.ca [0,1,2,3,4,8,10,11,12,13,21,22,23,83,84,85,119,120,121] (nn [4,4,4,9,0,10,9,20,4,25,3,29,1,31,10,42,7,50,145,196]) rfl (by cbv)
      ·have Iu:w=Z.length:=by rw[←aC,←ag]at WQ;simp at WQ;omega
       have bg:TN (q+1)=none:=by
        rw[ajf,DN (fun y hy=>?_)];obtain⟨j,hj,rfl⟩:=qaI hy;exact hwk j (by omega) hj
       refine aY ?_;refine wW rfl ?_;refine gK ?_;refine ta ⟨by omega,trivial,?_⟩;rw[qao bg];rw[wS mz aw (v:=q) (by omega)];exact Fg.ca [0,1,2,3,4,8,10,11,12,13,21,22,23,83,84,85] (nn [4,4,4,9,0,10,9,20,4,25,3,29,1,31,10,42,7,50,145,196]) rfl (by cbv)
     ·have hqn:q=cl.length:=by omega
      have L3:iI cl vl boxes home (v:Int) (SS 10) boxes.length=.inr iN:=by
       refine JP (u:=u+1) ?_ (by omega);rw[WM,show iK cl vl boxes (PP u) iN eZ (home iN) cl.length=none by rw[←hT,hTN,hqn]]
      have WT:fj cl vl boxes home calls=.inr iN:=zT (KI hSv (px _ L3)) (by omega)
      have Ma:(xF cl vl boxes home calls).1=[]:=by rw[xF,WT]
      have gh:(xF cl vl boxes home calls).2=iN:=by rw[xF,WT]
      refine wW rfl ?_;refine gK ?_
      repeat' (first|refine gH ?_|(refine iE (fun hc=>?_) (fun hc=>?_)<;>(try simp at hc)<;>(try(exfalso;omega))))
      refine ff rfl (de.oV rfl (IQ (Fg.ca [8,9] (nn [4,4,4,9,0,10,9,20,8,29]) rfl rfl) (by cbv) ?_));refine⟨.full [],by rw[hid,gh],?_,.inr ⟨by rw[hid,gh];have:=hid0 _ (qaf qd);rw[bj]at this;exact this,rfl⟩⟩;unfold DS
      cbv
    ·rw[qai hT]
     obtain⟨r0,TW⟩:∃r0,TN q=some r0:=by
      cases hq':TN q with
      |none=>exact absurd hq' hT
      |some r0=>exact⟨r0,rfl⟩
     rw[TW];dsimp only[Option.getD];generalize YD:r0.map aH.enc=rr;have l5:iK cl vl boxes (PP u) iN eZ (home iN) cl.length=some r0:=Ce (t:=q) (by rw[←TW,hTN]) hq;rw[l5]at WM
     have hP1:PP (u+1)=r0:=by rw[show PP (u+1)=(match iI cl vl boxes home (v:Int) (SS 10) (u+1)with|.inl l=>l|.inr _=>[]) by rw[hPP],WM]
     refine ej ?_
     repeat' (first|refine gH ?_|(refine iE (fun hc=>?_) (fun hc=>?_)<;>(try simp at hc)<;>(try(exfalso;omega))))
     all_goals
      refine wW rfl ?_;refine gK ?_
      repeat' (first|refine gH ?_|(refine iE (fun hc=>?_) (fun hc=>?_)<;>(try simp at hc)<;>(try(exfalso;omega))))
     all_goals
      refine ta ⟨qd,⟨_,WM⟩,?_⟩;rw[wS mz aw (v:=u) (by omega)];rw[show rr=(PP (u+1)).map aH.enc by rw[hP1,YD]];exact Fg.ca [0,1,2,3,4,8,10,11,12,13,83,84,85] (nn [4,4,4,9,0,10,9,20,4,25,3,29,1,31,18,50,145,196]) rfl (by cbv)
   ·have qd:u=boxes.length:=by rw[←aC,←ag]at hc;simp at hc;omega
    subst qd;obtain⟨P9,hP9⟩:∃P9,P9=PP boxes.length:=⟨_,rfl⟩;rw[←hP9]at hPu hPf hPl jo;have hcl1:=px _ hPu;have abn:=Mq hSv hcl1
    have abo:Lk (v+1)=Lk v++[P9]:=by rw[XS,LK,abn,←XS]
    have hWk1:Wk (v+1)=P9:=by rw[hWk];dsimp only;rw[abo];simp
    have hppl:pp.length=P9.length:=by rw[←jo];simp
    refine aY ?_;refine wW rfl ?_;refine gK ?_;refine jJ (fun w σ_=>((σ_.tidy [0,1,2,3,4,8,10,11,12,13,159,160,161] (nn [4,4,4,9,0,10,9,20,4,25,3,29,1,31,18,179,145,196])).put (some 161) (.pv (.int .i64 (Int.ofNat w)))).aq 50 (.map false true 1 ((P9.take w).map aH.enc))) P9.length (fun _=>True) (Fg.ca [0,1,2,3,4,8,10,11,12,13,159,160,161] (nn [4,4,4,9,0,10,9,20,4,25,3,29,1,31,18,179,145,196]) rfl (by cbv)) ?_
    intro w hw hwk
    try dsimp only
    generalize hcu:(P9.take w).map aH.enc=cu;refine ej ?_;refine bp.af (fun WQ=>?_) (fun WQ=>?_)
    ·have Iu:w<P9.length:=by rw[←aC,←ag]at WQ;simp at WQ;omega
     obtain⟨Ac,fv⟩:∃x,P9[w]=x:=⟨_,rfl⟩
     have gw:aJ (Int.ofNat w) pp 4:=by rw[←aP,jo.symm];exact aO (enc:=aH.enc) Iu rfl
     obtain⟨⟨Kk,⟨Ge,Ah,Ai⟩⟩,jF⟩:∃y,Ac=y:=⟨_,rfl⟩;subst jF
     have dV:aI pp (Int.ofNat w)=[.int .i64 Kk,.int .i64 Ge,.int .i64 Ah,.int .u8 Ai]:=by rw[←aQ,jo.symm,aN (enc:=aH.enc) Iu,fv];rfl
     have xg:=U0 Iu (fun j hj=>Mo hPf j w Iu hj);rw[fv]at xg;refine aY ?_;refine ae gw ?_;rw[dV];refine gK ?_;refine ae (by rw[←Kc,←hcu];exact Uf) ?_;refine gK ?_;refine ta ⟨Iu,trivial,?_⟩;rw[wS mz aw (v:=w) (by omega)];rw[show zu 1 cu [.int .i64 Kk] [.int .i64 Ge,.int .i64 Ah,.int .u8 Ai]=(P9.take (w+1)).map aH.enc by rw[←Vu,←hcu];exact xg];exact Fg.ca [0,1,2,3,4,8,10,11,12,13,159,160,161] (nn [4,4,4,9,0,10,9,20,4,25,3,29,1,31,18,50,145,196]) rfl (by cbv)
    ·have Iu:w=P9.length:=by rw[←aC,←ag]at WQ;simp at WQ;omega
     refine aY ?_;refine wW rfl ?_;refine gK ?_;refine ae (by rw[←dF,←yb];exact⟨by simp;omega,by simp;omega,by simp,Kh (enc:=Tu) (fun _=>rfl) _⟩) ?_;refine gK ?_;refine ta ⟨hd,⟨_,abn⟩,?_⟩;rw[wS mz aw (v:=v) (by omega)];rw[hWk1,abo];rw[show bJ st [[.sl pp []]]=(Lk v++[P9]).map Tu by rw[←bX,←yb,←jo];simp[Tu]];rw[show P9.map aH.enc=cu by rw[←hcu,Iu,qbh]];generalize (Lk v++[P9]).map Tu=EZ
     exact Fg.ca [0,1,2,3,4,8,10,11,12] (nn [4,4,4,9,0,10,9,20,4,25,3,29,1,31,18,50,145,196]) rfl (by cbv)
 ·rw[←aC,hN]at hd;simp at hd
  have Y6:v=calls:=by omega
  have Ma:(xF cl vl boxes home calls).1=Lk v:=by rw[xF,←Y6,hSv]
  have gh:(xF cl vl boxes home calls).2=0:=by rw[xF,←Y6,hSv]
  refine aY ?_;refine wW rfl ?_;refine gK ?_;refine aie (Fg.trans (Fg.sC (id:=196) rfl rfl) (Fg.ca [8,9] (nn [4,4,4,9,0,10,9,20,8,29]) rfl rfl)) (by cbv) ?_;refine⟨.pv (.sl st []),by rw[hid,gh],?_,.inl ⟨by rw[hid,gh],by rw[hR,Ma,yb]⟩⟩;unfold DS
  cbv
end Go.bt
end
