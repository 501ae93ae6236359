import Derived.Test.YtfaccbkibjkfjaaGreatDoorT08
import Derived.Test.YtfaccbkibjkfjaaGreatDoorT41
set_option linter.all false
set_option maxRecDepth 100000
set_option maxHeartbeats 1000000
section
open Go Go.Am Go.Proofs
attribute [local irreducible] Am.bl.holds bA fw bC dv
namespace Go.bW
variable {mx:Int}
theorem lO {k i m:Int} (hm:m=1000003*(k+7)+i) (hk:0≤k) (eZ:k<2^30) (hi:0≤i) (hY:i<2^30):pC mx 135 [.int .i64 k,.int .i64 i] (.int .i64 m):=by
 refine pZ Nr ?_
 iterate 129 intro _
 intro aB aV aW bp bu ah aD;refine gK ?_;refine aN ?_;subst_vars;simp only[ct,jk,Gl]
 congr 2
 rw[dh (n:=k+7),dh (n:=1000003*_),dh]<;>omega
theorem iQ (v:Nat):Mh v=1000003*(1+7)+Int.ofNat v:=by simp[Mh]
@[simp] theorem XL:marks.length=12:=by simp[marks]
theorem qi {rows sp:List (List PV)} {l:List Int} (hr:rows=l.map (fun(p:Int)=>[PV.int .i64 p])) (hl:l.length<2^32):pC mx 137 [.sl rows sp] (.sl rows (marks.map (fun(p:Int)=>[PV.int .i64 p]))):=by
 have hlen:rows.length=l.length:=by simp[hr]
 have bP:aS 1 rows:=by rw[hr];exact bj (enc:=(fun(p:Int)=>[PV.int .i64 p])) (fun _=>rfl) l
 have e6:cr 1 rows:=by rw[hr];exact fh (enc:=(fun(p:Int)=>[PV.int .i64 p])) (fun _=>⟨rfl,by simp⟩) l
 obtain⟨W,hW⟩:∃W,W=marks.map (fun(p:Int)=>[PV.int .i64 p]):=⟨_,rfl⟩
 have XM:W.length=12:=by simp[hW]
 have iF:∀v,aS 1 (W.take v):=fun v r hr=>bj (enc:=(fun(p:Int)=>[PV.int .i64 p])) (n:=1) (fun _=>rfl) marks r (hW▸List.mem_of_mem_take hr)
 rw[←hW]
 clear hr
 refine pZ Ns ?_
 iterate 82 intro _
 intro fu
 iterate 34 intro _
 intro bs _ _ _ _ aO _ ak _ _ _ _ aB aV aW bp bu ah aD;refine gK ?_;refine ae ?_ ?_
 ·subst_vars;simp;rw[dh]<;>omega
 rw[show fu 0 _=[] by subst_vars;rfl];refine gK ?_;refine ae ?_ ?_
 ·subst_vars;simp[e6];omega
 rw[show bs [] rows=rows by subst_vars;rfl];refine gK ?_;refine bG [0,3,4] (nn [8,8]) (fun v s=>s.put (some 4) (.pv (.int .i64 (Int.ofNat v)))|>.aC 8 (.rows 1 (rows++W.take v) 0)) (12) (fun k=>True) ?_;intro v hv hk
 try dsimp only
 generalize cw:rows++W.take v=cur;refine dC ?_;refine bl.af (fun hc=>?_) (fun hc=>?_)
 ·refine dp ?_
  have aY:v<12:=by subst_vars;simp at hc;omega
  obtain⟨m,hm⟩:∃m,m=1000003*(1+7)+Int.ofNat v:=⟨_,rfl⟩;refine an (by cbv) (lO hm (by omega) (by omega) (by simp) (by simp;omega)) (fun _=>rfl) ?_;refine gK ?_;refine ae ?_ ?_
  ·subst_vars;simp[bP,hlen];exact⟨by omega,by omega,iF v⟩
  refine gK ?_;refine ai ⟨aY,trivial,?_⟩;rw[wS ak aO (v:=v) (by omega)]
  rw[show bs cur [[.int .i64 m]]=rows++W.take (v+1) by
   subst_vars;rw[List.take_succ_eq_append_getElem (by simpa using aY)]
   simp[marks,ints,iQ]]
  rfl
 ·refine dp ?_;refine au rfl ?_;refine gK ?_;refine ae ?_ ?_
  ·subst_vars;simp[bP,iF]
   try omega
  ·refine gK ?_;refine aN ?_;subst_vars;simp at hc
   obtain rfl:v=12:=by omega
   rw[List.take_of_length_le (l:=marks.map (fun(p:Int)=>[PV.int .i64 p])) (by simp)];simp;rw[List.take_of_length_le];simp;omega
theorem qj {rows sp xB:List (List PV)} {l:List Int} (hr:rows=l.map (fun(p:Int)=>[PV.int .i64 p])) (hl:l.length<2^32):pC mx 154 [.sl rows sp,.sl rows xB] (.bool true):=by
 refine pZ Nt ?_
 iterate 122 intro _
 intro aO _ ak aI _ aL _ aB aV aW bp bu ah aD;refine gK ?_;refine bl.af (fun hc=>?_) (fun hc=>?_)
 ·refine dp ?_;refine aN ?_;subst_vars;simp at hc
 ·refine dp ?_;refine bG [0,1,5] [] (fun v s=>s.put (some 5) (.pv (.int .i64 (Int.ofNat v)))) (l.length) (fun k=>True) ?_;intro v hv hk;refine dC ?_;refine bl.af (fun hd=>?_) (fun hd=>?_)
  ·refine dp ?_
   have aY:v<l.length:=by subst_vars;simp at hd;omega
   obtain⟨x,hx⟩:∃x,l[v]=x:=⟨_,rfl⟩
   have eQ:aL (Int.ofNat v) rows 1:=by subst_vars;exact aR aY rfl
   have bM:aI rows (Int.ofNat v)=[.int .i64 x]:=by rw[←hx];subst_vars;exact aQ aY
   repeat(refine ae eQ ?_;rw[bM];refine gK ?_)
   refine bl.af (fun he=>?_) (fun he=>?_)
   ·exfalso;subst_vars;simp[bw]at he
   ·refine dp ?_;refine ai ⟨aY,trivial,?_⟩;rw[wS ak aO (v:=v) (by omega)];rfl
  ·refine dp ?_;refine au rfl ?_;refine gK ?_;refine aN ?_;rfl
theorem qk {rows mk sp:List (List PV)} {l:List Int} (hr:rows=l.map (fun(p:Int)=>[PV.int .i64 p])) (iF:mk=marks.map (fun(p:Int)=>[PV.int .i64 p])) (hl:l.length<2^32):pC mx 153 [.sl rows mk,.sl rows sp] (.bool true):=by
 have hlen:rows.length=l.length:=by simp[hr]
 have eN:mk.length=12:=by simp[iF]
 have bP:aS 1 rows:=by rw[hr];exact bj (enc:=(fun(p:Int)=>[PV.int .i64 p])) (fun _=>rfl) l
 have nd:aS 1 mk:=by rw[iF];exact bj (enc:=(fun(p:Int)=>[PV.int .i64 p])) (fun _=>rfl) _
 rcases mk with _|⟨e,mk⟩
 ·simp at eN
 refine pZ Nu ?_
 iterate 100 intro _
 intro mm _ _ _ _ _ _ _ fj _ _ _ _ _ eA cv _ bs bE b5 cQ bg aO aw ak aI aU aL aP aB aV aW bp bu ah aD;refine gK ?_;refine bl.af (fun hc=>?_) (fun hc=>?_)
 ·refine dp ?_;refine aN ?_;subst_vars;simp at hc
 ·refine dp ?_
  have hw:aw .i64 (bg (cv rows) 12)=Int.ofNat (l.length+12):=by
   rw[←ak,←aO,←ah];simp[hlen];rw[dh]<;>omega
  rw[hw];generalize hN:l.length+12=N;refine ae ?_ ?_
  ·rw[←mm];simp[hlen,bP,←dI,nd]at eN ⊢;omega
  obtain⟨all,kA⟩:∃all,all=rows++e::mk:=⟨_,rfl⟩;rw[show fj (bs rows (e::mk)) 0 (Int.ofNat N)=all by rw[←eA,←bE,kA];simp only[k8,bK,Int.toNat_zero,List.drop_zero,Nat.sub_zero];exact List.take_of_length_le (by simp[hlen]at eN ⊢;omega)]
  have xC:aS 1 all:=by rw[kA];simp[bP,←dI,nd]
  refine gK ?_;refine bG [0,1,5,6] [] (fun v s=>s.put (some 6) (.pv (.int .i64 (Int.ofNat v)))) (N) (fun k=>True) ?_;intro v hv hk;refine dC ?_;refine bl.af (fun hd=>?_) (fun hd=>?_)
  ·refine dp ?_
   have aY:v<N:=by subst_vars;simp at hd;simp at eN;omega
   refine bl.af (fun hf=>?_) (fun hf=>?_)
   ·have bL:v<l.length:=by rw[←aD,←ah]at hf;simp at hf;omega
    obtain⟨x,hx⟩:∃x,l[v]=x:=⟨_,rfl⟩
    have eQ:aL (Int.ofNat v) rows 1:=by subst_vars;exact aR bL rfl
    have bM:aI rows (Int.ofNat v)=[.int .i64 x]:=by rw[←hx];subst_vars;exact aQ bL
    have jX:aL (Int.ofNat v) all 1:=by rw[←aP]at eQ ⊢;rw[kA];exact k9 (by omega) eQ
    have fF:aI all (Int.ofNat v)=[.int .i64 x]:=by rw[←aU]at bM ⊢;rw[kA,lb (by omega)];exact bM
    refine dp ?_;refine ae jX ?_;rw[fF];refine gK ?_;refine ae eQ ?_;rw[bM];refine gK ?_;refine bl.af (fun he=>?_) (fun he=>?_)
    ·refine dp ?_;refine dp ?_;refine bl.af (fun hg=>?_) (fun hg=>?_)
     ·exfalso;subst_vars;simp at hg;omega
     ·refine dp ?_;refine ai ⟨aY,trivial,?_⟩;rw[wS ak aO (v:=v) (by omega)];rfl
    ·exfalso;subst_vars;simp[bw]at he
   ·refine dp ?_
    have B7:l.length≤v:=by rw[←aD,←ah]at hf;simp at hf;omega
    refine bl.af (fun hg=>?_) (fun hg=>?_)
    ·obtain⟨w,xD⟩:∃w,w=v-l.length:=⟨_,rfl⟩
     have mn:w<12:=by omega
     obtain⟨m,hm⟩:∃m,m=1000003*(1+7)+Int.ofNat w:=⟨_,rfl⟩
     have dD:aw .i64 (b5 (Int.ofNat v) (cv rows))=Int.ofNat w:=by
      rw[←ak,←cQ,←ah];simp[hlen];rw[dh]<;>omega
     have sB:aG.wx (Int.ofNat w) (e::mk) 1:=by rw[iF];exact aR (by simpa using mn) rfl
     have mo:aG.rat (e::mk) (Int.ofNat w)=[.int .i64 m]:=by
      rw[iF,aQ (by simpa using mn)];simp[marks,iQ,hm]
     have eQ:aL (Int.ofNat v) all 1:=by rw[←aP,kA];exact jG (by omega) (by rw[hlen,←xD];exact sB)
     have bM:aI all (Int.ofNat v)=[.int .i64 m]:=by rw[←aU,kA,jF (by omega),hlen,←xD];exact mo
     refine dp ?_;refine ae eQ ?_;rw[bM];refine gK ?_;rw[dD];refine ao (by cbv) (lO hm (by omega) (by omega) (by simp) (by simp;omega)) (fun _=>rfl) ?_;refine gK ?_;refine bl.af (fun he=>?_) (fun he=>?_)
     ·refine dp ?_;refine dp ?_;refine ai ⟨aY,trivial,?_⟩;rw[wS ak aO (v:=v) (by omega)];rfl
     ·exfalso;subst_vars;simp[bw]at he
    ·exfalso;subst_vars;simp at hg;omega
  ·refine dp ?_;refine au rfl ?_;refine gK ?_;refine aN ?_;rfl
theorem vw {k i m:Int} (hm:m=1000003*(k+7)+i) (hk:0≤k) (eZ:k<2^30) (hi:0≤i) (hY:i<2^30):pC mx 107 [.int .i64 k,.int .i64 i] (.agg [.int .i64 0,.int .i64 m,.int .i64 0,.int .i64 0,.int .i64 0]):=by
 refine pZ NG ?_
 iterate 129 intro _
 intro aB aV aW bp bu ah aD;refine gK ?_;refine an (by cbv) (lO hm hk eZ hi hY) (fun _=>rfl) ?_;refine gK ?_;refine aN ?_;rfl
theorem Mi:((List.range 12).map Row.rJ).length=12:=by simp
theorem C0 {rows sp:List (List PV)} {l:List Row} (hr:rows=l.map Row.enc) (hl:l.length<2^32):pC mx 44 [.sl rows sp] (.sl rows (((List.range 12).map Row.rJ).map Row.enc)):=by
 have hlen:rows.length=l.length:=by simp[hr]
 have bP:aS 5 rows:=by rw[hr];exact bj (enc:=Row.enc) (fun _=>rfl) l
 have e6:cr 5 rows:=by rw[hr];exact fh (enc:=Row.enc) (fun _=>⟨rfl,by simp[Row.enc]⟩) l
 obtain⟨W,hW⟩:∃W,W=((List.range 12).map Row.rJ).map Row.enc:=⟨_,rfl⟩
 have XM:W.length=12:=by simp[hW]
 have iF:∀v,aS 5 (W.take v):=fun v r hr=>bj (enc:=Row.enc) (n:=5) (fun _=>rfl) ((List.range 12).map Row.rJ) r (hW▸List.mem_of_mem_take hr)
 rw[←hW]
 clear hr
 refine pZ Vb ?_
 iterate 82 intro _
 intro fu
 iterate 34 intro _
 intro bs _ _ _ _ aO _ ak _ _ _ _ aB aV aW bp bu ah aD;refine gK ?_;refine ae ?_ ?_
 ·subst_vars;simp;rw[dh]<;>omega
 rw[show fu 0 _=[] by subst_vars;rfl];refine gK ?_;refine ae ?_ ?_
 ·subst_vars;simp[e6];omega
 rw[show bs [] rows=rows by subst_vars;rfl];refine gK ?_;refine bG [0,3,4] (nn [8,8]) (fun v s=>s.put (some 4) (.pv (.int .i64 (Int.ofNat v)))|>.aC 8 (.rows 5 (rows++W.take v) 0)) (12) (fun k=>True) ?_;intro v hv hk
 try dsimp only
 generalize cw:rows++W.take v=cur;refine dC ?_;refine bl.af (fun hc=>?_) (fun hc=>?_)
 ·refine dp ?_
  have aY:v<12:=by subst_vars;simp at hc;omega
  obtain⟨m,hm⟩:∃m,m=1000003*(1+7)+Int.ofNat v:=⟨_,rfl⟩;refine an (by cbv) (vw hm (by omega) (by omega) (by simp) (by simp;omega)) (fun _=>rfl) ?_;refine gK ?_;refine ae ?_ ?_
  ·subst_vars;simp[bP,hlen];exact⟨by omega,by omega,iF v⟩
  refine gK ?_;refine ai ⟨aY,trivial,?_⟩;rw[wS ak aO (v:=v) (by omega)]
  rw[show bs cur [[.int .i64 0,.int .i64 m,.int .i64 0,.int .i64 0,.int .i64 0]]=rows++W.take (v+1) by
   subst_vars;rw[List.take_succ_eq_append_getElem (by simpa using aY)]
   simp[Row.rJ,Row.enc,iQ]]
  rfl
 ·refine dp ?_;refine au rfl ?_;refine gK ?_;refine ae ?_ ?_
  ·subst_vars;simp[bP,iF]
   try omega
  ·refine gK ?_;refine aN ?_;subst_vars;simp at hc
   obtain rfl:v=12:=by omega
   rw[List.take_of_length_le (l:=((List.range 12).map Row.rJ).map Row.enc) (by simp)];simp;rw[List.take_of_length_le];simp;omega
theorem C1 {rows sp xB:List (List PV)} {l:List Row} (hr:rows=l.map Row.enc) (hl:l.length<2^32):pC mx 120 [.sl rows sp,.sl rows xB] (.bool true):=by
 refine pZ NH ?_
 iterate 122 intro _
 intro aO _ ak aI _ aL _ aB aV aW bp bu ah aD;refine gK ?_;refine bl.af (fun hc=>?_) (fun hc=>?_)
 ·refine dp ?_;refine aN ?_;subst_vars;simp at hc
 ·refine dp ?_;refine bG [0,1,5] [] (fun v s=>s.put (some 5) (.pv (.int .i64 (Int.ofNat v)))) (l.length) (fun k=>True) ?_;intro v hv hk;refine dC ?_;refine bl.af (fun hd=>?_) (fun hd=>?_)
  ·refine dp ?_
   have aY:v<l.length:=by subst_vars;simp at hd;omega
   obtain⟨x,hx⟩:∃x,l[v]=x:=⟨_,rfl⟩
   have eQ:aL (Int.ofNat v) rows 5:=by subst_vars;exact aR aY rfl
   have bM:aI rows (Int.ofNat v)=[.int .i64 x.a,.int .i64 x.b,.int .i64 x.c,.int .i64 x.d,.int .i64 x.e]:=by rw[←hx];subst_vars;exact aQ aY
   repeat(refine ae eQ ?_;rw[bM];refine gK ?_)
   refine bl.af (fun he=>?_) (fun he=>?_)
   ·exfalso;subst_vars;simp[bw]at he
   ·refine ae (by subst_vars;simp[aX]) ?_;refine gK ?_;refine ai ⟨aY,trivial,?_⟩;rw[wS ak aO (v:=v) (by omega)];rfl
  ·refine dp ?_;refine au rfl ?_;refine gK ?_;refine aN ?_;rfl
theorem C2 {rows mk sp:List (List PV)} {l:List Row} (hr:rows=l.map Row.enc) (iF:mk=((List.range 12).map Row.rJ).map Row.enc) (hl:l.length<2^32):pC mx 54 [.sl rows mk,.sl rows sp] (.bool true):=by
 have hlen:rows.length=l.length:=by simp[hr]
 have eN:mk.length=12:=by simp[iF]
 have bP:aS 5 rows:=by rw[hr];exact bj (enc:=Row.enc) (fun _=>rfl) l
 have nd:aS 5 mk:=by rw[iF];exact bj (enc:=Row.enc) (fun _=>rfl) _
 rcases mk with _|⟨e,mk⟩
 ·simp at eN
 refine pZ Vc ?_
 iterate 100 intro _
 intro mm _ _ _ _ _ _ _ fj _ _ _ _ _ eA cv _ bs bE b5 cQ bg aO aw ak aI aU aL aP aB aV aW bp bu ah aD;refine gK ?_;refine bl.af (fun hc=>?_) (fun hc=>?_)
 ·refine dp ?_;refine aN ?_;subst_vars;simp at hc
 ·refine dp ?_
  have hw:aw .i64 (bg (cv rows) 12)=Int.ofNat (l.length+12):=by
   rw[←ak,←aO,←ah];simp[hlen];rw[dh]<;>omega
  rw[hw];generalize hN:l.length+12=N;refine ae ?_ ?_
  ·rw[←mm];simp[hlen,bP,←dI,nd]at eN ⊢;omega
  obtain⟨all,kA⟩:∃all,all=rows++e::mk:=⟨_,rfl⟩;rw[show fj (bs rows (e::mk)) 0 (Int.ofNat N)=all by rw[←eA,←bE,kA];simp only[k8,bK,Int.toNat_zero,List.drop_zero,Nat.sub_zero];exact List.take_of_length_le (by simp[hlen]at eN ⊢;omega)]
  have xC:aS 5 all:=by rw[kA];simp[bP,←dI,nd]
  refine gK ?_;refine bG [0,1,5,6] [] (fun v s=>s.put (some 6) (.pv (.int .i64 (Int.ofNat v)))) (N) (fun k=>True) ?_;intro v hv hk;refine dC ?_;refine bl.af (fun hd=>?_) (fun hd=>?_)
  ·refine dp ?_
   have aY:v<N:=by subst_vars;simp at hd;simp at eN;omega
   refine bl.af (fun hf=>?_) (fun hf=>?_)
   ·have bL:v<l.length:=by rw[←aD,←ah]at hf;simp at hf;omega
    obtain⟨x,hx⟩:∃x,l[v]=x:=⟨_,rfl⟩
    have eQ:aL (Int.ofNat v) rows 5:=by subst_vars;exact aR bL rfl
    have bM:aI rows (Int.ofNat v)=[.int .i64 x.a,.int .i64 x.b,.int .i64 x.c,.int .i64 x.d,.int .i64 x.e]:=by rw[←hx];subst_vars;exact aQ bL
    have jX:aL (Int.ofNat v) all 5:=by rw[←aP]at eQ ⊢;rw[kA];exact k9 (by omega) eQ
    have fF:aI all (Int.ofNat v)=[.int .i64 x.a,.int .i64 x.b,.int .i64 x.c,.int .i64 x.d,.int .i64 x.e]:=by rw[←aU]at bM ⊢;rw[kA,lb (by omega)];exact bM
    refine dp ?_;refine ae jX ?_;rw[fF];refine gK ?_;refine ae eQ ?_;rw[bM];refine gK ?_;refine bl.af (fun he=>?_) (fun he=>?_)
    ·refine ae (by subst_vars;simp[aX]) ?_;refine gK ?_;refine dp ?_;refine bl.af (fun hg=>?_) (fun hg=>?_)
     ·exfalso;subst_vars;simp at hg;omega
     ·refine dp ?_;refine ai ⟨aY,trivial,?_⟩;rw[wS ak aO (v:=v) (by omega)];rfl
    ·exfalso;subst_vars;simp[bw]at he
   ·refine dp ?_
    have B7:l.length≤v:=by rw[←aD,←ah]at hf;simp at hf;omega
    refine bl.af (fun hg=>?_) (fun hg=>?_)
    ·obtain⟨w,xD⟩:∃w,w=v-l.length:=⟨_,rfl⟩
     have mn:w<12:=by omega
     obtain⟨m,hm⟩:∃m,m=1000003*(1+7)+Int.ofNat w:=⟨_,rfl⟩
     have dD:aw .i64 (b5 (Int.ofNat v) (cv rows))=Int.ofNat w:=by
      rw[←ak,←cQ,←ah];simp[hlen];rw[dh]<;>omega
     have sB:aG.wx (Int.ofNat w) (e::mk) 5:=by rw[iF];exact aR (by simpa using mn) rfl
     have mo:aG.rat (e::mk) (Int.ofNat w)=[.int .i64 0,.int .i64 m,.int .i64 0,.int .i64 0,.int .i64 0]:=by
      rw[iF,aQ (by simpa using mn)];simp[Row.rJ,Row.enc,iQ,hm]
     have eQ:aL (Int.ofNat v) all 5:=by rw[←aP,kA];exact jG (by omega) (by rw[hlen,←xD];exact sB)
     have bM:aI all (Int.ofNat v)=[.int .i64 0,.int .i64 m,.int .i64 0,.int .i64 0,.int .i64 0]:=by rw[←aU,kA,jF (by omega),hlen,←xD];exact mo
     refine dp ?_;refine ae eQ ?_;rw[bM];refine gK ?_;rw[dD];refine ao (by cbv) (vw hm (by omega) (by omega) (by simp) (by simp;omega)) (fun _=>rfl) ?_;refine gK ?_;refine bl.af (fun he=>?_) (fun he=>?_)
     ·refine ae (by subst_vars;simp[aX]) ?_;refine gK ?_;refine dp ?_;refine ai ⟨aY,trivial,?_⟩;rw[wS ak aO (v:=v) (by omega)];rfl
     ·exfalso;subst_vars;simp[bw]at he
    ·exfalso;subst_vars;simp at hg;omega
  ·refine dp ?_;refine au rfl ?_;refine gK ?_;refine aN ?_;rfl
theorem rL {k i m:Int} (hm:m=1000003*(k+7)+i) (hk:0≤k) (eZ:k<2^30) (hi:0≤i) (hY:i<2^30):pC mx 108 [.int .i64 k,.int .i64 i] (.agg [.int .i64 m,.int .i64 0,.int .i64 0,.int .i64 0,.int .i64 0]):=by
 refine pZ NI ?_
 iterate 129 intro _
 intro aB aV aW bp bu ah aD;refine gK ?_;refine an (by cbv) (lO hm hk eZ hi hY) (fun _=>rfl) ?_;refine gK ?_;refine aN ?_;rfl
theorem Jd:((List.range 12).map Row.rK).length=12:=by simp
theorem yP {rows sp:List (List PV)} {l:List Row} (hr:rows=l.map Row.enc) (hl:l.length<2^32):pC mx 45 [.sl rows sp] (.sl rows (((List.range 12).map Row.rK).map Row.enc)):=by
 have hlen:rows.length=l.length:=by simp[hr]
 have bP:aS 5 rows:=by rw[hr];exact bj (enc:=Row.enc) (fun _=>rfl) l
 have e6:cr 5 rows:=by rw[hr];exact fh (enc:=Row.enc) (fun _=>⟨rfl,by simp[Row.enc]⟩) l
 obtain⟨W,hW⟩:∃W,W=((List.range 12).map Row.rK).map Row.enc:=⟨_,rfl⟩
 have XM:W.length=12:=by simp[hW]
 have iF:∀v,aS 5 (W.take v):=fun v r hr=>bj (enc:=Row.enc) (n:=5) (fun _=>rfl) ((List.range 12).map Row.rK) r (hW▸List.mem_of_mem_take hr)
 rw[←hW]
 clear hr
 refine pZ Vd ?_
 iterate 82 intro _
 intro fu
 iterate 34 intro _
 intro bs _ _ _ _ aO _ ak _ _ _ _ aB aV aW bp bu ah aD;refine gK ?_;refine ae ?_ ?_
 ·subst_vars;simp;rw[dh]<;>omega
 rw[show fu 0 _=[] by subst_vars;rfl];refine gK ?_;refine ae ?_ ?_
 ·subst_vars;simp[e6];omega
 rw[show bs [] rows=rows by subst_vars;rfl];refine gK ?_;refine bG [0,3,4] (nn [8,8]) (fun v s=>s.put (some 4) (.pv (.int .i64 (Int.ofNat v)))|>.aC 8 (.rows 5 (rows++W.take v) 0)) (12) (fun k=>True) ?_;intro v hv hk
 try dsimp only
 generalize cw:rows++W.take v=cur;refine dC ?_;refine bl.af (fun hc=>?_) (fun hc=>?_)
 ·refine dp ?_
  have aY:v<12:=by subst_vars;simp at hc;omega
  obtain⟨m,hm⟩:∃m,m=1000003*(1+7)+Int.ofNat v:=⟨_,rfl⟩;refine an (by cbv) (rL hm (by omega) (by omega) (by simp) (by simp;omega)) (fun _=>rfl) ?_;refine gK ?_;refine ae ?_ ?_
  ·subst_vars;simp[bP,hlen];exact⟨by omega,by omega,iF v⟩
  refine gK ?_;refine ai ⟨aY,trivial,?_⟩;rw[wS ak aO (v:=v) (by omega)]
  rw[show bs cur [[.int .i64 m,.int .i64 0,.int .i64 0,.int .i64 0,.int .i64 0]]=rows++W.take (v+1) by
   subst_vars;rw[List.take_succ_eq_append_getElem (by simpa using aY)]
   simp[Row.rK,Row.enc,iQ]]
  rfl
 ·refine dp ?_;refine au rfl ?_;refine gK ?_;refine ae ?_ ?_
  ·subst_vars;simp[bP,iF]
   try omega
  ·refine gK ?_;refine aN ?_;subst_vars;simp at hc
   obtain rfl:v=12:=by omega
   rw[List.take_of_length_le (l:=((List.range 12).map Row.rK).map Row.enc) (by simp)];simp;rw[List.take_of_length_le];simp;omega
theorem yQ {rows sp xB:List (List PV)} {l:List Row} (hr:rows=l.map Row.enc) (hl:l.length<2^32):pC mx 121 [.sl rows sp,.sl rows xB] (.bool true):=by
 refine pZ NJ ?_
 iterate 122 intro _
 intro aO _ ak aI _ aL _ aB aV aW bp bu ah aD;refine gK ?_;refine bl.af (fun hc=>?_) (fun hc=>?_)
 ·refine dp ?_;refine aN ?_;subst_vars;simp at hc
 ·refine dp ?_;refine bG [0,1,5] [] (fun v s=>s.put (some 5) (.pv (.int .i64 (Int.ofNat v)))) (l.length) (fun k=>True) ?_;intro v hv hk;refine dC ?_;refine bl.af (fun hd=>?_) (fun hd=>?_)
  ·refine dp ?_
   have aY:v<l.length:=by subst_vars;simp at hd;omega
   obtain⟨x,hx⟩:∃x,l[v]=x:=⟨_,rfl⟩
   have eQ:aL (Int.ofNat v) rows 5:=by subst_vars;exact aR aY rfl
   have bM:aI rows (Int.ofNat v)=[.int .i64 x.a,.int .i64 x.b,.int .i64 x.c,.int .i64 x.d,.int .i64 x.e]:=by rw[←hx];subst_vars;exact aQ aY
   repeat(refine ae eQ ?_;rw[bM];refine gK ?_)
   refine bl.af (fun he=>?_) (fun he=>?_)
   ·exfalso;subst_vars;simp[bw]at he
   ·refine ae (by subst_vars;simp[aX]) ?_;refine gK ?_;refine ai ⟨aY,trivial,?_⟩;rw[wS ak aO (v:=v) (by omega)];rfl
  ·refine dp ?_;refine au rfl ?_;refine gK ?_;refine aN ?_;rfl
theorem yR {rows mk sp:List (List PV)} {l:List Row} (hr:rows=l.map Row.enc) (iF:mk=((List.range 12).map Row.rK).map Row.enc) (hl:l.length<2^32):pC mx 55 [.sl rows mk,.sl rows sp] (.bool true):=by
 have hlen:rows.length=l.length:=by simp[hr]
 have eN:mk.length=12:=by simp[iF]
 have bP:aS 5 rows:=by rw[hr];exact bj (enc:=Row.enc) (fun _=>rfl) l
 have nd:aS 5 mk:=by rw[iF];exact bj (enc:=Row.enc) (fun _=>rfl) _
 rcases mk with _|⟨e,mk⟩
 ·simp at eN
 refine pZ Ve ?_
 iterate 100 intro _
 intro mm _ _ _ _ _ _ _ fj _ _ _ _ _ eA cv _ bs bE b5 cQ bg aO aw ak aI aU aL aP aB aV aW bp bu ah aD;refine gK ?_;refine bl.af (fun hc=>?_) (fun hc=>?_)
 ·refine dp ?_;refine aN ?_;subst_vars;simp at hc
 ·refine dp ?_
  have hw:aw .i64 (bg (cv rows) 12)=Int.ofNat (l.length+12):=by
   rw[←ak,←aO,←ah];simp[hlen];rw[dh]<;>omega
  rw[hw];generalize hN:l.length+12=N;refine ae ?_ ?_
  ·rw[←mm];simp[hlen,bP,←dI,nd]at eN ⊢;omega
  obtain⟨all,kA⟩:∃all,all=rows++e::mk:=⟨_,rfl⟩;rw[show fj (bs rows (e::mk)) 0 (Int.ofNat N)=all by rw[←eA,←bE,kA];simp only[k8,bK,Int.toNat_zero,List.drop_zero,Nat.sub_zero];exact List.take_of_length_le (by simp[hlen]at eN ⊢;omega)]
  have xC:aS 5 all:=by rw[kA];simp[bP,←dI,nd]
  refine gK ?_;refine bG [0,1,5,6] [] (fun v s=>s.put (some 6) (.pv (.int .i64 (Int.ofNat v)))) (N) (fun k=>True) ?_;intro v hv hk;refine dC ?_;refine bl.af (fun hd=>?_) (fun hd=>?_)
  ·refine dp ?_
   have aY:v<N:=by subst_vars;simp at hd;simp at eN;omega
   refine bl.af (fun hf=>?_) (fun hf=>?_)
   ·have bL:v<l.length:=by rw[←aD,←ah]at hf;simp at hf;omega
    obtain⟨x,hx⟩:∃x,l[v]=x:=⟨_,rfl⟩
    have eQ:aL (Int.ofNat v) rows 5:=by subst_vars;exact aR bL rfl
    have bM:aI rows (Int.ofNat v)=[.int .i64 x.a,.int .i64 x.b,.int .i64 x.c,.int .i64 x.d,.int .i64 x.e]:=by rw[←hx];subst_vars;exact aQ bL
    have jX:aL (Int.ofNat v) all 5:=by rw[←aP]at eQ ⊢;rw[kA];exact k9 (by omega) eQ
    have fF:aI all (Int.ofNat v)=[.int .i64 x.a,.int .i64 x.b,.int .i64 x.c,.int .i64 x.d,.int .i64 x.e]:=by rw[←aU]at bM ⊢;rw[kA,lb (by omega)];exact bM
    refine dp ?_;refine ae jX ?_;rw[fF];refine gK ?_;refine ae eQ ?_;rw[bM];refine gK ?_;refine bl.af (fun he=>?_) (fun he=>?_)
    ·refine ae (by subst_vars;simp[aX]) ?_;refine gK ?_;refine dp ?_;refine bl.af (fun hg=>?_) (fun hg=>?_)
     ·exfalso;subst_vars;simp at hg;omega
     ·refine dp ?_;refine ai ⟨aY,trivial,?_⟩;rw[wS ak aO (v:=v) (by omega)];rfl
    ·exfalso;subst_vars;simp[bw]at he
   ·refine dp ?_
    have B7:l.length≤v:=by rw[←aD,←ah]at hf;simp at hf;omega
    refine bl.af (fun hg=>?_) (fun hg=>?_)
    ·obtain⟨w,xD⟩:∃w,w=v-l.length:=⟨_,rfl⟩
     have mn:w<12:=by omega
     obtain⟨m,hm⟩:∃m,m=1000003*(1+7)+Int.ofNat w:=⟨_,rfl⟩
     have dD:aw .i64 (b5 (Int.ofNat v) (cv rows))=Int.ofNat w:=by
      rw[←ak,←cQ,←ah];simp[hlen];rw[dh]<;>omega
     have sB:aG.wx (Int.ofNat w) (e::mk) 5:=by rw[iF];exact aR (by simpa using mn) rfl
     have mo:aG.rat (e::mk) (Int.ofNat w)=[.int .i64 m,.int .i64 0,.int .i64 0,.int .i64 0,.int .i64 0]:=by
      rw[iF,aQ (by simpa using mn)];simp[Row.rK,Row.enc,iQ,hm]
     have eQ:aL (Int.ofNat v) all 5:=by rw[←aP,kA];exact jG (by omega) (by rw[hlen,←xD];exact sB)
     have bM:aI all (Int.ofNat v)=[.int .i64 m,.int .i64 0,.int .i64 0,.int .i64 0,.int .i64 0]:=by rw[←aU,kA,jF (by omega),hlen,←xD];exact mo
     refine dp ?_;refine ae eQ ?_;rw[bM];refine gK ?_;rw[dD];refine ao (by cbv) (rL hm (by omega) (by omega) (by simp) (by simp;omega)) (fun _=>rfl) ?_;refine gK ?_;refine bl.af (fun he=>?_) (fun he=>?_)
     ·refine ae (by subst_vars;simp[aX]) ?_;refine gK ?_;refine dp ?_;refine ai ⟨aY,trivial,?_⟩;rw[wS ak aO (v:=v) (by omega)];rfl
     ·exfalso;subst_vars;simp[bw]at he
    ·exfalso;subst_vars;simp at hg;omega
  ·refine dp ?_;refine au rfl ?_;refine gK ?_;refine aN ?_;rfl
theorem tv {k i m:Int} (hm:m=1000003*(k+7)+i) (hk:0≤k) (eZ:k<2^30) (hi:0≤i) (hY:i<2^30):pC mx 58 [.int .i64 k,.int .i64 i] (.agg [.int .i64 m,.str [],.int .u8 0,.bool false,.int .i64 0,.int .i64 0,.int .i64 0,.int .u8 0,.bool false]):=by
 refine pZ Vh ?_
 iterate 129 intro _
 intro aB aV aW bp bu ah aD;refine gK ?_;refine an (by cbv) (lO hm hk eZ hi hY) (fun _=>rfl) ?_;refine gK ?_;refine aN ?_;rfl
theorem Ku:((List.range 12).map cE.mark).length=12:=by simp
theorem Bf {rows sp:List (List PV)} {l:List cE} (hr:rows=l.map cE.enc) (hl:l.length<2^32):pC mx 17 [.sl rows sp] (.sl rows (((List.range 12).map cE.mark).map cE.enc)):=by
 have hlen:rows.length=l.length:=by simp[hr]
 have bP:aS 9 rows:=by rw[hr];exact bj (enc:=cE.enc) (fun _=>rfl) l
 have e6:cr 9 rows:=by rw[hr];exact fh (enc:=cE.enc) (fun _=>⟨rfl,by simp[cE.enc]⟩) l
 obtain⟨W,hW⟩:∃W,W=((List.range 12).map cE.mark).map cE.enc:=⟨_,rfl⟩
 have XM:W.length=12:=by simp[hW]
 have iF:∀v,aS 9 (W.take v):=fun v r hr=>bj (enc:=cE.enc) (n:=9) (fun _=>rfl) ((List.range 12).map cE.mark) r (hW▸List.mem_of_mem_take hr)
 rw[←hW]
 clear hr
 refine pZ Vi ?_
 iterate 82 intro _
 intro fu
 iterate 34 intro _
 intro bs _ _ _ _ aO _ ak _ _ _ _ aB aV aW bp bu ah aD;refine gK ?_;refine ae ?_ ?_
 ·subst_vars;simp;rw[dh]<;>omega
 rw[show fu 0 _=[] by subst_vars;rfl];refine gK ?_;refine ae ?_ ?_
 ·subst_vars;simp[e6];omega
 rw[show bs [] rows=rows by subst_vars;rfl];refine gK ?_;refine bG [0,3,4] (nn [8,8]) (fun v s=>s.put (some 4) (.pv (.int .i64 (Int.ofNat v)))|>.aC 8 (.rows 9 (rows++W.take v) 0)) (12) (fun k=>True) ?_;intro v hv hk
 try dsimp only
 generalize cw:rows++W.take v=cur;refine dC ?_;refine bl.af (fun hc=>?_) (fun hc=>?_)
 ·refine dp ?_
  have aY:v<12:=by subst_vars;simp at hc;omega
  obtain⟨m,hm⟩:∃m,m=1000003*(1+7)+Int.ofNat v:=⟨_,rfl⟩;refine an (by cbv) (tv hm (by omega) (by omega) (by simp) (by simp;omega)) (fun _=>rfl) ?_;refine gK ?_;refine ae ?_ ?_
  ·subst_vars;simp[bP,hlen];exact⟨by omega,by omega,iF v⟩
  refine gK ?_;refine ai ⟨aY,trivial,?_⟩;rw[wS ak aO (v:=v) (by omega)]
  rw[show bs cur [[.int .i64 m,.str [],.int .u8 0,.bool false,.int .i64 0,.int .i64 0,.int .i64 0,.int .u8 0,.bool false]]=rows++W.take (v+1) by
   subst_vars;rw[List.take_succ_eq_append_getElem (by simpa using aY)]
   simp[cE.mark,cE.enc,iQ]]
  rfl
 ·refine dp ?_;refine au rfl ?_;refine gK ?_;refine ae ?_ ?_
  ·subst_vars;simp[bP,iF]
   try omega
  ·refine gK ?_;refine aN ?_;subst_vars;simp at hc
   obtain rfl:v=12:=by omega
   rw[List.take_of_length_le (l:=((List.range 12).map cE.mark).map cE.enc) (by simp)];simp;rw[List.take_of_length_le];simp;omega
theorem Bg {rows sp xB:List (List PV)} {l:List cE} (hr:rows=l.map cE.enc) (hl:l.length<2^32):pC mx 71 [.sl rows sp,.sl rows xB] (.bool true):=by
 refine pZ Ks ?_
 iterate 122 intro _
 intro aO _ ak aI _ aL _ aB aV aW bp bu ah aD;refine gK ?_;refine bl.af (fun hc=>?_) (fun hc=>?_)
 ·refine dp ?_;refine aN ?_;subst_vars;simp at hc
 ·refine dp ?_;refine bG [0,1,5] [] (fun v s=>s.put (some 5) (.pv (.int .i64 (Int.ofNat v)))) (l.length) (fun k=>True) ?_;intro v hv hk;refine dC ?_;refine bl.af (fun hd=>?_) (fun hd=>?_)
  ·refine dp ?_
   have aY:v<l.length:=by subst_vars;simp at hd;omega
   obtain⟨x,hx⟩:∃x,l[v]=x:=⟨_,rfl⟩
   have eQ:aL (Int.ofNat v) rows 9:=by subst_vars;exact aR aY rfl
   have bM:aI rows (Int.ofNat v)=[.int .i64 x.id,.str x.number,.int .u8 x.size,.bool x.high,.int .i64 x.ca,.int .i64 x.load,.int .i64 x.discharge,.int .u8 x.cls,.bool x.bS]:=by rw[←hx];subst_vars;exact aQ aY
   repeat(refine ae eQ ?_;rw[bM];refine gK ?_)
   refine bl.af (fun he=>?_) (fun he=>?_)
   ·exfalso;subst_vars;simp[bw]at he
   ·refine ae (by subst_vars;simp[aX]) ?_;refine gK ?_;refine ai ⟨aY,trivial,?_⟩;rw[wS ak aO (v:=v) (by omega)];rfl
  ·refine dp ?_;refine au rfl ?_;refine gK ?_;refine aN ?_;rfl
theorem Bh {rows mk sp:List (List PV)} {l:List cE} (hr:rows=l.map cE.enc) (iF:mk=((List.range 12).map cE.mark).map cE.enc) (hl:l.length<2^32):pC mx 24 [.sl rows mk,.sl rows sp] (.bool true):=by
 have hlen:rows.length=l.length:=by simp[hr]
 have eN:mk.length=12:=by simp[iF]
 have bP:aS 9 rows:=by rw[hr];exact bj (enc:=cE.enc) (fun _=>rfl) l
 have nd:aS 9 mk:=by rw[iF];exact bj (enc:=cE.enc) (fun _=>rfl) _
 rcases mk with _|⟨e,mk⟩
 ·simp at eN
 refine pZ Vj ?_
 iterate 100 intro _
 intro mm _ _ _ _ _ _ _ fj _ _ _ _ _ eA cv _ bs bE b5 cQ bg aO aw ak aI aU aL aP aB aV aW bp bu ah aD;refine gK ?_;refine bl.af (fun hc=>?_) (fun hc=>?_)
 ·refine dp ?_;refine aN ?_;subst_vars;simp at hc
 ·refine dp ?_
  have hw:aw .i64 (bg (cv rows) 12)=Int.ofNat (l.length+12):=by
   rw[←ak,←aO,←ah];simp[hlen];rw[dh]<;>omega
  rw[hw];generalize hN:l.length+12=N;refine ae ?_ ?_
  ·rw[←mm];simp[hlen,bP,←dI,nd]at eN ⊢;omega
  obtain⟨all,kA⟩:∃all,all=rows++e::mk:=⟨_,rfl⟩;rw[show fj (bs rows (e::mk)) 0 (Int.ofNat N)=all by rw[←eA,←bE,kA];simp only[k8,bK,Int.toNat_zero,List.drop_zero,Nat.sub_zero];exact List.take_of_length_le (by simp[hlen]at eN ⊢;omega)]
  have xC:aS 9 all:=by rw[kA];simp[bP,←dI,nd]
  refine gK ?_;refine bG [0,1,5,6] [] (fun v s=>s.put (some 6) (.pv (.int .i64 (Int.ofNat v)))) (N) (fun k=>True) ?_;intro v hv hk;refine dC ?_;refine bl.af (fun hd=>?_) (fun hd=>?_)
  ·refine dp ?_
   have aY:v<N:=by subst_vars;simp at hd;simp at eN;omega
   refine bl.af (fun hf=>?_) (fun hf=>?_)
   ·have bL:v<l.length:=by rw[←aD,←ah]at hf;simp at hf;omega
    obtain⟨x,hx⟩:∃x,l[v]=x:=⟨_,rfl⟩
    have eQ:aL (Int.ofNat v) rows 9:=by subst_vars;exact aR bL rfl
    have bM:aI rows (Int.ofNat v)=[.int .i64 x.id,.str x.number,.int .u8 x.size,.bool x.high,.int .i64 x.ca,.int .i64 x.load,.int .i64 x.discharge,.int .u8 x.cls,.bool x.bS]:=by rw[←hx];subst_vars;exact aQ bL
    have jX:aL (Int.ofNat v) all 9:=by rw[←aP]at eQ ⊢;rw[kA];exact k9 (by omega) eQ
    have fF:aI all (Int.ofNat v)=[.int .i64 x.id,.str x.number,.int .u8 x.size,.bool x.high,.int .i64 x.ca,.int .i64 x.load,.int .i64 x.discharge,.int .u8 x.cls,.bool x.bS]:=by rw[←aU]at bM ⊢;rw[kA,lb (by omega)];exact bM
    refine dp ?_;refine ae jX ?_;rw[fF];refine gK ?_;refine ae eQ ?_;rw[bM];refine gK ?_;refine bl.af (fun he=>?_) (fun he=>?_)
    ·refine ae (by subst_vars;simp[aX]) ?_;refine gK ?_;refine dp ?_;refine bl.af (fun hg=>?_) (fun hg=>?_)
     ·exfalso;subst_vars;simp at hg;omega
     ·refine dp ?_;refine ai ⟨aY,trivial,?_⟩;rw[wS ak aO (v:=v) (by omega)];rfl
    ·exfalso;subst_vars;simp[bw]at he
   ·refine dp ?_
    have B7:l.length≤v:=by rw[←aD,←ah]at hf;simp at hf;omega
    refine bl.af (fun hg=>?_) (fun hg=>?_)
    ·obtain⟨w,xD⟩:∃w,w=v-l.length:=⟨_,rfl⟩
     have mn:w<12:=by omega
     obtain⟨m,hm⟩:∃m,m=1000003*(1+7)+Int.ofNat w:=⟨_,rfl⟩
     have dD:aw .i64 (b5 (Int.ofNat v) (cv rows))=Int.ofNat w:=by
      rw[←ak,←cQ,←ah];simp[hlen];rw[dh]<;>omega
     have sB:aG.wx (Int.ofNat w) (e::mk) 9:=by rw[iF];exact aR (by simpa using mn) rfl
     have mo:aG.rat (e::mk) (Int.ofNat w)=[.int .i64 m,.str [],.int .u8 0,.bool false,.int .i64 0,.int .i64 0,.int .i64 0,.int .u8 0,.bool false]:=by
      rw[iF,aQ (by simpa using mn)];simp[cE.mark,cE.enc,iQ,hm]
     have eQ:aL (Int.ofNat v) all 9:=by rw[←aP,kA];exact jG (by omega) (by rw[hlen,←xD];exact sB)
     have bM:aI all (Int.ofNat v)=[.int .i64 m,.str [],.int .u8 0,.bool false,.int .i64 0,.int .i64 0,.int .i64 0,.int .u8 0,.bool false]:=by rw[←aU,kA,jF (by omega),hlen,←xD];exact mo
     refine dp ?_;refine ae eQ ?_;rw[bM];refine gK ?_;rw[dD];refine ao (by cbv) (tv hm (by omega) (by omega) (by simp) (by simp;omega)) (fun _=>rfl) ?_;refine gK ?_;refine bl.af (fun he=>?_) (fun he=>?_)
     ·refine ae (by subst_vars;simp[aX]) ?_;refine gK ?_;refine dp ?_;refine ai ⟨aY,trivial,?_⟩;rw[wS ak aO (v:=v) (by omega)];rfl
     ·exfalso;subst_vars;simp[bw]at he
    ·exfalso;subst_vars;simp at hg;omega
  ·refine dp ?_;refine au rfl ?_;refine gK ?_;refine aN ?_;rfl
theorem ql {k i m:Int} (hm:m=1000003*(k+7)+i) (hk:0≤k) (eZ:k<2^30) (hi:0≤i) (hY:i<2^30):pC mx 204 [.int .i64 k,.int .i64 i] (.agg [.int .i64 m,.int .i64 0,.int .i64 0,.int .u8 0]):=by
 refine pZ NP ?_
 iterate 129 intro _
 intro aB aV aW bp bu ah aD;refine gK ?_;refine an (by cbv) (lO hm hk eZ hi hY) (fun _=>rfl) ?_;refine gK ?_;refine aN ?_;rfl
theorem Ie:((List.range 12).map aT.mark).length=12:=by simp
theorem xE {rows sp:List (List PV)} {l:List aT} (hr:rows=l.map aT.enc) (hl:l.length<2^32):pC mx 111 [.sl rows sp] (.sl rows (((List.range 12).map aT.mark).map aT.enc)):=by
 have hlen:rows.length=l.length:=by simp[hr]
 have bP:aS 4 rows:=by rw[hr];exact bj (enc:=aT.enc) (fun _=>rfl) l
 have e6:cr 4 rows:=by rw[hr];exact fh (enc:=aT.enc) (fun _=>⟨rfl,by simp[aT.enc]⟩) l
 obtain⟨W,hW⟩:∃W,W=((List.range 12).map aT.mark).map aT.enc:=⟨_,rfl⟩
 have XM:W.length=12:=by simp[hW]
 have iF:∀v,aS 4 (W.take v):=fun v r hr=>bj (enc:=aT.enc) (n:=4) (fun _=>rfl) ((List.range 12).map aT.mark) r (hW▸List.mem_of_mem_take hr)
 rw[←hW]
 clear hr
 refine pZ NQ ?_
 iterate 82 intro _
 intro fu
 iterate 34 intro _
 intro bs _ _ _ _ aO _ ak _ _ _ _ aB aV aW bp bu ah aD;refine gK ?_;refine ae ?_ ?_
 ·subst_vars;simp;rw[dh]<;>omega
 rw[show fu 0 _=[] by subst_vars;rfl];refine gK ?_;refine ae ?_ ?_
 ·subst_vars;simp[e6];omega
 rw[show bs [] rows=rows by subst_vars;rfl];refine gK ?_;refine bG [0,3,4] (nn [8,8]) (fun v s=>s.put (some 4) (.pv (.int .i64 (Int.ofNat v)))|>.aC 8 (.rows 4 (rows++W.take v) 0)) (12) (fun k=>True) ?_;intro v hv hk
 try dsimp only
 generalize cw:rows++W.take v=cur;refine dC ?_;refine bl.af (fun hc=>?_) (fun hc=>?_)
 ·refine dp ?_
  have aY:v<12:=by subst_vars;simp at hc;omega
  obtain⟨m,hm⟩:∃m,m=1000003*(1+7)+Int.ofNat v:=⟨_,rfl⟩;refine an (by cbv) (ql hm (by omega) (by omega) (by simp) (by simp;omega)) (fun _=>rfl) ?_;refine gK ?_;refine ae ?_ ?_
  ·subst_vars;simp[bP,hlen];exact⟨by omega,by omega,iF v⟩
  refine gK ?_;refine ai ⟨aY,trivial,?_⟩;rw[wS ak aO (v:=v) (by omega)]
  rw[show bs cur [[.int .i64 m,.int .i64 0,.int .i64 0,.int .u8 0]]=rows++W.take (v+1) by
   subst_vars;rw[List.take_succ_eq_append_getElem (by simpa using aY)]
   simp[aT.mark,aT.enc,iQ]]
  rfl
 ·refine dp ?_;refine au rfl ?_;refine gK ?_;refine ae ?_ ?_
  ·subst_vars;simp[bP,iF]
   try omega
  ·refine gK ?_;refine aN ?_;subst_vars;simp at hc
   obtain rfl:v=12:=by omega
   rw[List.take_of_length_le (l:=((List.range 12).map aT.mark).map aT.enc) (by simp)];simp;rw[List.take_of_length_le];simp;omega
theorem xF {rows sp xB:List (List PV)} {l:List aT} (hr:rows=l.map aT.enc) (hl:l.length<2^32):pC mx 72 [.sl rows sp,.sl rows xB] (.bool true):=by
 refine pZ Kt ?_
 iterate 122 intro _
 intro aO _ ak aI _ aL _ aB aV aW bp bu ah aD;refine gK ?_;refine bl.af (fun hc=>?_) (fun hc=>?_)
 ·refine dp ?_;refine aN ?_;subst_vars;simp at hc
 ·refine dp ?_;refine bG [0,1,5] [] (fun v s=>s.put (some 5) (.pv (.int .i64 (Int.ofNat v)))) (l.length) (fun k=>True) ?_;intro v hv hk;refine dC ?_;refine bl.af (fun hd=>?_) (fun hd=>?_)
  ·refine dp ?_
   have aY:v<l.length:=by subst_vars;simp at hd;omega
   obtain⟨x,hx⟩:∃x,l[v]=x:=⟨_,rfl⟩
   have eQ:aL (Int.ofNat v) rows 4:=by subst_vars;exact aR aY rfl
   have bM:aI rows (Int.ofNat v)=[.int .i64 x.box,.int .i64 x.slot.column,.int .i64 x.slot.gG,.int .u8 x.slot.half]:=by rw[←hx];subst_vars;exact aQ aY
   repeat(refine ae eQ ?_;rw[bM];refine gK ?_)
   refine bl.af (fun he=>?_) (fun he=>?_)
   ·exfalso;subst_vars;simp[bw]at he
   ·refine ae (by subst_vars;simp[aX]) ?_;refine gK ?_;refine ai ⟨aY,trivial,?_⟩;rw[wS ak aO (v:=v) (by omega)];rfl
  ·refine dp ?_;refine au rfl ?_;refine gK ?_;refine aN ?_;rfl
theorem xG {rows mk sp:List (List PV)} {l:List aT} (hr:rows=l.map aT.enc) (iF:mk=((List.range 12).map aT.mark).map aT.enc) (hl:l.length<2^32):pC mx 117 [.sl rows mk,.sl rows sp] (.bool true):=by
 have hlen:rows.length=l.length:=by simp[hr]
 have eN:mk.length=12:=by simp[iF]
 have bP:aS 4 rows:=by rw[hr];exact bj (enc:=aT.enc) (fun _=>rfl) l
 have nd:aS 4 mk:=by rw[iF];exact bj (enc:=aT.enc) (fun _=>rfl) _
 rcases mk with _|⟨e,mk⟩
 ·simp at eN
 refine pZ NR ?_
 iterate 100 intro _
 intro mm _ _ _ _ _ _ _ fj _ _ _ _ _ eA cv _ bs bE b5 cQ bg aO aw ak aI aU aL aP aB aV aW bp bu ah aD;refine gK ?_;refine bl.af (fun hc=>?_) (fun hc=>?_)
 ·refine dp ?_;refine aN ?_;subst_vars;simp at hc
 ·refine dp ?_
  have hw:aw .i64 (bg (cv rows) 12)=Int.ofNat (l.length+12):=by
   rw[←ak,←aO,←ah];simp[hlen];rw[dh]<;>omega
  rw[hw];generalize hN:l.length+12=N;refine ae ?_ ?_
  ·rw[←mm];simp[hlen,bP,←dI,nd]at eN ⊢;omega
  obtain⟨all,kA⟩:∃all,all=rows++e::mk:=⟨_,rfl⟩;rw[show fj (bs rows (e::mk)) 0 (Int.ofNat N)=all by rw[←eA,←bE,kA];simp only[k8,bK,Int.toNat_zero,List.drop_zero,Nat.sub_zero];exact List.take_of_length_le (by simp[hlen]at eN ⊢;omega)]
  have xC:aS 4 all:=by rw[kA];simp[bP,←dI,nd]
  refine gK ?_;refine bG [0,1,5,6] [] (fun v s=>s.put (some 6) (.pv (.int .i64 (Int.ofNat v)))) (N) (fun k=>True) ?_;intro v hv hk;refine dC ?_;refine bl.af (fun hd=>?_) (fun hd=>?_)
  ·refine dp ?_
   have aY:v<N:=by subst_vars;simp at hd;simp at eN;omega
   refine bl.af (fun hf=>?_) (fun hf=>?_)
   ·have bL:v<l.length:=by rw[←aD,←ah]at hf;simp at hf;omega
    obtain⟨x,hx⟩:∃x,l[v]=x:=⟨_,rfl⟩
    have eQ:aL (Int.ofNat v) rows 4:=by subst_vars;exact aR bL rfl
    have bM:aI rows (Int.ofNat v)=[.int .i64 x.box,.int .i64 x.slot.column,.int .i64 x.slot.gG,.int .u8 x.slot.half]:=by rw[←hx];subst_vars;exact aQ bL
    have jX:aL (Int.ofNat v) all 4:=by rw[←aP]at eQ ⊢;rw[kA];exact k9 (by omega) eQ
    have fF:aI all (Int.ofNat v)=[.int .i64 x.box,.int .i64 x.slot.column,.int .i64 x.slot.gG,.int .u8 x.slot.half]:=by rw[←aU]at bM ⊢;rw[kA,lb (by omega)];exact bM
    refine dp ?_;refine ae jX ?_;rw[fF];refine gK ?_;refine ae eQ ?_;rw[bM];refine gK ?_;refine bl.af (fun he=>?_) (fun he=>?_)
    ·refine ae (by subst_vars;simp[aX]) ?_;refine gK ?_;refine dp ?_;refine bl.af (fun hg=>?_) (fun hg=>?_)
     ·exfalso;subst_vars;simp at hg;omega
     ·refine dp ?_;refine ai ⟨aY,trivial,?_⟩;rw[wS ak aO (v:=v) (by omega)];rfl
    ·exfalso;subst_vars;simp[bw]at he
   ·refine dp ?_
    have B7:l.length≤v:=by rw[←aD,←ah]at hf;simp at hf;omega
    refine bl.af (fun hg=>?_) (fun hg=>?_)
    ·obtain⟨w,xD⟩:∃w,w=v-l.length:=⟨_,rfl⟩
     have mn:w<12:=by omega
     obtain⟨m,hm⟩:∃m,m=1000003*(1+7)+Int.ofNat w:=⟨_,rfl⟩
     have dD:aw .i64 (b5 (Int.ofNat v) (cv rows))=Int.ofNat w:=by
      rw[←ak,←cQ,←ah];simp[hlen];rw[dh]<;>omega
     have sB:aG.wx (Int.ofNat w) (e::mk) 4:=by rw[iF];exact aR (by simpa using mn) rfl
     have mo:aG.rat (e::mk) (Int.ofNat w)=[.int .i64 m,.int .i64 0,.int .i64 0,.int .u8 0]:=by
      rw[iF,aQ (by simpa using mn)];simp[aT.mark,aT.enc,iQ,hm]
     have eQ:aL (Int.ofNat v) all 4:=by rw[←aP,kA];exact jG (by omega) (by rw[hlen,←xD];exact sB)
     have bM:aI all (Int.ofNat v)=[.int .i64 m,.int .i64 0,.int .i64 0,.int .u8 0]:=by rw[←aU,kA,jF (by omega),hlen,←xD];exact mo
     refine dp ?_;refine ae eQ ?_;rw[bM];refine gK ?_;rw[dD];refine ao (by cbv) (ql hm (by omega) (by omega) (by simp) (by simp;omega)) (fun _=>rfl) ?_;refine gK ?_;refine bl.af (fun he=>?_) (fun he=>?_)
     ·refine ae (by subst_vars;simp[aX]) ?_;refine gK ?_;refine dp ?_;refine ai ⟨aY,trivial,?_⟩;rw[wS ak aO (v:=v) (by omega)];rfl
     ·exfalso;subst_vars;simp[bw]at he
    ·exfalso;subst_vars;simp at hg;omega
  ·refine dp ?_;refine au rfl ?_;refine gK ?_;refine aN ?_;rfl
end Go.bW
end
section
open Go Go.Am Go.Proofs
attribute [local irreducible] Am.bl.holds bA fw bC dv
namespace Go.bW
variable {mx:Int}
theorem qm {k i m:Int} (hm:m=1000003*(k+7)+i) (hk:0≤k) (eZ:k<2^30) (hi:0≤i) (hY:i<2^30):pC mx 104 [.int .i64 k,.int .i64 i] (.agg [.int .i64 m,.int .i64 0,.bool false,.int .i64 0,.int .i64 0,.int .i64 0,.int .i64 0,.int .i64 0,.sl [] [],.int .i64 0,.int .i64 0,.int .i64 0]):=by
 refine pZ Nw ?_
 iterate 129 intro _
 intro aB aV aW bp bu ah aD;refine gK ?_;refine an (by cbv) (lO hm hk eZ hi hY) (fun _=>rfl) ?_;refine gK ?_;refine aN ?_;rfl
theorem yS {p sp mk:List (List PV)} {x:aM} (hp:p=ints x.b9) (iF:mk=ints marks) (hl:x.b9.length<2^32):pC mx 103 [.agg [.int .i64 x.jH,.int .i64 x.row,.bool x.js,.int .i64 x.dk,.int .i64 x.di,.int .i64 x.vt,.int .i64 x.vu,.int .i64 x.lf,.sl p sp,.int .i64 x.x,.int .i64 x.y,.int .i64 x.z]] (.agg [.int .i64 x.jH,.int .i64 x.row,.bool x.js,.int .i64 x.dk,.int .i64 x.di,.int .i64 x.vt,.int .i64 x.vu,.int .i64 x.lf,.sl p mk,.int .i64 x.x,.int .i64 x.y,.int .i64 x.z]):=by
 refine pZ Nv ?_
 iterate 129 intro _
 intro aB aV aW bp bu ah aD;refine gK ?_;refine an (by cbv) (show ar _ _ _ [.sl p sp] (.sl p mk) by rw[iF];exact qi hp hl) (fun h=>by cases h) ?_;refine gK ?_;refine aN ?_;rfl
theorem nv {p sp xB:List (List PV)} {x:aM} (hp:p=ints x.b9) (hl:x.b9.length<2^32):pC mx 124 [.agg [.int .i64 x.jH,.int .i64 x.row,.bool x.js,.int .i64 x.dk,.int .i64 x.di,.int .i64 x.vt,.int .i64 x.vu,.int .i64 x.lf,.sl p sp,.int .i64 x.x,.int .i64 x.y,.int .i64 x.z],.agg [.int .i64 x.jH,.int .i64 x.row,.bool x.js,.int .i64 x.dk,.int .i64 x.di,.int .i64 x.vt,.int .i64 x.vu,.int .i64 x.lf,.sl p xB,.int .i64 x.x,.int .i64 x.y,.int .i64 x.z]] (.bool true):=by
 cases hdk:x.js
 all_goals
  refine pZ Ny ?_
  iterate 129 intro _
  intro aB aV aW bp bu ah aD;refine gK ?_
  repeat(refine bl.af (fun hc=>?_) (fun hc=>by exfalso;subst_vars;simp at hc);refine dp ?_)
  refine an (by cbv) (qj hp hl) (fun _=>rfl) ?_;refine gK ?_
  repeat(refine bl.af (fun hc=>?_) (fun hc=>by exfalso;subst_vars;simp at hc);refine dp ?_)
  refine aN ?_;rfl
theorem yT {p sp mk:List (List PV)} {x:aM} (hp:p=ints x.b9) (iF:mk=ints marks) (hl:x.b9.length<2^32):pC mx 123 [.agg [.int .i64 x.jH,.int .i64 x.row,.bool x.js,.int .i64 x.dk,.int .i64 x.di,.int .i64 x.vt,.int .i64 x.vu,.int .i64 x.lf,.sl p mk,.int .i64 x.x,.int .i64 x.y,.int .i64 x.z],.agg [.int .i64 x.jH,.int .i64 x.row,.bool x.js,.int .i64 x.dk,.int .i64 x.di,.int .i64 x.vt,.int .i64 x.vu,.int .i64 x.lf,.sl p sp,.int .i64 x.x,.int .i64 x.y,.int .i64 x.z]] (.bool true):=by
 refine pZ Nz ?_
 iterate 129 intro _
 intro aB aV aW bp bu ah aD;refine gK ?_;refine an (by cbv) (nv hp hl) (fun _=>rfl) ?_;refine gK ?_;refine an (by cbv) (qk hp iF hl) (fun _=>rfl) ?_;refine gK ?_;refine aN ?_;rfl
theorem rM {k i m:Int} (hm:m=1000003*(k+7)+i) (hk:0≤k) (eZ:k<2^30) (hi:0≤i) (hY:i<2^30):pC mx 106 [.int .i64 k,.int .i64 i] (.agg [.int .i64 m,.sl [] []]):=by
 refine pZ NB ?_
 iterate 129 intro _
 intro aB aV aW bp bu ah aD;refine gK ?_;refine an (by cbv) (lO hm hk eZ hi hY) (fun _=>rfl) ?_;refine gK ?_;refine aN ?_;rfl
theorem Bi {p sp mk:List (List PV)} {x:bq} (hp:p=ints x.rows) (iF:mk=ints marks) (hl:x.rows.length<2^32):pC mx 105 [.agg [.int .i64 x.jH,.sl p sp]] (.agg [.int .i64 x.jH,.sl p mk]):=by
 refine pZ NA ?_
 iterate 129 intro _
 intro aB aV aW bp bu ah aD;refine gK ?_;refine an (by cbv) (show ar _ _ _ [.sl p sp] (.sl p mk) by rw[iF];exact qi hp hl) (fun h=>by cases h) ?_;refine gK ?_;refine aN ?_;rfl
theorem oO {p sp xB:List (List PV)} {x:bq} (hp:p=ints x.rows) (hl:x.rows.length<2^32):pC mx 126 [.agg [.int .i64 x.jH,.sl p sp],.agg [.int .i64 x.jH,.sl p xB]] (.bool true):=by
  refine pZ ND ?_
  iterate 129 intro _
  intro aB aV aW bp bu ah aD;refine gK ?_
  repeat(refine bl.af (fun hc=>?_) (fun hc=>by exfalso;subst_vars;simp at hc);refine dp ?_)
  refine an (by cbv) (qj hp hl) (fun _=>rfl) ?_;refine gK ?_
  repeat(refine bl.af (fun hc=>?_) (fun hc=>by exfalso;subst_vars;simp at hc);refine dp ?_)
  refine aN ?_;rfl
theorem Bj {p sp mk:List (List PV)} {x:bq} (hp:p=ints x.rows) (iF:mk=ints marks) (hl:x.rows.length<2^32):pC mx 125 [.agg [.int .i64 x.jH,.sl p mk],.agg [.int .i64 x.jH,.sl p sp]] (.bool true):=by
 refine pZ NF ?_
 iterate 129 intro _
 intro aB aV aW bp bu ah aD;refine gK ?_;refine an (by cbv) (oO hp hl) (fun _=>rfl) ?_;refine gK ?_;refine an (by cbv) (qk hp iF hl) (fun _=>rfl) ?_;refine gK ?_;refine aN ?_;rfl
theorem tw {k i m:Int} (hm:m=1000003*(k+7)+i) (hk:0≤k) (eZ:k<2^30) (hi:0≤i) (hY:i<2^30):pC mx 110 [.int .i64 k,.int .i64 i] (.agg [.int .i64 m,.int .i64 0,.int .i64 0,.int .i64 0,.int .i64 0,.sl [] []]):=by
 refine pZ NL ?_
 iterate 129 intro _
 intro aB aV aW bp bu ah aD;refine gK ?_;refine an (by cbv) (lO hm hk eZ hi hY) (fun _=>rfl) ?_;refine gK ?_;refine aN ?_;rfl
theorem C3 {p sp mk:List (List PV)} {x:eb} (hp:p=ints x.steps) (iF:mk=ints marks) (hl:x.steps.length<2^32):pC mx 109 [.agg [.int .i64 x.ca,.int .i64 x.x,.int .i64 x.y,.int .i64 x.z,.int .i64 x.iE,.sl p sp]] (.agg [.int .i64 x.ca,.int .i64 x.x,.int .i64 x.y,.int .i64 x.z,.int .i64 x.iE,.sl p mk]):=by
 refine pZ NK ?_
 iterate 129 intro _
 intro aB aV aW bp bu ah aD;refine gK ?_;refine an (by cbv) (show ar _ _ _ [.sl p sp] (.sl p mk) by rw[iF];exact qi hp hl) (fun h=>by cases h) ?_;refine gK ?_;refine aN ?_;rfl
theorem qn {p sp xB:List (List PV)} {x:eb} (hp:p=ints x.steps) (hl:x.steps.length<2^32):pC mx 128 [.agg [.int .i64 x.ca,.int .i64 x.x,.int .i64 x.y,.int .i64 x.z,.int .i64 x.iE,.sl p sp],.agg [.int .i64 x.ca,.int .i64 x.x,.int .i64 x.y,.int .i64 x.z,.int .i64 x.iE,.sl p xB]] (.bool true):=by
  refine pZ NN ?_
  iterate 129 intro _
  intro aB aV aW bp bu ah aD;refine gK ?_
  repeat(refine bl.af (fun hc=>?_) (fun hc=>by exfalso;subst_vars;simp at hc);refine dp ?_)
  refine an (by cbv) (qj hp hl) (fun _=>rfl) ?_;refine gK ?_
  repeat(refine bl.af (fun hc=>?_) (fun hc=>by exfalso;subst_vars;simp at hc);refine dp ?_)
  refine aN ?_;rfl
theorem C4 {p sp mk:List (List PV)} {x:eb} (hp:p=ints x.steps) (iF:mk=ints marks) (hl:x.steps.length<2^32):pC mx 127 [.agg [.int .i64 x.ca,.int .i64 x.x,.int .i64 x.y,.int .i64 x.z,.int .i64 x.iE,.sl p mk],.agg [.int .i64 x.ca,.int .i64 x.x,.int .i64 x.y,.int .i64 x.z,.int .i64 x.iE,.sl p sp]] (.bool true):=by
 refine pZ NO ?_
 iterate 129 intro _
 intro aB aV aW bp bu ah aD;refine gK ?_;refine an (by cbv) (qn hp hl) (fun _=>rfl) ?_;refine gK ?_;refine an (by cbv) (qk hp iF hl) (fun _=>rfl) ?_;refine gK ?_;refine aN ?_;rfl
end Go.bW
end
