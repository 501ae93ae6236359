import Derived.Test.YtfaccbkibjkfjaaGreatDoorT09
import Derived.Test.YtfaccbkibjkfjaaGreatDoorT41
set_option linter.all false
set_option maxRecDepth 100000
set_option maxHeartbeats 1000000
section
open Go Go.Am Go.Proofs
attribute [local irreducible] Am.bl.holds bA fw bC dv
namespace Go.bW
variable {mx:Int}
theorem xH {rows sp W MK:List (List PV)} {l:List aM} (hr:rows=l.map aM.enc) (hW:W=(l.map aM.gF).map aM.enc) (vx:MK=((List.range 12).map aM.mark).map aM.enc) (hl:l.length<2^32) (hp:∀x∈l,x.b9.length<2^32):pC mx 42 [.sl rows sp] (.sl W MK):=by
 have hlen:rows.length=l.length:=by simp[hr]
 have eX:W.length=l.length:=by simp[hW]
 have lg:MK.length=12:=by simp[vx]
 have jI:aS 12 W:=by rw[hW];exact bj (enc:=aM.enc) (fun _=>rfl) _
 have lh:aS 12 MK:=by rw[vx];exact bj (enc:=aM.enc) (fun _=>rfl) _
 have Kv:∀v,aS 12 (W.take v):=fun v r hr=>jI r (List.mem_of_mem_take hr)
 have Kw:∀v,aS 12 (MK.take v):=fun v r hr=>lh r (List.mem_of_mem_take hr)
 obtain⟨mk,iF⟩:∃mk,mk=ints marks:=⟨_,rfl⟩;refine pZ U7 ?_
 iterate 82 intro _
 intro fu
 iterate 11 intro _
 intro nw
 iterate 19 intro _
 intro eA cv bO bs bE _ _ _ aO _ ak aI aU aL aP aB aV aW bp bu ah aD;refine gK ?_;refine ae ?_ ?_
 ·subst_vars;simp;rw[dh]<;>omega
 rw[show fu 0 _=[] by subst_vars;rfl];refine gK ?_;refine bG [0,3,4] (nn [10,10]) (fun v s=>s.put (some 4) (.pv (.int .i64 (Int.ofNat v)))|>.aC 10 (.rows 12 (W.take v) 0)) (l.length) (fun k=>True) ?_;intro v hv hk
 try dsimp only
 generalize cw:W.take v=cur;refine dC ?_;refine bl.af (fun hc=>?_) (fun hc=>?_)
 ·have aY:v<l.length:=by subst_vars;simp at hc;omega
  obtain⟨x,hx⟩:∃x,l[v]=x:=⟨_,rfl⟩;have yN:x.b9.length<2^32:=hp x (by rw[←hx];exact List.getElem_mem aY)
  have eQ:aL (Int.ofNat v) rows 12:=by rw[←aP,hr];exact aR aY rfl
  obtain⟨p,pA⟩:∃p,p=ints x.b9:=⟨_,rfl⟩
  have ZD:v<W.length:=by omega
  have bM:aI rows (Int.ofNat v)=[.int .i64 x.jH,.int .i64 x.row,.bool x.js,.int .i64 x.dk,.int .i64 x.di,.int .i64 x.vt,.int .i64 x.vu,.int .i64 x.lf,.sl p x.D0,.int .i64 x.x,.int .i64 x.y,.int .i64 x.z]:=by rw[←aU,hr,aQ aY,hx,pA];rfl
  refine dp ?_;refine ae eQ ?_;rw[bM];refine gK ?_;refine an (by cbv) (yS pA iF yN) (fun h=>by cases h) ?_;refine gK ?_;refine ae ?_ ?_
  ·rw[←bO,←cw];have:=Kv v;simp[this,eX];omega
  refine gK ?_;refine ai ⟨aY,trivial,?_⟩;rw[wS ak aO (v:=v) (by omega)]
  rw[show bs cur [[.int .i64 x.jH,.int .i64 x.row,.bool x.js,.int .i64 x.dk,.int .i64 x.di,.int .i64 x.vt,.int .i64 x.vu,.int .i64 x.lf,.sl p mk,.int .i64 x.x,.int .i64 x.y,.int .i64 x.z]]=W.take (v+1) by
   rw[←bE,←cw,List.take_succ_eq_append_getElem ZD,bK]
   congr 2
   subst hW;simp only[List.getElem_map];rw[hx,pA,iF]
   rfl]
  cbv
 ·have aY:v=l.length:=by subst_vars;simp at hc;omega
  refine dp ?_;refine au rfl ?_;refine gK ?_;rw[show cur=W by rw[←cw];exact List.take_of_length_le (by omega)];refine bG [0,3,6] (nn [10,10]) (fun v s=>s.put (some 6) (.pv (.int .i64 (Int.ofNat v)))|>.aC 10 (.rows 12 (W++MK.take v) 0)) (12) (fun k=>True) ?_;intro v hv hk
  try dsimp only
  generalize cw:W++MK.take v=cur;refine dC ?_;refine bl.af (fun vY=>?_) (fun vY=>?_)
  ·refine dp ?_
   have aY:v<12:=by subst_vars;simp at vY;omega
   have ZE:v<MK.length:=by omega
   obtain⟨m,hm⟩:∃m,m=1000003*(1+7)+Int.ofNat v:=⟨_,rfl⟩;refine an (by cbv) (qm hm (by omega) (by omega) (by simp) (by simp;omega)) (fun h=>by first|rfl|cases h) ?_;refine gK ?_;refine ae ?_ ?_
   ·rw[←bO,←cw];have:=Kw v;simp[this,jI,eX];omega
   refine gK ?_;refine ai ⟨aY,trivial,?_⟩;rw[wS ak aO (v:=v) (by omega)]
   rw[show bs cur [[.int .i64 m,.int .i64 0,.bool false,.int .i64 0,.int .i64 0,.int .i64 0,.int .i64 0,.int .i64 0,.sl [] [],.int .i64 0,.int .i64 0,.int .i64 0]]=W++MK.take (v+1) by
    rw[←bE,←cw,List.take_succ_eq_append_getElem ZE,bK,List.append_assoc]
    congr 3
    subst vx;simp only[List.getElem_map,List.getElem_range];rw[hm,←iQ]
    rfl]
   cbv
  ·refine dp ?_;refine au rfl ?_;refine gK ?_
   have gu:v=12:=by subst_vars;simp at vY;omega
   rw[show cur=W++MK by rw[←cw,List.take_of_length_le (l:=MK) (by omega)]]
   have px:cv rows=Int.ofNat W.length:=by rw[←ah];simp[hlen,eX]
   rw[px];refine ae ?_ ?_
   ·rw[←nw];simp[jI,lh,eX]
    try omega
   ·refine gK ?_;refine aN ?_;rw[←eA]
    congr 2
    ·simp
    ·rw[←ah];simp;rw[List.take_of_length_le (by omega)]
theorem xI {W rows sp xB:List (List PV)} {l:List aM} {f:aM→List (List PV)} (hr:rows=l.map aM.enc) (hW:W=l.map fun x=>({x with D0:=f x}:aM).enc) (hl:l.length<2^32) (hp:∀x∈l,x.b9.length<2^32):pC mx 118 [.sl W sp,.sl rows xB] (.bool true):=by
 have hlen:rows.length=l.length:=by simp[hr]
 have eX:W.length=l.length:=by simp[hW]
 refine pZ Nx ?_
 iterate 122 intro _
 intro aO _ ak aI aU aL aP aB aV aW bp bu ah aD;refine gK ?_;refine bl.af (fun hc=>?_) (fun hc=>?_)
 ·refine dp ?_;refine aN ?_;exfalso;subst_vars;simp at hc
 ·refine dp ?_;refine bG [0,1,5] [] (fun v s=>s.put (some 5) (.pv (.int .i64 (Int.ofNat v)))) (l.length) (fun k=>True) ?_;intro v hv hk;refine dC ?_;refine bl.af (fun hd=>?_) (fun hd=>?_)
  ·have aY:v<l.length:=by subst_vars;simp at hd;omega
   obtain⟨x,hx⟩:∃x,l[v]=x:=⟨_,rfl⟩;have yN:x.b9.length<2^32:=hp x (by rw[←hx];exact List.getElem_mem aY);obtain⟨p,pA⟩:∃p,p=ints x.b9:=⟨_,rfl⟩;obtain⟨q,hq⟩:∃q,q=f x:=⟨_,rfl⟩
   have eQ:aL (Int.ofNat v) rows 12:=by rw[←aP,hr];exact aR aY rfl
   have bM:aI rows (Int.ofNat v)=[.int .i64 x.jH,.int .i64 x.row,.bool x.js,.int .i64 x.dk,.int .i64 x.di,.int .i64 x.vt,.int .i64 x.vu,.int .i64 x.lf,.sl p x.D0,.int .i64 x.x,.int .i64 x.y,.int .i64 x.z]:=by rw[←aU,hr,aQ aY,hx,pA];rfl
   have jX:aL (Int.ofNat v) W 12:=by rw[←aP,hW];exact aR aY rfl
   have fF:aI W (Int.ofNat v)=[.int .i64 x.jH,.int .i64 x.row,.bool x.js,.int .i64 x.dk,.int .i64 x.di,.int .i64 x.vt,.int .i64 x.vu,.int .i64 x.lf,.sl p q,.int .i64 x.x,.int .i64 x.y,.int .i64 x.z]:=by rw[←aU,hW,aQ (enc:=fun x=>({x with D0:=f x}:aM).enc) aY,hx,pA,hq];rfl
   refine dp ?_;refine ae jX ?_;rw[fF];refine gK ?_;refine ae eQ ?_;rw[bM];refine gK ?_;refine ao (by cbv) (nv pA yN) (fun _=>rfl) ?_;refine gK ?_;refine ai ⟨aY,trivial,?_⟩;rw[wS ak aO (v:=v) (by omega)]
   cbv
  ·refine dp ?_;refine au rfl ?_;refine gK ?_;refine aN ?_;rfl
theorem xJ {W MK rows sp:List (List PV)} {l:List aM} (hr:rows=l.map aM.enc) (hW:W=(l.map aM.gF).map aM.enc) (vx:MK=((List.range 12).map aM.mark).map aM.enc) (hl:l.length<2^32) (hp:∀x∈l,x.b9.length<2^32):pC mx 52 [.sl W MK,.sl rows sp] (.bool true):=by
 have hlen:rows.length=l.length:=by simp[hr]
 have eX:W.length=l.length:=by simp[hW]
 have lg:MK.length=12:=by simp[vx]
 have jI:aS 12 W:=by rw[hW];exact bj (enc:=aM.enc) (fun _=>rfl) _
 have lh:aS 12 MK:=by rw[vx];exact bj (enc:=aM.enc) (fun _=>rfl) _
 obtain⟨mk,iF⟩:∃mk,mk=ints marks:=⟨_,rfl⟩;obtain⟨all,kA⟩:∃all,all=W++MK:=⟨_,rfl⟩
 have xC:aS 12 all:=by rw[kA];simp[jI,lh]
 rcases MK with _|⟨e,MK⟩
 ·simp at lg
 refine pZ U8 ?_
 iterate 100 intro _
 intro mm _ _ _ _ _ _ _ fj _ _ _ _ _ eA cv _ bs bE b5 cQ bg aO aw ak aI aU aL aP aB aV aW bp bu ah aD;refine gK ?_;refine bl.af (fun hc=>?_) (fun hc=>?_)
 ·refine dp ?_;refine aN ?_;exfalso;subst_vars;simp at hc
  try omega
 ·refine dp ?_
  have hw:aw .i64 (bg (cv rows) 12)=Int.ofNat (l.length+12):=by
   rw[←ak,←aO,←ah];simp[hlen];rw[dh]<;>omega
  rw[hw];generalize hN:l.length+12=N;refine ae ?_ ?_
  ·rw[←mm];simp[eX,jI,←dI,lh]at lg ⊢;omega
  rw[show fj (bs W (e::MK)) 0 (Int.ofNat N)=all by rw[←eA,←bE,kA];simp only[k8,bK,Int.toNat_zero,List.drop_zero,Nat.sub_zero];exact List.take_of_length_le (by simp[eX]at lg ⊢;omega)];refine gK ?_;refine bG [0,1,5,6] [] (fun v s=>s.put (some 6) (.pv (.int .i64 (Int.ofNat v)))) (N) (fun k=>True) ?_;intro v hv hk;refine dC ?_;refine bl.af (fun hd=>?_) (fun hd=>?_)
  ·have aY:v<N:=by subst_vars;simp at hd;simp at lg;omega
   refine dp ?_;refine bl.af (fun hf=>?_) (fun hf=>?_)
   ·have bL:v<l.length:=by rw[←aD,←ah]at hf;simp at hf;omega
    obtain⟨x,hx⟩:∃x,l[v]=x:=⟨_,rfl⟩;have yN:x.b9.length<2^32:=hp x (by rw[←hx];exact List.getElem_mem bL);obtain⟨p,pA⟩:∃p,p=ints x.b9:=⟨_,rfl⟩
    have eQ:aL (Int.ofNat v) rows 12:=by rw[←aP,hr];exact aR bL rfl
    have bM:aI rows (Int.ofNat v)=[.int .i64 x.jH,.int .i64 x.row,.bool x.js,.int .i64 x.dk,.int .i64 x.di,.int .i64 x.vt,.int .i64 x.vu,.int .i64 x.lf,.sl p x.D0,.int .i64 x.x,.int .i64 x.y,.int .i64 x.z]:=by rw[←aU,hr,aQ bL,hx,pA];rfl
    have jX:aL (Int.ofNat v) all 12:=by rw[←aP,kA];exact k9 (by omega) (by rw[hW,List.map_map];exact aR (enc:=aM.enc∘aM.gF) bL rfl)
    have fF:aI all (Int.ofNat v)=[.int .i64 x.jH,.int .i64 x.row,.bool x.js,.int .i64 x.dk,.int .i64 x.di,.int .i64 x.vt,.int .i64 x.vu,.int .i64 x.lf,.sl p mk,.int .i64 x.x,.int .i64 x.y,.int .i64 x.z]:=by rw[←aU,kA,lb (by omega),hW,List.map_map,aQ (enc:=aM.enc∘aM.gF) bL,hx,pA,iF];rfl
    refine dp ?_;refine ae jX ?_;rw[fF];refine gK ?_;refine ae eQ ?_;rw[bM];refine gK ?_;refine ao (by cbv) (yT pA iF yN) (fun _=>rfl) ?_;refine gK ?_;refine bl.af (fun hg=>?_) (fun hg=>?_)
    ·exfalso;subst_vars;simp at hg;omega
    ·refine dp ?_;refine ai ⟨aY,trivial,?_⟩;rw[wS ak aO (v:=v) (by omega)]
     cbv
   ·refine dp ?_
    have B7:l.length≤v:=by rw[←aD,←ah]at hf;simp at hf;omega
    refine bl.af (fun hg=>?_) (fun hg=>?_)
    ·obtain⟨w,xD⟩:∃w,w=v-l.length:=⟨_,rfl⟩
     have mn:w<12:=by omega
     obtain⟨m,hm⟩:∃m,m=1000003*(1+7)+Int.ofNat w:=⟨_,rfl⟩
     have dD:aw .i64 (b5 (Int.ofNat v) (cv rows))=Int.ofNat w:=by
      rw[←ak,←cQ,←ah];simp[hlen];rw[dh]<;>omega
     have sB:aG.wx (Int.ofNat w) (e::MK) 12:=by rw[vx];exact aR (by simpa using mn) rfl
     have mo:aG.rat (e::MK) (Int.ofNat w)=[.int .i64 m,.int .i64 0,.bool false,.int .i64 0,.int .i64 0,.int .i64 0,.int .i64 0,.int .i64 0,.sl [] [],.int .i64 0,.int .i64 0,.int .i64 0]:=by
      rw[vx,aQ (by simpa using mn)];simp[aM.mark,aM.enc,ints,iQ,hm]
     have eQ:aL (Int.ofNat v) all 12:=by rw[←aP,kA];exact jG (by omega) (by rw[eX,←xD];exact sB)
     have bM:aI all (Int.ofNat v)=[.int .i64 m,.int .i64 0,.bool false,.int .i64 0,.int .i64 0,.int .i64 0,.int .i64 0,.int .i64 0,.sl [] [],.int .i64 0,.int .i64 0,.int .i64 0]:=by rw[←aU,kA,jF (by omega),eX,←xD];exact mo
     refine dp ?_;refine ae eQ ?_;rw[bM];refine gK ?_;rw[dD];refine ao (by cbv) (qm hm (by omega) (by omega) (by simp) (by simp;omega)) (fun h=>by first|rfl|cases h) ?_;refine gK ?_;refine ao (by cbv) (nv (p:=[]) (x:={aM.mark w with jH:=m}) rfl (by simp[aM.mark])) (fun _=>rfl) ?_;refine gK ?_;refine ai ⟨aY,trivial,?_⟩;rw[wS ak aO (v:=v) (by omega)]
     cbv
    ·exfalso;subst_vars;simp at hg;omega
  ·refine dp ?_;refine au rfl ?_;refine gK ?_;refine aN ?_;rfl
theorem yU {rows sp W MK:List (List PV)} {l:List bq} (hr:rows=l.map bq.enc) (hW:W=(l.map bq.gF).map bq.enc) (vx:MK=((List.range 12).map bq.mark).map bq.enc) (hl:l.length<2^32) (hp:∀x∈l,x.rows.length<2^32):pC mx 43 [.sl rows sp] (.sl W MK):=by
 have hlen:rows.length=l.length:=by simp[hr]
 have eX:W.length=l.length:=by simp[hW]
 have lg:MK.length=12:=by simp[vx]
 have jI:aS 2 W:=by rw[hW];exact bj (enc:=bq.enc) (fun _=>rfl) _
 have lh:aS 2 MK:=by rw[vx];exact bj (enc:=bq.enc) (fun _=>rfl) _
 have Kv:∀v,aS 2 (W.take v):=fun v r hr=>jI r (List.mem_of_mem_take hr)
 have Kw:∀v,aS 2 (MK.take v):=fun v r hr=>lh r (List.mem_of_mem_take hr)
 obtain⟨mk,iF⟩:∃mk,mk=ints marks:=⟨_,rfl⟩;refine pZ U9 ?_
 iterate 82 intro _
 intro fu
 iterate 11 intro _
 intro nw
 iterate 19 intro _
 intro eA cv bO bs bE _ _ _ aO _ ak aI aU aL aP aB aV aW bp bu ah aD;refine gK ?_;refine ae ?_ ?_
 ·subst_vars;simp;rw[dh]<;>omega
 rw[show fu 0 _=[] by subst_vars;rfl];refine gK ?_;refine bG [0,3,4] (nn [10,10]) (fun v s=>s.put (some 4) (.pv (.int .i64 (Int.ofNat v)))|>.aC 10 (.rows 2 (W.take v) 0)) (l.length) (fun k=>True) ?_;intro v hv hk
 try dsimp only
 generalize cw:W.take v=cur;refine dC ?_;refine bl.af (fun hc=>?_) (fun hc=>?_)
 ·have aY:v<l.length:=by subst_vars;simp at hc;omega
  obtain⟨x,hx⟩:∃x,l[v]=x:=⟨_,rfl⟩;have yN:x.rows.length<2^32:=hp x (by rw[←hx];exact List.getElem_mem aY)
  have eQ:aL (Int.ofNat v) rows 2:=by rw[←aP,hr];exact aR aY rfl
  obtain⟨p,pA⟩:∃p,p=ints x.rows:=⟨_,rfl⟩
  have ZD:v<W.length:=by omega
  have bM:aI rows (Int.ofNat v)=[.int .i64 x.jH,.sl p x.rsp]:=by rw[←aU,hr,aQ aY,hx,pA];rfl
  refine dp ?_;refine ae eQ ?_;rw[bM];refine gK ?_;refine an (by cbv) (Bi pA iF yN) (fun h=>by cases h) ?_;refine gK ?_;refine ae ?_ ?_
  ·rw[←bO,←cw];have:=Kv v;simp[this,eX];omega
  refine gK ?_;refine ai ⟨aY,trivial,?_⟩;rw[wS ak aO (v:=v) (by omega)]
  rw[show bs cur [[.int .i64 x.jH,.sl p mk]]=W.take (v+1) by
   rw[←bE,←cw,List.take_succ_eq_append_getElem ZD,bK]
   congr 2
   subst hW;simp only[List.getElem_map];rw[hx,pA,iF]
   rfl]
  cbv
 ·have aY:v=l.length:=by subst_vars;simp at hc;omega
  refine dp ?_;refine au rfl ?_;refine gK ?_;rw[show cur=W by rw[←cw];exact List.take_of_length_le (by omega)];refine bG [0,3,6] (nn [10,10]) (fun v s=>s.put (some 6) (.pv (.int .i64 (Int.ofNat v)))|>.aC 10 (.rows 2 (W++MK.take v) 0)) (12) (fun k=>True) ?_;intro v hv hk
  try dsimp only
  generalize cw:W++MK.take v=cur;refine dC ?_;refine bl.af (fun vY=>?_) (fun vY=>?_)
  ·refine dp ?_
   have aY:v<12:=by subst_vars;simp at vY;omega
   have ZE:v<MK.length:=by omega
   obtain⟨m,hm⟩:∃m,m=1000003*(1+7)+Int.ofNat v:=⟨_,rfl⟩;refine an (by cbv) (rM hm (by omega) (by omega) (by simp) (by simp;omega)) (fun h=>by first|rfl|cases h) ?_;refine gK ?_;refine ae ?_ ?_
   ·rw[←bO,←cw];have:=Kw v;simp[this,jI,eX];omega
   refine gK ?_;refine ai ⟨aY,trivial,?_⟩;rw[wS ak aO (v:=v) (by omega)]
   rw[show bs cur [[.int .i64 m,.sl [] []]]=W++MK.take (v+1) by
    rw[←bE,←cw,List.take_succ_eq_append_getElem ZE,bK,List.append_assoc]
    congr 3
    subst vx;simp only[List.getElem_map,List.getElem_range];rw[hm,←iQ]
    rfl]
   cbv
  ·refine dp ?_;refine au rfl ?_;refine gK ?_
   have gu:v=12:=by subst_vars;simp at vY;omega
   rw[show cur=W++MK by rw[←cw,List.take_of_length_le (l:=MK) (by omega)]]
   have px:cv rows=Int.ofNat W.length:=by rw[←ah];simp[hlen,eX]
   rw[px];refine ae ?_ ?_
   ·rw[←nw];simp[jI,lh,eX]
    try omega
   ·refine gK ?_;refine aN ?_;rw[←eA]
    congr 2
    ·simp
    ·rw[←ah];simp;rw[List.take_of_length_le (by omega)]
theorem yV {W rows sp xB:List (List PV)} {l:List bq} {f:bq→List (List PV)} (hr:rows=l.map bq.enc) (hW:W=l.map fun x=>({x with rsp:=f x}:bq).enc) (hl:l.length<2^32) (hp:∀x∈l,x.rows.length<2^32):pC mx 119 [.sl W sp,.sl rows xB] (.bool true):=by
 have hlen:rows.length=l.length:=by simp[hr]
 have eX:W.length=l.length:=by simp[hW]
 refine pZ NC ?_
 iterate 122 intro _
 intro aO _ ak aI aU aL aP aB aV aW bp bu ah aD;refine gK ?_;refine bl.af (fun hc=>?_) (fun hc=>?_)
 ·refine dp ?_;refine aN ?_;exfalso;subst_vars;simp at hc
 ·refine dp ?_;refine bG [0,1,5] [] (fun v s=>s.put (some 5) (.pv (.int .i64 (Int.ofNat v)))) (l.length) (fun k=>True) ?_;intro v hv hk;refine dC ?_;refine bl.af (fun hd=>?_) (fun hd=>?_)
  ·have aY:v<l.length:=by subst_vars;simp at hd;omega
   obtain⟨x,hx⟩:∃x,l[v]=x:=⟨_,rfl⟩;have yN:x.rows.length<2^32:=hp x (by rw[←hx];exact List.getElem_mem aY);obtain⟨p,pA⟩:∃p,p=ints x.rows:=⟨_,rfl⟩;obtain⟨q,hq⟩:∃q,q=f x:=⟨_,rfl⟩
   have eQ:aL (Int.ofNat v) rows 2:=by rw[←aP,hr];exact aR aY rfl
   have bM:aI rows (Int.ofNat v)=[.int .i64 x.jH,.sl p x.rsp]:=by rw[←aU,hr,aQ aY,hx,pA];rfl
   have jX:aL (Int.ofNat v) W 2:=by rw[←aP,hW];exact aR aY rfl
   have fF:aI W (Int.ofNat v)=[.int .i64 x.jH,.sl p q]:=by rw[←aU,hW,aQ (enc:=fun x=>({x with rsp:=f x}:bq).enc) aY,hx,pA,hq];rfl
   refine dp ?_;refine ae jX ?_;rw[fF];refine gK ?_;refine ae eQ ?_;rw[bM];refine gK ?_;refine ao (by cbv) (oO pA yN) (fun _=>rfl) ?_;refine gK ?_;refine ai ⟨aY,trivial,?_⟩;rw[wS ak aO (v:=v) (by omega)]
   cbv
  ·refine dp ?_;refine au rfl ?_;refine gK ?_;refine aN ?_;rfl
theorem yW {W MK rows sp:List (List PV)} {l:List bq} (hr:rows=l.map bq.enc) (hW:W=(l.map bq.gF).map bq.enc) (vx:MK=((List.range 12).map bq.mark).map bq.enc) (hl:l.length<2^32) (hp:∀x∈l,x.rows.length<2^32):pC mx 53 [.sl W MK,.sl rows sp] (.bool true):=by
 have hlen:rows.length=l.length:=by simp[hr]
 have eX:W.length=l.length:=by simp[hW]
 have lg:MK.length=12:=by simp[vx]
 have jI:aS 2 W:=by rw[hW];exact bj (enc:=bq.enc) (fun _=>rfl) _
 have lh:aS 2 MK:=by rw[vx];exact bj (enc:=bq.enc) (fun _=>rfl) _
 obtain⟨mk,iF⟩:∃mk,mk=ints marks:=⟨_,rfl⟩;obtain⟨all,kA⟩:∃all,all=W++MK:=⟨_,rfl⟩
 have xC:aS 2 all:=by rw[kA];simp[jI,lh]
 rcases MK with _|⟨e,MK⟩
 ·simp at lg
 refine pZ Va ?_
 iterate 100 intro _
 intro mm _ _ _ _ _ _ _ fj _ _ _ _ _ eA cv _ bs bE b5 cQ bg aO aw ak aI aU aL aP aB aV aW bp bu ah aD;refine gK ?_;refine bl.af (fun hc=>?_) (fun hc=>?_)
 ·refine dp ?_;refine aN ?_;exfalso;subst_vars;simp at hc
  try omega
 ·refine dp ?_
  have hw:aw .i64 (bg (cv rows) 12)=Int.ofNat (l.length+12):=by
   rw[←ak,←aO,←ah];simp[hlen];rw[dh]<;>omega
  rw[hw];generalize hN:l.length+12=N;refine ae ?_ ?_
  ·rw[←mm];simp[eX,jI,←dI,lh]at lg ⊢;omega
  rw[show fj (bs W (e::MK)) 0 (Int.ofNat N)=all by rw[←eA,←bE,kA];simp only[k8,bK,Int.toNat_zero,List.drop_zero,Nat.sub_zero];exact List.take_of_length_le (by simp[eX]at lg ⊢;omega)];refine gK ?_;refine bG [0,1,5,6] [] (fun v s=>s.put (some 6) (.pv (.int .i64 (Int.ofNat v)))) (N) (fun k=>True) ?_;intro v hv hk;refine dC ?_;refine bl.af (fun hd=>?_) (fun hd=>?_)
  ·have aY:v<N:=by subst_vars;simp at hd;simp at lg;omega
   refine dp ?_;refine bl.af (fun hf=>?_) (fun hf=>?_)
   ·have bL:v<l.length:=by rw[←aD,←ah]at hf;simp at hf;omega
    obtain⟨x,hx⟩:∃x,l[v]=x:=⟨_,rfl⟩;have yN:x.rows.length<2^32:=hp x (by rw[←hx];exact List.getElem_mem bL);obtain⟨p,pA⟩:∃p,p=ints x.rows:=⟨_,rfl⟩
    have eQ:aL (Int.ofNat v) rows 2:=by rw[←aP,hr];exact aR bL rfl
    have bM:aI rows (Int.ofNat v)=[.int .i64 x.jH,.sl p x.rsp]:=by rw[←aU,hr,aQ bL,hx,pA];rfl
    have jX:aL (Int.ofNat v) all 2:=by rw[←aP,kA];exact k9 (by omega) (by rw[hW,List.map_map];exact aR (enc:=bq.enc∘bq.gF) bL rfl)
    have fF:aI all (Int.ofNat v)=[.int .i64 x.jH,.sl p mk]:=by rw[←aU,kA,lb (by omega),hW,List.map_map,aQ (enc:=bq.enc∘bq.gF) bL,hx,pA,iF];rfl
    refine dp ?_;refine ae jX ?_;rw[fF];refine gK ?_;refine ae eQ ?_;rw[bM];refine gK ?_;refine ao (by cbv) (Bj pA iF yN) (fun _=>rfl) ?_;refine gK ?_;refine bl.af (fun hg=>?_) (fun hg=>?_)
    ·exfalso;subst_vars;simp at hg;omega
    ·refine dp ?_;refine ai ⟨aY,trivial,?_⟩;rw[wS ak aO (v:=v) (by omega)]
     cbv
   ·refine dp ?_
    have B7:l.length≤v:=by rw[←aD,←ah]at hf;simp at hf;omega
    refine bl.af (fun hg=>?_) (fun hg=>?_)
    ·obtain⟨w,xD⟩:∃w,w=v-l.length:=⟨_,rfl⟩
     have mn:w<12:=by omega
     obtain⟨m,hm⟩:∃m,m=1000003*(1+7)+Int.ofNat w:=⟨_,rfl⟩
     have dD:aw .i64 (b5 (Int.ofNat v) (cv rows))=Int.ofNat w:=by
      rw[←ak,←cQ,←ah];simp[hlen];rw[dh]<;>omega
     have sB:aG.wx (Int.ofNat w) (e::MK) 2:=by rw[vx];exact aR (by simpa using mn) rfl
     have mo:aG.rat (e::MK) (Int.ofNat w)=[.int .i64 m,.sl [] []]:=by
      rw[vx,aQ (by simpa using mn)];simp[bq.mark,bq.enc,ints,iQ,hm]
     have eQ:aL (Int.ofNat v) all 2:=by rw[←aP,kA];exact jG (by omega) (by rw[eX,←xD];exact sB)
     have bM:aI all (Int.ofNat v)=[.int .i64 m,.sl [] []]:=by rw[←aU,kA,jF (by omega),eX,←xD];exact mo
     refine dp ?_;refine ae eQ ?_;rw[bM];refine gK ?_;rw[dD];refine ao (by cbv) (rM hm (by omega) (by omega) (by simp) (by simp;omega)) (fun h=>by first|rfl|cases h) ?_;refine gK ?_;refine ao (by cbv) (oO (p:=[]) (x:={bq.mark w with jH:=m}) rfl (by simp[bq.mark])) (fun _=>rfl) ?_;refine gK ?_;refine ai ⟨aY,trivial,?_⟩;rw[wS ak aO (v:=v) (by omega)]
     cbv
    ·exfalso;subst_vars;simp at hg;omega
  ·refine dp ?_;refine au rfl ?_;refine gK ?_;refine aN ?_;rfl
theorem Bk {rows sp W MK:List (List PV)} {l:List eb} (hr:rows=l.map eb.enc) (hW:W=(l.map eb.gF).map eb.enc) (vx:MK=((List.range 12).map eb.mark).map eb.enc) (hl:l.length<2^32) (hp:∀x∈l,x.steps.length<2^32):pC mx 46 [.sl rows sp] (.sl W MK):=by
 have hlen:rows.length=l.length:=by simp[hr]
 have eX:W.length=l.length:=by simp[hW]
 have lg:MK.length=12:=by simp[vx]
 have jI:aS 6 W:=by rw[hW];exact bj (enc:=eb.enc) (fun _=>rfl) _
 have lh:aS 6 MK:=by rw[vx];exact bj (enc:=eb.enc) (fun _=>rfl) _
 have Kv:∀v,aS 6 (W.take v):=fun v r hr=>jI r (List.mem_of_mem_take hr)
 have Kw:∀v,aS 6 (MK.take v):=fun v r hr=>lh r (List.mem_of_mem_take hr)
 obtain⟨mk,iF⟩:∃mk,mk=ints marks:=⟨_,rfl⟩;refine pZ Vf ?_
 iterate 82 intro _
 intro fu
 iterate 11 intro _
 intro nw
 iterate 19 intro _
 intro eA cv bO bs bE _ _ _ aO _ ak aI aU aL aP aB aV aW bp bu ah aD;refine gK ?_;refine ae ?_ ?_
 ·subst_vars;simp;rw[dh]<;>omega
 rw[show fu 0 _=[] by subst_vars;rfl];refine gK ?_;refine bG [0,3,4] (nn [10,10]) (fun v s=>s.put (some 4) (.pv (.int .i64 (Int.ofNat v)))|>.aC 10 (.rows 6 (W.take v) 0)) (l.length) (fun k=>True) ?_;intro v hv hk
 try dsimp only
 generalize cw:W.take v=cur;refine dC ?_;refine bl.af (fun hc=>?_) (fun hc=>?_)
 ·have aY:v<l.length:=by subst_vars;simp at hc;omega
  obtain⟨x,hx⟩:∃x,l[v]=x:=⟨_,rfl⟩;have yN:x.steps.length<2^32:=hp x (by rw[←hx];exact List.getElem_mem aY)
  have eQ:aL (Int.ofNat v) rows 6:=by rw[←aP,hr];exact aR aY rfl
  obtain⟨p,pA⟩:∃p,p=ints x.steps:=⟨_,rfl⟩
  have ZD:v<W.length:=by omega
  have bM:aI rows (Int.ofNat v)=[.int .i64 x.ca,.int .i64 x.x,.int .i64 x.y,.int .i64 x.z,.int .i64 x.iE,.sl p x.U4]:=by rw[←aU,hr,aQ aY,hx,pA];rfl
  refine dp ?_;refine ae eQ ?_;rw[bM];refine gK ?_;refine an (by cbv) (C3 pA iF yN) (fun h=>by cases h) ?_;refine gK ?_;refine ae ?_ ?_
  ·rw[←bO,←cw];have:=Kv v;simp[this,eX];omega
  refine gK ?_;refine ai ⟨aY,trivial,?_⟩;rw[wS ak aO (v:=v) (by omega)]
  rw[show bs cur [[.int .i64 x.ca,.int .i64 x.x,.int .i64 x.y,.int .i64 x.z,.int .i64 x.iE,.sl p mk]]=W.take (v+1) by
   rw[←bE,←cw,List.take_succ_eq_append_getElem ZD,bK]
   congr 2
   subst hW;simp only[List.getElem_map];rw[hx,pA,iF]
   rfl]
  cbv
 ·have aY:v=l.length:=by subst_vars;simp at hc;omega
  refine dp ?_;refine au rfl ?_;refine gK ?_;rw[show cur=W by rw[←cw];exact List.take_of_length_le (by omega)];refine bG [0,3,6] (nn [10,10]) (fun v s=>s.put (some 6) (.pv (.int .i64 (Int.ofNat v)))|>.aC 10 (.rows 6 (W++MK.take v) 0)) (12) (fun k=>True) ?_;intro v hv hk
  try dsimp only
  generalize cw:W++MK.take v=cur;refine dC ?_;refine bl.af (fun vY=>?_) (fun vY=>?_)
  ·refine dp ?_
   have aY:v<12:=by subst_vars;simp at vY;omega
   have ZE:v<MK.length:=by omega
   obtain⟨m,hm⟩:∃m,m=1000003*(1+7)+Int.ofNat v:=⟨_,rfl⟩;refine an (by cbv) (tw hm (by omega) (by omega) (by simp) (by simp;omega)) (fun h=>by first|rfl|cases h) ?_;refine gK ?_;refine ae ?_ ?_
   ·rw[←bO,←cw];have:=Kw v;simp[this,jI,eX];omega
   refine gK ?_;refine ai ⟨aY,trivial,?_⟩;rw[wS ak aO (v:=v) (by omega)]
   rw[show bs cur [[.int .i64 m,.int .i64 0,.int .i64 0,.int .i64 0,.int .i64 0,.sl [] []]]=W++MK.take (v+1) by
    rw[←bE,←cw,List.take_succ_eq_append_getElem ZE,bK,List.append_assoc]
    congr 3
    subst vx;simp only[List.getElem_map,List.getElem_range];rw[hm,←iQ]
    rfl]
   cbv
  ·refine dp ?_;refine au rfl ?_;refine gK ?_
   have gu:v=12:=by subst_vars;simp at vY;omega
   rw[show cur=W++MK by rw[←cw,List.take_of_length_le (l:=MK) (by omega)]]
   have px:cv rows=Int.ofNat W.length:=by rw[←ah];simp[hlen,eX]
   rw[px];refine ae ?_ ?_
   ·rw[←nw];simp[jI,lh,eX]
    try omega
   ·refine gK ?_;refine aN ?_;rw[←eA]
    congr 2
    ·simp
    ·rw[←ah];simp;rw[List.take_of_length_le (by omega)]
theorem Bl {W rows sp xB:List (List PV)} {l:List eb} {f:eb→List (List PV)} (hr:rows=l.map eb.enc) (hW:W=l.map fun x=>({x with U4:=f x}:eb).enc) (hl:l.length<2^32) (hp:∀x∈l,x.steps.length<2^32):pC mx 122 [.sl W sp,.sl rows xB] (.bool true):=by
 have hlen:rows.length=l.length:=by simp[hr]
 have eX:W.length=l.length:=by simp[hW]
 refine pZ NM ?_
 iterate 122 intro _
 intro aO _ ak aI aU aL aP aB aV aW bp bu ah aD;refine gK ?_;refine bl.af (fun hc=>?_) (fun hc=>?_)
 ·refine dp ?_;refine aN ?_;exfalso;subst_vars;simp at hc
 ·refine dp ?_;refine bG [0,1,5] [] (fun v s=>s.put (some 5) (.pv (.int .i64 (Int.ofNat v)))) (l.length) (fun k=>True) ?_;intro v hv hk;refine dC ?_;refine bl.af (fun hd=>?_) (fun hd=>?_)
  ·have aY:v<l.length:=by subst_vars;simp at hd;omega
   obtain⟨x,hx⟩:∃x,l[v]=x:=⟨_,rfl⟩;have yN:x.steps.length<2^32:=hp x (by rw[←hx];exact List.getElem_mem aY);obtain⟨p,pA⟩:∃p,p=ints x.steps:=⟨_,rfl⟩;obtain⟨q,hq⟩:∃q,q=f x:=⟨_,rfl⟩
   have eQ:aL (Int.ofNat v) rows 6:=by rw[←aP,hr];exact aR aY rfl
   have bM:aI rows (Int.ofNat v)=[.int .i64 x.ca,.int .i64 x.x,.int .i64 x.y,.int .i64 x.z,.int .i64 x.iE,.sl p x.U4]:=by rw[←aU,hr,aQ aY,hx,pA];rfl
   have jX:aL (Int.ofNat v) W 6:=by rw[←aP,hW];exact aR aY rfl
   have fF:aI W (Int.ofNat v)=[.int .i64 x.ca,.int .i64 x.x,.int .i64 x.y,.int .i64 x.z,.int .i64 x.iE,.sl p q]:=by rw[←aU,hW,aQ (enc:=fun x=>({x with U4:=f x}:eb).enc) aY,hx,pA,hq];rfl
   refine dp ?_;refine ae jX ?_;rw[fF];refine gK ?_;refine ae eQ ?_;rw[bM];refine gK ?_;refine ao (by cbv) (qn pA yN) (fun _=>rfl) ?_;refine gK ?_;refine ai ⟨aY,trivial,?_⟩;rw[wS ak aO (v:=v) (by omega)]
   cbv
  ·refine dp ?_;refine au rfl ?_;refine gK ?_;refine aN ?_;rfl
theorem Bm {W MK rows sp:List (List PV)} {l:List eb} (hr:rows=l.map eb.enc) (hW:W=(l.map eb.gF).map eb.enc) (vx:MK=((List.range 12).map eb.mark).map eb.enc) (hl:l.length<2^32) (hp:∀x∈l,x.steps.length<2^32):pC mx 56 [.sl W MK,.sl rows sp] (.bool true):=by
 have hlen:rows.length=l.length:=by simp[hr]
 have eX:W.length=l.length:=by simp[hW]
 have lg:MK.length=12:=by simp[vx]
 have jI:aS 6 W:=by rw[hW];exact bj (enc:=eb.enc) (fun _=>rfl) _
 have lh:aS 6 MK:=by rw[vx];exact bj (enc:=eb.enc) (fun _=>rfl) _
 obtain⟨mk,iF⟩:∃mk,mk=ints marks:=⟨_,rfl⟩;obtain⟨all,kA⟩:∃all,all=W++MK:=⟨_,rfl⟩
 have xC:aS 6 all:=by rw[kA];simp[jI,lh]
 rcases MK with _|⟨e,MK⟩
 ·simp at lg
 refine pZ Vg ?_
 iterate 100 intro _
 intro mm _ _ _ _ _ _ _ fj _ _ _ _ _ eA cv _ bs bE b5 cQ bg aO aw ak aI aU aL aP aB aV aW bp bu ah aD;refine gK ?_;refine bl.af (fun hc=>?_) (fun hc=>?_)
 ·refine dp ?_;refine aN ?_;exfalso;subst_vars;simp at hc
  try omega
 ·refine dp ?_
  have hw:aw .i64 (bg (cv rows) 12)=Int.ofNat (l.length+12):=by
   rw[←ak,←aO,←ah];simp[hlen];rw[dh]<;>omega
  rw[hw];generalize hN:l.length+12=N;refine ae ?_ ?_
  ·rw[←mm];simp[eX,jI,←dI,lh]at lg ⊢;omega
  rw[show fj (bs W (e::MK)) 0 (Int.ofNat N)=all by rw[←eA,←bE,kA];simp only[k8,bK,Int.toNat_zero,List.drop_zero,Nat.sub_zero];exact List.take_of_length_le (by simp[eX]at lg ⊢;omega)];refine gK ?_;refine bG [0,1,5,6] [] (fun v s=>s.put (some 6) (.pv (.int .i64 (Int.ofNat v)))) (N) (fun k=>True) ?_;intro v hv hk;refine dC ?_;refine bl.af (fun hd=>?_) (fun hd=>?_)
  ·have aY:v<N:=by subst_vars;simp at hd;simp at lg;omega
   refine dp ?_;refine bl.af (fun hf=>?_) (fun hf=>?_)
   ·have bL:v<l.length:=by rw[←aD,←ah]at hf;simp at hf;omega
    obtain⟨x,hx⟩:∃x,l[v]=x:=⟨_,rfl⟩;have yN:x.steps.length<2^32:=hp x (by rw[←hx];exact List.getElem_mem bL);obtain⟨p,pA⟩:∃p,p=ints x.steps:=⟨_,rfl⟩
    have eQ:aL (Int.ofNat v) rows 6:=by rw[←aP,hr];exact aR bL rfl
    have bM:aI rows (Int.ofNat v)=[.int .i64 x.ca,.int .i64 x.x,.int .i64 x.y,.int .i64 x.z,.int .i64 x.iE,.sl p x.U4]:=by rw[←aU,hr,aQ bL,hx,pA];rfl
    have jX:aL (Int.ofNat v) all 6:=by rw[←aP,kA];exact k9 (by omega) (by rw[hW,List.map_map];exact aR (enc:=eb.enc∘eb.gF) bL rfl)
    have fF:aI all (Int.ofNat v)=[.int .i64 x.ca,.int .i64 x.x,.int .i64 x.y,.int .i64 x.z,.int .i64 x.iE,.sl p mk]:=by rw[←aU,kA,lb (by omega),hW,List.map_map,aQ (enc:=eb.enc∘eb.gF) bL,hx,pA,iF];rfl
    refine dp ?_;refine ae jX ?_;rw[fF];refine gK ?_;refine ae eQ ?_;rw[bM];refine gK ?_;refine ao (by cbv) (C4 pA iF yN) (fun _=>rfl) ?_;refine gK ?_;refine bl.af (fun hg=>?_) (fun hg=>?_)
    ·exfalso;subst_vars;simp at hg;omega
    ·refine dp ?_;refine ai ⟨aY,trivial,?_⟩;rw[wS ak aO (v:=v) (by omega)]
     cbv
   ·refine dp ?_
    have B7:l.length≤v:=by rw[←aD,←ah]at hf;simp at hf;omega
    refine bl.af (fun hg=>?_) (fun hg=>?_)
    ·obtain⟨w,xD⟩:∃w,w=v-l.length:=⟨_,rfl⟩
     have mn:w<12:=by omega
     obtain⟨m,hm⟩:∃m,m=1000003*(1+7)+Int.ofNat w:=⟨_,rfl⟩
     have dD:aw .i64 (b5 (Int.ofNat v) (cv rows))=Int.ofNat w:=by
      rw[←ak,←cQ,←ah];simp[hlen];rw[dh]<;>omega
     have sB:aG.wx (Int.ofNat w) (e::MK) 6:=by rw[vx];exact aR (by simpa using mn) rfl
     have mo:aG.rat (e::MK) (Int.ofNat w)=[.int .i64 m,.int .i64 0,.int .i64 0,.int .i64 0,.int .i64 0,.sl [] []]:=by
      rw[vx,aQ (by simpa using mn)];simp[eb.mark,eb.enc,ints,iQ,hm]
     have eQ:aL (Int.ofNat v) all 6:=by rw[←aP,kA];exact jG (by omega) (by rw[eX,←xD];exact sB)
     have bM:aI all (Int.ofNat v)=[.int .i64 m,.int .i64 0,.int .i64 0,.int .i64 0,.int .i64 0,.sl [] []]:=by rw[←aU,kA,jF (by omega),eX,←xD];exact mo
     refine dp ?_;refine ae eQ ?_;rw[bM];refine gK ?_;rw[dD];refine ao (by cbv) (tw hm (by omega) (by omega) (by simp) (by simp;omega)) (fun h=>by first|rfl|cases h) ?_;refine gK ?_;refine ao (by cbv) (qn (p:=[]) (x:={eb.mark w with ca:=m}) rfl (by simp[eb.mark])) (fun _=>rfl) ?_;refine gK ?_;refine ai ⟨aY,trivial,?_⟩;rw[wS ak aO (v:=v) (by omega)]
     cbv
    ·exfalso;subst_vars;simp at hg;omega
  ·refine dp ?_;refine au rfl ?_;refine gK ?_;refine aN ?_;rfl
end Go.bW
end
section
open Go Go.Am Go.Proofs
attribute [local irreducible] Am.bl.holds bA fw bC dv
namespace Go.bW
variable {mx:Int}
structure xK (c v r f t:List (List PV)) (cl:List aM) (vl:List bq) (rl fl:List Row) (tl:List eb):Prop where
 c:c=cl.map aM.enc
 v:v=vl.map bq.enc
 r:r=rl.map Row.enc
 f:f=fl.map Row.enc
 t:t=tl.map eb.enc
 cn:cl.length<2^32
 vn:vl.length<2^32
 rn:rl.length<2^32
 fn:fl.length<2^32
 tn:tl.length<2^32
 cp:∀x∈cl,x.b9.length<2^32
 vp:∀x∈vl,x.rows.length<2^32
 tp:∀x∈tl,x.steps.length<2^32
structure Bn (C CM V VM RM FM T TM:List (List PV)) (cl:List aM) (vl:List bq) (tl:List eb):Prop where
 c:C=(cl.map aM.gF).map aM.enc
 cm:CM=((List.range 12).map aM.mark).map aM.enc
 v:V=(vl.map bq.gF).map bq.enc
 vm:VM=((List.range 12).map bq.mark).map bq.enc
 rm:RM=((List.range 12).map Row.rJ).map Row.enc
 fm:FM=((List.range 12).map Row.rK).map Row.enc
 t:T=(tl.map eb.gF).map eb.enc
 tm:TM=((List.range 12).map eb.mark).map eb.enc
theorem C5 {c csp v vsp r rsp f fsp t tsp C CM V VM RM FM T TM:List (List PV)} {l1 l2 l3 l4 m1 m2 m3 m4:Int} {cl:List aM} {vl:List bq} {rl fl:List Row} {tl:List eb} (h:xK c v r f t cl vl rl fl tl) (hL:Bn C CM V VM RM FM T TM cl vl tl):
  pC mx 13 [.agg [.sl c csp,.sl v vsp,.int .i64 l1,.int .i64 l2,.int .i64 l3,.int .i64 l4,.sl r rsp,.sl f fsp,.sl t tsp,.int .i64 m1,.int .i64 m2,.int .i64 m3,.int .i64 m4]] (.agg [.sl C CM,.sl V VM,.int .i64 l1,.int .i64 l2,.int .i64 l3,.int .i64 l4,.sl r RM,.sl f FM,.sl T TM,.int .i64 m1,.int .i64 m2,.int .i64 m3,.int .i64 m4]):=by
 refine pZ Vk ?_
 iterate 129 intro _
 intro aB aV aW bp bu ah aD;refine gK ?_;refine an (by cbv) (xH h.c hL.c hL.cm h.cn h.cp) (fun h=>by first|rfl|cases h) ?_;refine gK ?_;refine an (by cbv) (yU h.v hL.v hL.vm h.vn h.vp) (fun h=>by first|rfl|cases h) ?_;refine gK ?_;refine an (by cbv) (show ar _ _ _ [.sl r rsp] (.sl r RM) by rw[hL.rm];exact C0 h.r h.rn) (fun h=>by first|rfl|cases h) ?_;refine gK ?_;refine an (by cbv) (show ar _ _ _ [.sl f fsp] (.sl f FM) by rw[hL.fm];exact yP h.f h.fn) (fun h=>by first|rfl|cases h) ?_
 refine gK ?_;refine an (by cbv) (Bk h.t hL.t hL.tm h.tn h.tp) (fun h=>by first|rfl|cases h) ?_;refine gK ?_;refine aN ?_;rfl
theorem C6 {c csp v vsp r rsp f fsp t tsp C CM V VM RM FM T TM:List (List PV)} {l1 l2 l3 l4 m1 m2 m3 m4:Int} {cl:List aM} {vl:List bq} {rl fl:List Row} {tl:List eb} (h:xK c v r f t cl vl rl fl tl) (hL:Bn C CM V VM RM FM T TM cl vl tl):
  pC mx 51 [.agg [.sl C CM,.sl V VM,.int .i64 l1,.int .i64 l2,.int .i64 l3,.int .i64 l4,.sl r RM,.sl f FM,.sl T TM,.int .i64 m1,.int .i64 m2,.int .i64 m3,.int .i64 m4],.agg [.sl c csp,.sl v vsp,.int .i64 l1,.int .i64 l2,.int .i64 l3,.int .i64 l4,.sl r rsp,.sl f fsp,.sl t tsp,.int .i64 m1,.int .i64 m2,.int .i64 m3,.int .i64 m4]] (.bool true):=by
 refine pZ Vl ?_
 iterate 129 intro _
 intro aB aV aW bp bu ah aD;refine gK ?_;refine an (by cbv) (xI (f:=fun _=>ints marks) h.c (by rw[hL.c,List.map_map];rfl) h.cn h.cp) (fun h=>by first|rfl|cases h) ?_;refine gK ?_;refine an (by cbv) (yV (f:=fun _=>ints marks) h.v (by rw[hL.v,List.map_map];rfl) h.vn h.vp) (fun h=>by first|rfl|cases h) ?_;refine gK ?_;refine bl.af (fun he=>?_) (fun he=>?_)
 ·refine ae (by subst_vars;simp[aX]) ?_;refine gK ?_;refine an (by cbv) (C1 h.r h.rn) (fun h=>by first|rfl|cases h) ?_;refine gK ?_;refine an (by cbv) (yQ h.f h.fn) (fun h=>by first|rfl|cases h) ?_;refine gK ?_;refine an (by cbv) (Bl (f:=fun _=>ints marks) h.t (by rw[hL.t,List.map_map];rfl) h.tn h.tp) (fun h=>by first|rfl|cases h) ?_;refine gK ?_;refine bl.af (fun hf=>?_) (fun hf=>?_)
  ·refine ae (by subst_vars;simp[aX]) ?_;refine gK ?_;refine aN ?_;rfl
  ·exfalso;subst_vars;simp[bw]at hf
 ·exfalso;subst_vars;simp[bw]at he
theorem C7 {c csp v vsp r rsp f fsp t tsp C CM V VM RM FM T TM:List (List PV)} {l1 l2 l3 l4 m1 m2 m3 m4:Int} {cl:List aM} {vl:List bq} {rl fl:List Row} {tl:List eb} (h:xK c v r f t cl vl rl fl tl) (hL:Bn C CM V VM RM FM T TM cl vl tl):
  pC mx 15 [.agg [.sl C CM,.sl V VM,.int .i64 l1,.int .i64 l2,.int .i64 l3,.int .i64 l4,.sl r RM,.sl f FM,.sl T TM,.int .i64 m1,.int .i64 m2,.int .i64 m3,.int .i64 m4],.agg [.sl c csp,.sl v vsp,.int .i64 l1,.int .i64 l2,.int .i64 l3,.int .i64 l4,.sl r rsp,.sl f fsp,.sl t tsp,.int .i64 m1,.int .i64 m2,.int .i64 m3,.int .i64 m4]] (.bool true):=by
 refine pZ Vm ?_
 iterate 129 intro _
 intro aB aV aW bp bu ah aD;refine gK ?_;refine an (by cbv) (C6 h hL) (fun h=>by first|rfl|cases h) ?_;refine gK ?_;refine an (by cbv) (xJ h.c hL.c hL.cm h.cn h.cp) (fun h=>by first|rfl|cases h) ?_;refine gK ?_;refine an (by cbv) (yW h.v hL.v hL.vm h.vn h.vp) (fun h=>by first|rfl|cases h) ?_;refine gK ?_;refine an (by cbv) (C2 h.r hL.rm h.rn) (fun h=>by first|rfl|cases h) ?_;refine gK ?_;refine an (by cbv) (yR h.f hL.fm h.fn) (fun h=>by first|rfl|cases h) ?_
 refine gK ?_;refine an (by cbv) (Bm h.t hL.t hL.tm h.tn h.tp) (fun h=>by first|rfl|cases h) ?_;refine gK ?_;refine aN ?_;rfl
end Go.bW
end
