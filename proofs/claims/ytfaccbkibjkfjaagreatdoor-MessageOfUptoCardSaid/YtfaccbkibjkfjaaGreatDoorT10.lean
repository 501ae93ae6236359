import Derived.Test.YtfaccbkibjkfjaaGreatDoorT09
import Derived.Test.YtfaccbkibjkfjaaGreatDoorT41
import Derived.Test.YtfaccbkibjkfjaaGreatDoorT07
import Derived.Test.YtfaccbkibjkfjaaGreatDoorT13
set_option linter.all false
set_option maxRecDepth 100000
set_option maxHeartbeats 1000000
section
open Go Go.Am Go.Proofs
attribute [local irreducible] Am.bp.holds bH fw bP ek
namespace Go.b8
variable {mx:Int}
theorem wh {rows sp W MK:List (List PV)} {l:List aL} (hr:rows=l.map aL.enc) (hW:W=(l.map aL.cV).map aL.enc) (ma:MK=((List.range 12).map aL.mark).map aL.enc) (hl:l.length<2^32) (hp:∀x∈l,x.cq.length<2^32):pC mx 42 [.sl rows sp] (.sl W MK):=by
 have hlen:rows.length=l.length:=by simp[hr]
 have cJ:W.length=l.length:=by simp[hW]
 have fH:MK.length=12:=by simp[ma]
 have eF:aK 12 W:=by rw[hW];exact bl (enc:=aL.enc) (fun _=>rfl) _
 have fI:aK 12 MK:=by rw[ma];exact bl (enc:=aL.enc) (fun _=>rfl) _
 have zL:∀v,aK 12 (W.take v):=fun v r hr=>eF r (List.mem_of_mem_take hr)
 have zM:∀v,aK 12 (MK.take v):=fun v r hr=>fI r (List.mem_of_mem_take hr)
 obtain⟨mk,fG⟩:∃mk,mk=ints marks:=⟨_,rfl⟩;refine pZ Ua ?_
 iterate 82 intro _
 intro eV
 iterate 11 intro _
 intro kK
 iterate 19 intro _
 intro dn b7 dF bJ bX _ _ _ aw _ ah aI aQ aJ aP aB aU aV bC bA ag aC;refine gK ?_;refine ae ?_ ?_
 ·subst_vars;simp;rw[dy]<;>omega
 rw[show eV 0 _=[] by subst_vars;rfl];refine gK ?_;refine bQ [0,3,4] (nn [10,10]) (fun v s=>s.put (some 4) (.pv (.int .i64 (Int.ofNat v)))|>.aq 10 (.rows 12 (W.take v) 0)) (l.length) (fun k=>True) ?_;intro v hv hk
 try dsimp only
 generalize dA:W.take v=cur;refine ej ?_;refine bp.af (fun hc=>?_) (fun hc=>?_)
 ·have aT:v<l.length:=by subst_vars;simp at hc;omega
  obtain⟨x,hx⟩:∃x,l[v]=x:=⟨_,rfl⟩;have oX:x.cq.length<2^32:=hp x (by rw[←hx];exact List.getElem_mem aT)
  have ec:aJ (Int.ofNat v) rows 12:=by rw[←aP,hr];exact aO aT rfl
  obtain⟨p,jo⟩:∃p,p=ints x.cq:=⟨_,rfl⟩
  have On:v<W.length:=by omega
  have bK:aI rows (Int.ofNat v)=[.int .i64 x.jj,.int .i64 x.row,.bool x.iZ,.int .i64 x.dv,.int .i64 x.dk,.int .i64 x.tT,.int .i64 x.tU,.int .i64 x.kj,.sl p x.CQ,.int .i64 x.x,.int .i64 x.y,.int .i64 x.z]:=by rw[←aQ,hr,aN aT,hx,jo];rfl
  refine aY ?_;refine ae ec ?_;rw[bK];refine gK ?_;refine ao (by cbv) (xu jo fG oX) (fun h=>by cases h) ?_;refine gK ?_;refine ae ?_ ?_
  ·rw[←dF,←dA];have:=zL v;simp[this,cJ];omega
  refine gK ?_;refine ak ⟨aT,trivial,?_⟩;rw[wS ah aw (v:=v) (by omega)]
  rw[show bJ cur [[.int .i64 x.jj,.int .i64 x.row,.bool x.iZ,.int .i64 x.dv,.int .i64 x.dk,.int .i64 x.tT,.int .i64 x.tU,.int .i64 x.kj,.sl p mk,.int .i64 x.x,.int .i64 x.y,.int .i64 x.z]]=W.take (v+1) by
   rw[←bX,←dA,List.take_succ_eq_append_getElem On,dj]
   congr 2
   subst hW;simp only[List.getElem_map];rw[hx,jo,fG]
   rfl]
  cbv
 ·have aT:v=l.length:=by subst_vars;simp at hc;omega
  refine aY ?_;refine ar rfl ?_;refine gK ?_;rw[show cur=W by rw[←dA];exact List.take_of_length_le (by omega)];refine bQ [0,3,6] (nn [10,10]) (fun v s=>s.put (some 6) (.pv (.int .i64 (Int.ofNat v)))|>.aq 10 (.rows 12 (W++MK.take v) 0)) (12) (fun k=>True) ?_;intro v hv hk
  try dsimp only
  generalize dA:W++MK.take v=cur;refine ej ?_;refine bp.af (fun pH=>?_) (fun pH=>?_)
  ·refine aY ?_
   have aT:v<12:=by subst_vars;simp at pH;omega
   have Oo:v<MK.length:=by omega
   obtain⟨m,hm⟩:∃m,m=1000003*(1+7)+Int.ofNat v:=⟨_,rfl⟩;refine ao (by cbv) (pg hm (by omega) (by omega) (by simp) (by simp;omega)) (fun h=>by first|rfl|cases h) ?_;refine gK ?_;refine ae ?_ ?_
   ·rw[←dF,←dA];have:=zM v;simp[this,eF,cJ];omega
   refine gK ?_;refine ak ⟨aT,trivial,?_⟩;rw[wS ah aw (v:=v) (by omega)]
   rw[show bJ cur [[.int .i64 m,.int .i64 0,.bool false,.int .i64 0,.int .i64 0,.int .i64 0,.int .i64 0,.int .i64 0,.sl [] [],.int .i64 0,.int .i64 0,.int .i64 0]]=W++MK.take (v+1) by
    rw[←bX,←dA,List.take_succ_eq_append_getElem Oo,dj,List.append_assoc]
    congr 3
    subst ma;simp only[List.getElem_map,List.getElem_range];rw[hm,←eY]
    rfl]
   cbv
  ·refine aY ?_;refine ar rfl ?_;refine gK ?_
   have gh:v=12:=by subst_vars;simp at pH;omega
   rw[show cur=W++MK by rw[←dA,List.take_of_length_le (l:=MK) (by omega)]]
   have mn:b7 rows=Int.ofNat W.length:=by rw[←ag];simp[hlen,cJ]
   rw[mn];refine ae ?_ ?_
   ·rw[←kK];simp[eF,fI,cJ]
    try omega
   ·refine gK ?_;refine aX ?_;rw[←dn]
    congr 2
    ·simp
    ·rw[←ag];simp;rw[List.take_of_length_le (by omega)]
theorem wi {W rows sp ta:List (List PV)} {l:List aL} {f:aL→List (List PV)} (hr:rows=l.map aL.enc) (hW:W=l.map fun x=>({x with CQ:=f x}:aL).enc) (hl:l.length<2^32) (hp:∀x∈l,x.cq.length<2^32):pC mx 118 [.sl W sp,.sl rows ta] (.bool true):=by
 have hlen:rows.length=l.length:=by simp[hr]
 have cJ:W.length=l.length:=by simp[hW]
 refine pZ Ml ?_
 iterate 122 intro _
 intro aw _ ah aI aQ aJ aP aB aU aV bC bA ag aC;refine gK ?_;refine bp.af (fun hc=>?_) (fun hc=>?_)
 ·refine aY ?_;refine aX ?_;exfalso;subst_vars;simp at hc
 ·refine aY ?_;refine bQ [0,1,5] [] (fun v s=>s.put (some 5) (.pv (.int .i64 (Int.ofNat v)))) (l.length) (fun k=>True) ?_;intro v hv hk;refine ej ?_;refine bp.af (fun hd=>?_) (fun hd=>?_)
  ·have aT:v<l.length:=by subst_vars;simp at hd;omega
   obtain⟨x,hx⟩:∃x,l[v]=x:=⟨_,rfl⟩;have oX:x.cq.length<2^32:=hp x (by rw[←hx];exact List.getElem_mem aT);obtain⟨p,jo⟩:∃p,p=ints x.cq:=⟨_,rfl⟩;obtain⟨q,hq⟩:∃q,q=f x:=⟨_,rfl⟩
   have ec:aJ (Int.ofNat v) rows 12:=by rw[←aP,hr];exact aO aT rfl
   have bK:aI rows (Int.ofNat v)=[.int .i64 x.jj,.int .i64 x.row,.bool x.iZ,.int .i64 x.dv,.int .i64 x.dk,.int .i64 x.tT,.int .i64 x.tU,.int .i64 x.kj,.sl p x.CQ,.int .i64 x.x,.int .i64 x.y,.int .i64 x.z]:=by rw[←aQ,hr,aN aT,hx,jo];rfl
   have gq:aJ (Int.ofNat v) W 12:=by rw[←aP,hW];exact aO aT rfl
   have dT:aI W (Int.ofNat v)=[.int .i64 x.jj,.int .i64 x.row,.bool x.iZ,.int .i64 x.dv,.int .i64 x.dk,.int .i64 x.tT,.int .i64 x.tU,.int .i64 x.kj,.sl p q,.int .i64 x.x,.int .i64 x.y,.int .i64 x.z]:=by rw[←aQ,hW,aN (enc:=fun x=>({x with CQ:=f x}:aL).enc) aT,hx,jo,hq];rfl
   refine aY ?_;refine ae gq ?_;rw[dT];refine gK ?_;refine ae ec ?_;rw[bK];refine gK ?_;refine bF (by cbv) (mA jo oX) (fun _=>rfl) ?_;refine gK ?_;refine ak ⟨aT,trivial,?_⟩;rw[wS ah aw (v:=v) (by omega)]
   cbv
  ·refine aY ?_;refine ar rfl ?_;refine gK ?_;refine aX ?_;rfl
theorem wj {W MK rows sp:List (List PV)} {l:List aL} (hr:rows=l.map aL.enc) (hW:W=(l.map aL.cV).map aL.enc) (ma:MK=((List.range 12).map aL.mark).map aL.enc) (hl:l.length<2^32) (hp:∀x∈l,x.cq.length<2^32):pC mx 52 [.sl W MK,.sl rows sp] (.bool true):=by
 have hlen:rows.length=l.length:=by simp[hr]
 have cJ:W.length=l.length:=by simp[hW]
 have fH:MK.length=12:=by simp[ma]
 have eF:aK 12 W:=by rw[hW];exact bl (enc:=aL.enc) (fun _=>rfl) _
 have fI:aK 12 MK:=by rw[ma];exact bl (enc:=aL.enc) (fun _=>rfl) _
 obtain⟨mk,fG⟩:∃mk,mk=ints marks:=⟨_,rfl⟩;obtain⟨all,gB⟩:∃all,all=W++MK:=⟨_,rfl⟩
 have qt:aK 12 all:=by rw[gB];simp[eF,fI]
 rcases MK with _|⟨e,MK⟩
 ·simp at fH
 refine pZ Ub ?_
 iterate 100 intro _
 intro iI _ _ _ _ _ _ _ eo _ _ _ _ _ dn b7 _ bJ bX cP cY df aw bu ah aI aQ aJ aP aB aU aV bC bA ag aC;refine gK ?_;refine bp.af (fun hc=>?_) (fun hc=>?_)
 ·refine aY ?_;refine aX ?_;exfalso;subst_vars;simp at hc
  try omega
 ·refine aY ?_
  have hw:bu .i64 (df (b7 rows) 12)=Int.ofNat (l.length+12):=by
   rw[←ah,←aw,←ag];simp[hlen];rw[dy]<;>omega
  rw[hw];generalize hN:l.length+12=N;refine ae ?_ ?_
  ·rw[←iI];simp[cJ,eF,←cN,fI]at fH ⊢;omega
  rw[show eo (bJ W (e::MK)) 0 (Int.ofNat N)=all by rw[←dn,←bX,gB];simp only[gX,dj,Int.toNat_zero,List.drop_zero,Nat.sub_zero];exact List.take_of_length_le (by simp[cJ]at fH ⊢;omega)];refine gK ?_;refine bQ [0,1,5,6] [] (fun v s=>s.put (some 6) (.pv (.int .i64 (Int.ofNat v)))) (N) (fun k=>True) ?_;intro v hv hk;refine ej ?_;refine bp.af (fun hd=>?_) (fun hd=>?_)
  ·have aT:v<N:=by subst_vars;simp at hd;simp at fH;omega
   refine aY ?_;refine bp.af (fun hf=>?_) (fun hf=>?_)
   ·have bO:v<l.length:=by rw[←aC,←ag]at hf;simp at hf;omega
    obtain⟨x,hx⟩:∃x,l[v]=x:=⟨_,rfl⟩;have oX:x.cq.length<2^32:=hp x (by rw[←hx];exact List.getElem_mem bO);obtain⟨p,jo⟩:∃p,p=ints x.cq:=⟨_,rfl⟩
    have ec:aJ (Int.ofNat v) rows 12:=by rw[←aP,hr];exact aO bO rfl
    have bK:aI rows (Int.ofNat v)=[.int .i64 x.jj,.int .i64 x.row,.bool x.iZ,.int .i64 x.dv,.int .i64 x.dk,.int .i64 x.tT,.int .i64 x.tU,.int .i64 x.kj,.sl p x.CQ,.int .i64 x.x,.int .i64 x.y,.int .i64 x.z]:=by rw[←aQ,hr,aN bO,hx,jo];rfl
    have gq:aJ (Int.ofNat v) all 12:=by rw[←aP,gB];exact gY (by omega) (by rw[hW,List.map_map];exact aO (enc:=aL.enc∘aL.cV) bO rfl)
    have dT:aI all (Int.ofNat v)=[.int .i64 x.jj,.int .i64 x.row,.bool x.iZ,.int .i64 x.dv,.int .i64 x.dk,.int .i64 x.tT,.int .i64 x.tU,.int .i64 x.kj,.sl p mk,.int .i64 x.x,.int .i64 x.y,.int .i64 x.z]:=by rw[←aQ,gB,gZ (by omega),hW,List.map_map,aN (enc:=aL.enc∘aL.cV) bO,hx,jo,fG];rfl
    refine aY ?_;refine ae gq ?_;rw[dT];refine gK ?_;refine ae ec ?_;rw[bK];refine gK ?_;refine bF (by cbv) (xv jo fG oX) (fun _=>rfl) ?_;refine gK ?_;refine bp.af (fun hg=>?_) (fun hg=>?_)
    ·exfalso;subst_vars;simp at hg;omega
    ·refine aY ?_;refine ak ⟨aT,trivial,?_⟩;rw[wS ah aw (v:=v) (by omega)]
     cbv
   ·refine aY ?_
    have x7:l.length≤v:=by rw[←aC,←ag]at hf;simp at hf;omega
    refine bp.af (fun hg=>?_) (fun hg=>?_)
    ·obtain⟨w,qu⟩:∃w,w=v-l.length:=⟨_,rfl⟩
     have iJ:w<12:=by omega
     obtain⟨m,hm⟩:∃m,m=1000003*(1+7)+Int.ofNat w:=⟨_,rfl⟩
     have fu:bu .i64 (cP (Int.ofNat v) (b7 rows))=Int.ofNat w:=by
      rw[←ah,←cY,←ag];simp[hlen];rw[dy]<;>omega
     have mz:aF.tu (Int.ofNat w) (e::MK) 12:=by rw[ma];exact aO (by simpa using iJ) rfl
     have iK:aF.rat (e::MK) (Int.ofNat w)=[.int .i64 m,.int .i64 0,.bool false,.int .i64 0,.int .i64 0,.int .i64 0,.int .i64 0,.int .i64 0,.sl [] [],.int .i64 0,.int .i64 0,.int .i64 0]:=by
      rw[ma,aN (by simpa using iJ)];simp[aL.mark,aL.enc,ints,eY,hm]
     have ec:aJ (Int.ofNat v) all 12:=by rw[←aP,gB];exact fU (by omega) (by rw[cJ,←qu];exact mz)
     have bK:aI all (Int.ofNat v)=[.int .i64 m,.int .i64 0,.bool false,.int .i64 0,.int .i64 0,.int .i64 0,.int .i64 0,.int .i64 0,.sl [] [],.int .i64 0,.int .i64 0,.int .i64 0]:=by rw[←aQ,gB,fT (by omega),cJ,←qu];exact iK
     refine aY ?_;refine ae ec ?_;rw[bK];refine gK ?_;rw[fu];refine bF (by cbv) (pg hm (by omega) (by omega) (by simp) (by simp;omega)) (fun h=>by first|rfl|cases h) ?_;refine gK ?_;refine bF (by cbv) (mA (p:=[]) (x:={aL.mark w with jj:=m}) rfl (by simp[aL.mark])) (fun _=>rfl) ?_;refine gK ?_;refine ak ⟨aT,trivial,?_⟩;rw[wS ah aw (v:=v) (by omega)]
     cbv
    ·exfalso;subst_vars;simp at hg;omega
  ·refine aY ?_;refine ar rfl ?_;refine gK ?_;refine aX ?_;rfl
theorem xw {rows sp W MK:List (List PV)} {l:List bz} (hr:rows=l.map bz.enc) (hW:W=(l.map bz.cV).map bz.enc) (ma:MK=((List.range 12).map bz.mark).map bz.enc) (hl:l.length<2^32) (hp:∀x∈l,x.rows.length<2^32):pC mx 43 [.sl rows sp] (.sl W MK):=by
 have hlen:rows.length=l.length:=by simp[hr]
 have cJ:W.length=l.length:=by simp[hW]
 have fH:MK.length=12:=by simp[ma]
 have eF:aK 2 W:=by rw[hW];exact bl (enc:=bz.enc) (fun _=>rfl) _
 have fI:aK 2 MK:=by rw[ma];exact bl (enc:=bz.enc) (fun _=>rfl) _
 have zL:∀v,aK 2 (W.take v):=fun v r hr=>eF r (List.mem_of_mem_take hr)
 have zM:∀v,aK 2 (MK.take v):=fun v r hr=>fI r (List.mem_of_mem_take hr)
 obtain⟨mk,fG⟩:∃mk,mk=ints marks:=⟨_,rfl⟩;refine pZ Uc ?_
 iterate 82 intro _
 intro eV
 iterate 11 intro _
 intro kK
 iterate 19 intro _
 intro dn b7 dF bJ bX _ _ _ aw _ ah aI aQ aJ aP aB aU aV bC bA ag aC;refine gK ?_;refine ae ?_ ?_
 ·subst_vars;simp;rw[dy]<;>omega
 rw[show eV 0 _=[] by subst_vars;rfl];refine gK ?_;refine bQ [0,3,4] (nn [10,10]) (fun v s=>s.put (some 4) (.pv (.int .i64 (Int.ofNat v)))|>.aq 10 (.rows 2 (W.take v) 0)) (l.length) (fun k=>True) ?_;intro v hv hk
 try dsimp only
 generalize dA:W.take v=cur;refine ej ?_;refine bp.af (fun hc=>?_) (fun hc=>?_)
 ·have aT:v<l.length:=by subst_vars;simp at hc;omega
  obtain⟨x,hx⟩:∃x,l[v]=x:=⟨_,rfl⟩;have oX:x.rows.length<2^32:=hp x (by rw[←hx];exact List.getElem_mem aT)
  have ec:aJ (Int.ofNat v) rows 2:=by rw[←aP,hr];exact aO aT rfl
  obtain⟨p,jo⟩:∃p,p=ints x.rows:=⟨_,rfl⟩
  have On:v<W.length:=by omega
  have bK:aI rows (Int.ofNat v)=[.int .i64 x.jj,.sl p x.rsp]:=by rw[←aQ,hr,aN aT,hx,jo];rfl
  refine aY ?_;refine ae ec ?_;rw[bK];refine gK ?_;refine ao (by cbv) (zJ jo fG oX) (fun h=>by cases h) ?_;refine gK ?_;refine ae ?_ ?_
  ·rw[←dF,←dA];have:=zL v;simp[this,cJ];omega
  refine gK ?_;refine ak ⟨aT,trivial,?_⟩;rw[wS ah aw (v:=v) (by omega)]
  rw[show bJ cur [[.int .i64 x.jj,.sl p mk]]=W.take (v+1) by
   rw[←bX,←dA,List.take_succ_eq_append_getElem On,dj]
   congr 2
   subst hW;simp only[List.getElem_map];rw[hx,jo,fG]
   rfl]
  cbv
 ·have aT:v=l.length:=by subst_vars;simp at hc;omega
  refine aY ?_;refine ar rfl ?_;refine gK ?_;rw[show cur=W by rw[←dA];exact List.take_of_length_le (by omega)];refine bQ [0,3,6] (nn [10,10]) (fun v s=>s.put (some 6) (.pv (.int .i64 (Int.ofNat v)))|>.aq 10 (.rows 2 (W++MK.take v) 0)) (12) (fun k=>True) ?_;intro v hv hk
  try dsimp only
  generalize dA:W++MK.take v=cur;refine ej ?_;refine bp.af (fun pH=>?_) (fun pH=>?_)
  ·refine aY ?_
   have aT:v<12:=by subst_vars;simp at pH;omega
   have Oo:v<MK.length:=by omega
   obtain⟨m,hm⟩:∃m,m=1000003*(1+7)+Int.ofNat v:=⟨_,rfl⟩;refine ao (by cbv) (qw hm (by omega) (by omega) (by simp) (by simp;omega)) (fun h=>by first|rfl|cases h) ?_;refine gK ?_;refine ae ?_ ?_
   ·rw[←dF,←dA];have:=zM v;simp[this,eF,cJ];omega
   refine gK ?_;refine ak ⟨aT,trivial,?_⟩;rw[wS ah aw (v:=v) (by omega)]
   rw[show bJ cur [[.int .i64 m,.sl [] []]]=W++MK.take (v+1) by
    rw[←bX,←dA,List.take_succ_eq_append_getElem Oo,dj,List.append_assoc]
    congr 3
    subst ma;simp only[List.getElem_map,List.getElem_range];rw[hm,←eY]
    rfl]
   cbv
  ·refine aY ?_;refine ar rfl ?_;refine gK ?_
   have gh:v=12:=by subst_vars;simp at pH;omega
   rw[show cur=W++MK by rw[←dA,List.take_of_length_le (l:=MK) (by omega)]]
   have mn:b7 rows=Int.ofNat W.length:=by rw[←ag];simp[hlen,cJ]
   rw[mn];refine ae ?_ ?_
   ·rw[←kK];simp[eF,fI,cJ]
    try omega
   ·refine gK ?_;refine aX ?_;rw[←dn]
    congr 2
    ·simp
    ·rw[←ag];simp;rw[List.take_of_length_le (by omega)]
theorem xx {W rows sp ta:List (List PV)} {l:List bz} {f:bz→List (List PV)} (hr:rows=l.map bz.enc) (hW:W=l.map fun x=>({x with rsp:=f x}:bz).enc) (hl:l.length<2^32) (hp:∀x∈l,x.rows.length<2^32):pC mx 119 [.sl W sp,.sl rows ta] (.bool true):=by
 have hlen:rows.length=l.length:=by simp[hr]
 have cJ:W.length=l.length:=by simp[hW]
 refine pZ Mq ?_
 iterate 122 intro _
 intro aw _ ah aI aQ aJ aP aB aU aV bC bA ag aC;refine gK ?_;refine bp.af (fun hc=>?_) (fun hc=>?_)
 ·refine aY ?_;refine aX ?_;exfalso;subst_vars;simp at hc
 ·refine aY ?_;refine bQ [0,1,5] [] (fun v s=>s.put (some 5) (.pv (.int .i64 (Int.ofNat v)))) (l.length) (fun k=>True) ?_;intro v hv hk;refine ej ?_;refine bp.af (fun hd=>?_) (fun hd=>?_)
  ·have aT:v<l.length:=by subst_vars;simp at hd;omega
   obtain⟨x,hx⟩:∃x,l[v]=x:=⟨_,rfl⟩;have oX:x.rows.length<2^32:=hp x (by rw[←hx];exact List.getElem_mem aT);obtain⟨p,jo⟩:∃p,p=ints x.rows:=⟨_,rfl⟩;obtain⟨q,hq⟩:∃q,q=f x:=⟨_,rfl⟩
   have ec:aJ (Int.ofNat v) rows 2:=by rw[←aP,hr];exact aO aT rfl
   have bK:aI rows (Int.ofNat v)=[.int .i64 x.jj,.sl p x.rsp]:=by rw[←aQ,hr,aN aT,hx,jo];rfl
   have gq:aJ (Int.ofNat v) W 2:=by rw[←aP,hW];exact aO aT rfl
   have dT:aI W (Int.ofNat v)=[.int .i64 x.jj,.sl p q]:=by rw[←aQ,hW,aN (enc:=fun x=>({x with rsp:=f x}:bz).enc) aT,hx,jo,hq];rfl
   refine aY ?_;refine ae gq ?_;rw[dT];refine gK ?_;refine ae ec ?_;rw[bK];refine gK ?_;refine bF (by cbv) (nP jo oX) (fun _=>rfl) ?_;refine gK ?_;refine ak ⟨aT,trivial,?_⟩;rw[wS ah aw (v:=v) (by omega)]
   cbv
  ·refine aY ?_;refine ar rfl ?_;refine gK ?_;refine aX ?_;rfl
theorem xy {W MK rows sp:List (List PV)} {l:List bz} (hr:rows=l.map bz.enc) (hW:W=(l.map bz.cV).map bz.enc) (ma:MK=((List.range 12).map bz.mark).map bz.enc) (hl:l.length<2^32) (hp:∀x∈l,x.rows.length<2^32):pC mx 53 [.sl W MK,.sl rows sp] (.bool true):=by
 have hlen:rows.length=l.length:=by simp[hr]
 have cJ:W.length=l.length:=by simp[hW]
 have fH:MK.length=12:=by simp[ma]
 have eF:aK 2 W:=by rw[hW];exact bl (enc:=bz.enc) (fun _=>rfl) _
 have fI:aK 2 MK:=by rw[ma];exact bl (enc:=bz.enc) (fun _=>rfl) _
 obtain⟨mk,fG⟩:∃mk,mk=ints marks:=⟨_,rfl⟩;obtain⟨all,gB⟩:∃all,all=W++MK:=⟨_,rfl⟩
 have qt:aK 2 all:=by rw[gB];simp[eF,fI]
 rcases MK with _|⟨e,MK⟩
 ·simp at fH
 refine pZ Ud ?_
 iterate 100 intro _
 intro iI _ _ _ _ _ _ _ eo _ _ _ _ _ dn b7 _ bJ bX cP cY df aw bu ah aI aQ aJ aP aB aU aV bC bA ag aC;refine gK ?_;refine bp.af (fun hc=>?_) (fun hc=>?_)
 ·refine aY ?_;refine aX ?_;exfalso;subst_vars;simp at hc
  try omega
 ·refine aY ?_
  have hw:bu .i64 (df (b7 rows) 12)=Int.ofNat (l.length+12):=by
   rw[←ah,←aw,←ag];simp[hlen];rw[dy]<;>omega
  rw[hw];generalize hN:l.length+12=N;refine ae ?_ ?_
  ·rw[←iI];simp[cJ,eF,←cN,fI]at fH ⊢;omega
  rw[show eo (bJ W (e::MK)) 0 (Int.ofNat N)=all by rw[←dn,←bX,gB];simp only[gX,dj,Int.toNat_zero,List.drop_zero,Nat.sub_zero];exact List.take_of_length_le (by simp[cJ]at fH ⊢;omega)];refine gK ?_;refine bQ [0,1,5,6] [] (fun v s=>s.put (some 6) (.pv (.int .i64 (Int.ofNat v)))) (N) (fun k=>True) ?_;intro v hv hk;refine ej ?_;refine bp.af (fun hd=>?_) (fun hd=>?_)
  ·have aT:v<N:=by subst_vars;simp at hd;simp at fH;omega
   refine aY ?_;refine bp.af (fun hf=>?_) (fun hf=>?_)
   ·have bO:v<l.length:=by rw[←aC,←ag]at hf;simp at hf;omega
    obtain⟨x,hx⟩:∃x,l[v]=x:=⟨_,rfl⟩;have oX:x.rows.length<2^32:=hp x (by rw[←hx];exact List.getElem_mem bO);obtain⟨p,jo⟩:∃p,p=ints x.rows:=⟨_,rfl⟩
    have ec:aJ (Int.ofNat v) rows 2:=by rw[←aP,hr];exact aO bO rfl
    have bK:aI rows (Int.ofNat v)=[.int .i64 x.jj,.sl p x.rsp]:=by rw[←aQ,hr,aN bO,hx,jo];rfl
    have gq:aJ (Int.ofNat v) all 2:=by rw[←aP,gB];exact gY (by omega) (by rw[hW,List.map_map];exact aO (enc:=bz.enc∘bz.cV) bO rfl)
    have dT:aI all (Int.ofNat v)=[.int .i64 x.jj,.sl p mk]:=by rw[←aQ,gB,gZ (by omega),hW,List.map_map,aN (enc:=bz.enc∘bz.cV) bO,hx,jo,fG];rfl
    refine aY ?_;refine ae gq ?_;rw[dT];refine gK ?_;refine ae ec ?_;rw[bK];refine gK ?_;refine bF (by cbv) (zK jo fG oX) (fun _=>rfl) ?_;refine gK ?_;refine bp.af (fun hg=>?_) (fun hg=>?_)
    ·exfalso;subst_vars;simp at hg;omega
    ·refine aY ?_;refine ak ⟨aT,trivial,?_⟩;rw[wS ah aw (v:=v) (by omega)]
     cbv
   ·refine aY ?_
    have x7:l.length≤v:=by rw[←aC,←ag]at hf;simp at hf;omega
    refine bp.af (fun hg=>?_) (fun hg=>?_)
    ·obtain⟨w,qu⟩:∃w,w=v-l.length:=⟨_,rfl⟩
     have iJ:w<12:=by omega
     obtain⟨m,hm⟩:∃m,m=1000003*(1+7)+Int.ofNat w:=⟨_,rfl⟩
     have fu:bu .i64 (cP (Int.ofNat v) (b7 rows))=Int.ofNat w:=by
      rw[←ah,←cY,←ag];simp[hlen];rw[dy]<;>omega
     have mz:aF.tu (Int.ofNat w) (e::MK) 2:=by rw[ma];exact aO (by simpa using iJ) rfl
     have iK:aF.rat (e::MK) (Int.ofNat w)=[.int .i64 m,.sl [] []]:=by
      rw[ma,aN (by simpa using iJ)];simp[bz.mark,bz.enc,ints,eY,hm]
     have ec:aJ (Int.ofNat v) all 2:=by rw[←aP,gB];exact fU (by omega) (by rw[cJ,←qu];exact mz)
     have bK:aI all (Int.ofNat v)=[.int .i64 m,.sl [] []]:=by rw[←aQ,gB,fT (by omega),cJ,←qu];exact iK
     refine aY ?_;refine ae ec ?_;rw[bK];refine gK ?_;rw[fu];refine bF (by cbv) (qw hm (by omega) (by omega) (by simp) (by simp;omega)) (fun h=>by first|rfl|cases h) ?_;refine gK ?_;refine bF (by cbv) (nP (p:=[]) (x:={bz.mark w with jj:=m}) rfl (by simp[bz.mark])) (fun _=>rfl) ?_;refine gK ?_;refine ak ⟨aT,trivial,?_⟩;rw[wS ah aw (v:=v) (by omega)]
     cbv
    ·exfalso;subst_vars;simp at hg;omega
  ·refine aY ?_;refine ar rfl ?_;refine gK ?_;refine aX ?_;rfl
theorem zN {rows sp W MK:List (List PV)} {l:List eg} (hr:rows=l.map eg.enc) (hW:W=(l.map eg.cV).map eg.enc) (ma:MK=((List.range 12).map eg.mark).map eg.enc) (hl:l.length<2^32) (hp:∀x∈l,x.steps.length<2^32):pC mx 46 [.sl rows sp] (.sl W MK):=by
 have hlen:rows.length=l.length:=by simp[hr]
 have cJ:W.length=l.length:=by simp[hW]
 have fH:MK.length=12:=by simp[ma]
 have eF:aK 6 W:=by rw[hW];exact bl (enc:=eg.enc) (fun _=>rfl) _
 have fI:aK 6 MK:=by rw[ma];exact bl (enc:=eg.enc) (fun _=>rfl) _
 have zL:∀v,aK 6 (W.take v):=fun v r hr=>eF r (List.mem_of_mem_take hr)
 have zM:∀v,aK 6 (MK.take v):=fun v r hr=>fI r (List.mem_of_mem_take hr)
 obtain⟨mk,fG⟩:∃mk,mk=ints marks:=⟨_,rfl⟩;refine pZ Ui ?_
 iterate 82 intro _
 intro eV
 iterate 11 intro _
 intro kK
 iterate 19 intro _
 intro dn b7 dF bJ bX _ _ _ aw _ ah aI aQ aJ aP aB aU aV bC bA ag aC;refine gK ?_;refine ae ?_ ?_
 ·subst_vars;simp;rw[dy]<;>omega
 rw[show eV 0 _=[] by subst_vars;rfl];refine gK ?_;refine bQ [0,3,4] (nn [10,10]) (fun v s=>s.put (some 4) (.pv (.int .i64 (Int.ofNat v)))|>.aq 10 (.rows 6 (W.take v) 0)) (l.length) (fun k=>True) ?_;intro v hv hk
 try dsimp only
 generalize dA:W.take v=cur;refine ej ?_;refine bp.af (fun hc=>?_) (fun hc=>?_)
 ·have aT:v<l.length:=by subst_vars;simp at hc;omega
  obtain⟨x,hx⟩:∃x,l[v]=x:=⟨_,rfl⟩;have oX:x.steps.length<2^32:=hp x (by rw[←hx];exact List.getElem_mem aT)
  have ec:aJ (Int.ofNat v) rows 6:=by rw[←aP,hr];exact aO aT rfl
  obtain⟨p,jo⟩:∃p,p=ints x.steps:=⟨_,rfl⟩
  have On:v<W.length:=by omega
  have bK:aI rows (Int.ofNat v)=[.int .i64 x.cD,.int .i64 x.x,.int .i64 x.y,.int .i64 x.z,.int .i64 x.ir,.sl p x.ssp]:=by rw[←aQ,hr,aN aT,hx,jo];rfl
  refine aY ?_;refine ae ec ?_;rw[bK];refine gK ?_;refine ao (by cbv) (B1 jo fG oX) (fun h=>by cases h) ?_;refine gK ?_;refine ae ?_ ?_
  ·rw[←dF,←dA];have:=zL v;simp[this,cJ];omega
  refine gK ?_;refine ak ⟨aT,trivial,?_⟩;rw[wS ah aw (v:=v) (by omega)]
  rw[show bJ cur [[.int .i64 x.cD,.int .i64 x.x,.int .i64 x.y,.int .i64 x.z,.int .i64 x.ir,.sl p mk]]=W.take (v+1) by
   rw[←bX,←dA,List.take_succ_eq_append_getElem On,dj]
   congr 2
   subst hW;simp only[List.getElem_map];rw[hx,jo,fG]
   rfl]
  cbv
 ·have aT:v=l.length:=by subst_vars;simp at hc;omega
  refine aY ?_;refine ar rfl ?_;refine gK ?_;rw[show cur=W by rw[←dA];exact List.take_of_length_le (by omega)];refine bQ [0,3,6] (nn [10,10]) (fun v s=>s.put (some 6) (.pv (.int .i64 (Int.ofNat v)))|>.aq 10 (.rows 6 (W++MK.take v) 0)) (12) (fun k=>True) ?_;intro v hv hk
  try dsimp only
  generalize dA:W++MK.take v=cur;refine ej ?_;refine bp.af (fun pH=>?_) (fun pH=>?_)
  ·refine aY ?_
   have aT:v<12:=by subst_vars;simp at pH;omega
   have Oo:v<MK.length:=by omega
   obtain⟨m,hm⟩:∃m,m=1000003*(1+7)+Int.ofNat v:=⟨_,rfl⟩;refine ao (by cbv) (se hm (by omega) (by omega) (by simp) (by simp;omega)) (fun h=>by first|rfl|cases h) ?_;refine gK ?_;refine ae ?_ ?_
   ·rw[←dF,←dA];have:=zM v;simp[this,eF,cJ];omega
   refine gK ?_;refine ak ⟨aT,trivial,?_⟩;rw[wS ah aw (v:=v) (by omega)]
   rw[show bJ cur [[.int .i64 m,.int .i64 0,.int .i64 0,.int .i64 0,.int .i64 0,.sl [] []]]=W++MK.take (v+1) by
    rw[←bX,←dA,List.take_succ_eq_append_getElem Oo,dj,List.append_assoc]
    congr 3
    subst ma;simp only[List.getElem_map,List.getElem_range];rw[hm,←eY]
    rfl]
   cbv
  ·refine aY ?_;refine ar rfl ?_;refine gK ?_
   have gh:v=12:=by subst_vars;simp at pH;omega
   rw[show cur=W++MK by rw[←dA,List.take_of_length_le (l:=MK) (by omega)]]
   have mn:b7 rows=Int.ofNat W.length:=by rw[←ag];simp[hlen,cJ]
   rw[mn];refine ae ?_ ?_
   ·rw[←kK];simp[eF,fI,cJ]
    try omega
   ·refine gK ?_;refine aX ?_;rw[←dn]
    congr 2
    ·simp
    ·rw[←ag];simp;rw[List.take_of_length_le (by omega)]
theorem zO {W rows sp ta:List (List PV)} {l:List eg} {f:eg→List (List PV)} (hr:rows=l.map eg.enc) (hW:W=l.map fun x=>({x with ssp:=f x}:eg).enc) (hl:l.length<2^32) (hp:∀x∈l,x.steps.length<2^32):pC mx 122 [.sl W sp,.sl rows ta] (.bool true):=by
 have hlen:rows.length=l.length:=by simp[hr]
 have cJ:W.length=l.length:=by simp[hW]
 refine pZ Mz ?_
 iterate 122 intro _
 intro aw _ ah aI aQ aJ aP aB aU aV bC bA ag aC;refine gK ?_;refine bp.af (fun hc=>?_) (fun hc=>?_)
 ·refine aY ?_;refine aX ?_;exfalso;subst_vars;simp at hc
 ·refine aY ?_;refine bQ [0,1,5] [] (fun v s=>s.put (some 5) (.pv (.int .i64 (Int.ofNat v)))) (l.length) (fun k=>True) ?_;intro v hv hk;refine ej ?_;refine bp.af (fun hd=>?_) (fun hd=>?_)
  ·have aT:v<l.length:=by subst_vars;simp at hd;omega
   obtain⟨x,hx⟩:∃x,l[v]=x:=⟨_,rfl⟩;have oX:x.steps.length<2^32:=hp x (by rw[←hx];exact List.getElem_mem aT);obtain⟨p,jo⟩:∃p,p=ints x.steps:=⟨_,rfl⟩;obtain⟨q,hq⟩:∃q,q=f x:=⟨_,rfl⟩
   have ec:aJ (Int.ofNat v) rows 6:=by rw[←aP,hr];exact aO aT rfl
   have bK:aI rows (Int.ofNat v)=[.int .i64 x.cD,.int .i64 x.x,.int .i64 x.y,.int .i64 x.z,.int .i64 x.ir,.sl p x.ssp]:=by rw[←aQ,hr,aN aT,hx,jo];rfl
   have gq:aJ (Int.ofNat v) W 6:=by rw[←aP,hW];exact aO aT rfl
   have dT:aI W (Int.ofNat v)=[.int .i64 x.cD,.int .i64 x.x,.int .i64 x.y,.int .i64 x.z,.int .i64 x.ir,.sl p q]:=by rw[←aQ,hW,aN (enc:=fun x=>({x with ssp:=f x}:eg).enc) aT,hx,jo,hq];rfl
   refine aY ?_;refine ae gq ?_;rw[dT];refine gK ?_;refine ae ec ?_;rw[bK];refine gK ?_;refine bF (by cbv) (ph jo oX) (fun _=>rfl) ?_;refine gK ?_;refine ak ⟨aT,trivial,?_⟩;rw[wS ah aw (v:=v) (by omega)]
   cbv
  ·refine aY ?_;refine ar rfl ?_;refine gK ?_;refine aX ?_;rfl
theorem zQ {W MK rows sp:List (List PV)} {l:List eg} (hr:rows=l.map eg.enc) (hW:W=(l.map eg.cV).map eg.enc) (ma:MK=((List.range 12).map eg.mark).map eg.enc) (hl:l.length<2^32) (hp:∀x∈l,x.steps.length<2^32):pC mx 56 [.sl W MK,.sl rows sp] (.bool true):=by
 have hlen:rows.length=l.length:=by simp[hr]
 have cJ:W.length=l.length:=by simp[hW]
 have fH:MK.length=12:=by simp[ma]
 have eF:aK 6 W:=by rw[hW];exact bl (enc:=eg.enc) (fun _=>rfl) _
 have fI:aK 6 MK:=by rw[ma];exact bl (enc:=eg.enc) (fun _=>rfl) _
 obtain⟨mk,fG⟩:∃mk,mk=ints marks:=⟨_,rfl⟩;obtain⟨all,gB⟩:∃all,all=W++MK:=⟨_,rfl⟩
 have qt:aK 6 all:=by rw[gB];simp[eF,fI]
 rcases MK with _|⟨e,MK⟩
 ·simp at fH
 refine pZ Uj ?_
 iterate 100 intro _
 intro iI _ _ _ _ _ _ _ eo _ _ _ _ _ dn b7 _ bJ bX cP cY df aw bu ah aI aQ aJ aP aB aU aV bC bA ag aC;refine gK ?_;refine bp.af (fun hc=>?_) (fun hc=>?_)
 ·refine aY ?_;refine aX ?_;exfalso;subst_vars;simp at hc
  try omega
 ·refine aY ?_
  have hw:bu .i64 (df (b7 rows) 12)=Int.ofNat (l.length+12):=by
   rw[←ah,←aw,←ag];simp[hlen];rw[dy]<;>omega
  rw[hw];generalize hN:l.length+12=N;refine ae ?_ ?_
  ·rw[←iI];simp[cJ,eF,←cN,fI]at fH ⊢;omega
  rw[show eo (bJ W (e::MK)) 0 (Int.ofNat N)=all by rw[←dn,←bX,gB];simp only[gX,dj,Int.toNat_zero,List.drop_zero,Nat.sub_zero];exact List.take_of_length_le (by simp[cJ]at fH ⊢;omega)];refine gK ?_;refine bQ [0,1,5,6] [] (fun v s=>s.put (some 6) (.pv (.int .i64 (Int.ofNat v)))) (N) (fun k=>True) ?_;intro v hv hk;refine ej ?_;refine bp.af (fun hd=>?_) (fun hd=>?_)
  ·have aT:v<N:=by subst_vars;simp at hd;simp at fH;omega
   refine aY ?_;refine bp.af (fun hf=>?_) (fun hf=>?_)
   ·have bO:v<l.length:=by rw[←aC,←ag]at hf;simp at hf;omega
    obtain⟨x,hx⟩:∃x,l[v]=x:=⟨_,rfl⟩;have oX:x.steps.length<2^32:=hp x (by rw[←hx];exact List.getElem_mem bO);obtain⟨p,jo⟩:∃p,p=ints x.steps:=⟨_,rfl⟩
    have ec:aJ (Int.ofNat v) rows 6:=by rw[←aP,hr];exact aO bO rfl
    have bK:aI rows (Int.ofNat v)=[.int .i64 x.cD,.int .i64 x.x,.int .i64 x.y,.int .i64 x.z,.int .i64 x.ir,.sl p x.ssp]:=by rw[←aQ,hr,aN bO,hx,jo];rfl
    have gq:aJ (Int.ofNat v) all 6:=by rw[←aP,gB];exact gY (by omega) (by rw[hW,List.map_map];exact aO (enc:=eg.enc∘eg.cV) bO rfl)
    have dT:aI all (Int.ofNat v)=[.int .i64 x.cD,.int .i64 x.x,.int .i64 x.y,.int .i64 x.z,.int .i64 x.ir,.sl p mk]:=by rw[←aQ,gB,gZ (by omega),hW,List.map_map,aN (enc:=eg.enc∘eg.cV) bO,hx,jo,fG];rfl
    refine aY ?_;refine ae gq ?_;rw[dT];refine gK ?_;refine ae ec ?_;rw[bK];refine gK ?_;refine bF (by cbv) (B2 jo fG oX) (fun _=>rfl) ?_;refine gK ?_;refine bp.af (fun hg=>?_) (fun hg=>?_)
    ·exfalso;subst_vars;simp at hg;omega
    ·refine aY ?_;refine ak ⟨aT,trivial,?_⟩;rw[wS ah aw (v:=v) (by omega)]
     cbv
   ·refine aY ?_
    have x7:l.length≤v:=by rw[←aC,←ag]at hf;simp at hf;omega
    refine bp.af (fun hg=>?_) (fun hg=>?_)
    ·obtain⟨w,qu⟩:∃w,w=v-l.length:=⟨_,rfl⟩
     have iJ:w<12:=by omega
     obtain⟨m,hm⟩:∃m,m=1000003*(1+7)+Int.ofNat w:=⟨_,rfl⟩
     have fu:bu .i64 (cP (Int.ofNat v) (b7 rows))=Int.ofNat w:=by
      rw[←ah,←cY,←ag];simp[hlen];rw[dy]<;>omega
     have mz:aF.tu (Int.ofNat w) (e::MK) 6:=by rw[ma];exact aO (by simpa using iJ) rfl
     have iK:aF.rat (e::MK) (Int.ofNat w)=[.int .i64 m,.int .i64 0,.int .i64 0,.int .i64 0,.int .i64 0,.sl [] []]:=by
      rw[ma,aN (by simpa using iJ)];simp[eg.mark,eg.enc,ints,eY,hm]
     have ec:aJ (Int.ofNat v) all 6:=by rw[←aP,gB];exact fU (by omega) (by rw[cJ,←qu];exact mz)
     have bK:aI all (Int.ofNat v)=[.int .i64 m,.int .i64 0,.int .i64 0,.int .i64 0,.int .i64 0,.sl [] []]:=by rw[←aQ,gB,fT (by omega),cJ,←qu];exact iK
     refine aY ?_;refine ae ec ?_;rw[bK];refine gK ?_;rw[fu];refine bF (by cbv) (se hm (by omega) (by omega) (by simp) (by simp;omega)) (fun h=>by first|rfl|cases h) ?_;refine gK ?_;refine bF (by cbv) (ph (p:=[]) (x:={eg.mark w with cD:=m}) rfl (by simp[eg.mark])) (fun _=>rfl) ?_;refine gK ?_;refine ak ⟨aT,trivial,?_⟩;rw[wS ah aw (v:=v) (by omega)]
     cbv
    ·exfalso;subst_vars;simp at hg;omega
  ·refine aY ?_;refine ar rfl ?_;refine gK ?_;refine aX ?_;rfl
end Go.b8
end
section
open Go Go.Am Go.Proofs
attribute [local irreducible] Am.bp.holds bH fw bP ek
namespace Go.b8
variable {mx:Int}
structure wk (c v r f t:List (List PV)) (cl:List aL) (vl:List bz) (rl fl:List Row) (tl:List eg):Prop where
 c:c=cl.map aL.enc
 v:v=vl.map bz.enc
 r:r=rl.map Row.enc
 f:f=fl.map Row.enc
 t:t=tl.map eg.enc
 cn:cl.length<2^32
 vn:vl.length<2^32
 rn:rl.length<2^32
 fn:fl.length<2^32
 tn:tl.length<2^32
 cp:∀x∈cl,x.cq.length<2^32
 vp:∀x∈vl,x.rows.length<2^32
 tp:∀x∈tl,x.steps.length<2^32
structure zR (C CM V VM RM FM T TM:List (List PV)) (cl:List aL) (vl:List bz) (tl:List eg):Prop where
 c:C=(cl.map aL.cV).map aL.enc
 cm:CM=((List.range 12).map aL.mark).map aL.enc
 v:V=(vl.map bz.cV).map bz.enc
 vm:VM=((List.range 12).map bz.mark).map bz.enc
 rm:RM=((List.range 12).map Row.qn).map Row.enc
 fm:FM=((List.range 12).map Row.qo).map Row.enc
 t:T=(tl.map eg.cV).map eg.enc
 tm:TM=((List.range 12).map eg.mark).map eg.enc
theorem B3 {c csp v vsp r rsp f fsp t tsp C CM V VM RM FM T TM:List (List PV)} {l1 l2 l3 l4 m1 m2 m3 m4:Int} {cl:List aL} {vl:List bz} {rl fl:List Row} {tl:List eg} (h:wk c v r f t cl vl rl fl tl) (hL:zR C CM V VM RM FM T TM cl vl tl):
  pC mx 13 [.agg [.sl c csp,.sl v vsp,.int .i64 l1,.int .i64 l2,.int .i64 l3,.int .i64 l4,.sl r rsp,.sl f fsp,.sl t tsp,.int .i64 m1,.int .i64 m2,.int .i64 m3,.int .i64 m4]] (.agg [.sl C CM,.sl V VM,.int .i64 l1,.int .i64 l2,.int .i64 l3,.int .i64 l4,.sl r RM,.sl f FM,.sl T TM,.int .i64 m1,.int .i64 m2,.int .i64 m3,.int .i64 m4]):=by
 refine pZ Un ?_
 iterate 129 intro _
 intro aB aU aV bC bA ag aC;refine gK ?_;refine ao (by cbv) (wh h.c hL.c hL.cm h.cn h.cp) (fun h=>by first|rfl|cases h) ?_;refine gK ?_;refine ao (by cbv) (xw h.v hL.v hL.vm h.vn h.vp) (fun h=>by first|rfl|cases h) ?_;refine gK ?_;refine ao (by cbv) (show bE _ _ _ [.sl r rsp] (.sl r RM) by rw[hL.rm];exact BX h.r h.rn) (fun h=>by first|rfl|cases h) ?_;refine gK ?_;refine ao (by cbv) (show bE _ _ _ [.sl f fsp] (.sl f FM) by rw[hL.fm];exact xp h.f h.fn) (fun h=>by first|rfl|cases h) ?_
 refine gK ?_;refine ao (by cbv) (zN h.t hL.t hL.tm h.tn h.tp) (fun h=>by first|rfl|cases h) ?_;refine gK ?_;refine aX ?_;rfl
theorem B4 {c csp v vsp r rsp f fsp t tsp C CM V VM RM FM T TM:List (List PV)} {l1 l2 l3 l4 m1 m2 m3 m4:Int} {cl:List aL} {vl:List bz} {rl fl:List Row} {tl:List eg} (h:wk c v r f t cl vl rl fl tl) (hL:zR C CM V VM RM FM T TM cl vl tl):
  pC mx 51 [.agg [.sl C CM,.sl V VM,.int .i64 l1,.int .i64 l2,.int .i64 l3,.int .i64 l4,.sl r RM,.sl f FM,.sl T TM,.int .i64 m1,.int .i64 m2,.int .i64 m3,.int .i64 m4],.agg [.sl c csp,.sl v vsp,.int .i64 l1,.int .i64 l2,.int .i64 l3,.int .i64 l4,.sl r rsp,.sl f fsp,.sl t tsp,.int .i64 m1,.int .i64 m2,.int .i64 m3,.int .i64 m4]] (.bool true):=by
 refine pZ Uo ?_
 iterate 129 intro _
 intro aB aU aV bC bA ag aC;refine gK ?_;refine ao (by cbv) (wi (f:=fun _=>ints marks) h.c (by rw[hL.c,List.map_map];rfl) h.cn h.cp) (fun h=>by first|rfl|cases h) ?_;refine gK ?_;refine ao (by cbv) (xx (f:=fun _=>ints marks) h.v (by rw[hL.v,List.map_map];rfl) h.vn h.vp) (fun h=>by first|rfl|cases h) ?_;refine gK ?_;refine bp.af (fun he=>?_) (fun he=>?_)
 ·refine ae (by subst_vars;simp[aR]) ?_;refine gK ?_;refine ao (by cbv) (BZ h.r h.rn) (fun h=>by first|rfl|cases h) ?_;refine gK ?_;refine ao (by cbv) (xq h.f h.fn) (fun h=>by first|rfl|cases h) ?_;refine gK ?_;refine ao (by cbv) (zO (f:=fun _=>ints marks) h.t (by rw[hL.t,List.map_map];rfl) h.tn h.tp) (fun h=>by first|rfl|cases h) ?_;refine gK ?_;refine bp.af (fun hf=>?_) (fun hf=>?_)
  ·refine ae (by subst_vars;simp[aR]) ?_;refine gK ?_;refine aX ?_;rfl
  ·exfalso;subst_vars;simp[bx]at hf
 ·exfalso;subst_vars;simp[bx]at he
theorem B6 {c csp v vsp r rsp f fsp t tsp C CM V VM RM FM T TM:List (List PV)} {l1 l2 l3 l4 m1 m2 m3 m4:Int} {cl:List aL} {vl:List bz} {rl fl:List Row} {tl:List eg} (h:wk c v r f t cl vl rl fl tl) (hL:zR C CM V VM RM FM T TM cl vl tl):
  pC mx 15 [.agg [.sl C CM,.sl V VM,.int .i64 l1,.int .i64 l2,.int .i64 l3,.int .i64 l4,.sl r RM,.sl f FM,.sl T TM,.int .i64 m1,.int .i64 m2,.int .i64 m3,.int .i64 m4],.agg [.sl c csp,.sl v vsp,.int .i64 l1,.int .i64 l2,.int .i64 l3,.int .i64 l4,.sl r rsp,.sl f fsp,.sl t tsp,.int .i64 m1,.int .i64 m2,.int .i64 m3,.int .i64 m4]] (.bool true):=by
 refine pZ Up ?_
 iterate 129 intro _
 intro aB aU aV bC bA ag aC;refine gK ?_;refine ao (by cbv) (B4 h hL) (fun h=>by first|rfl|cases h) ?_;refine gK ?_;refine ao (by cbv) (wj h.c hL.c hL.cm h.cn h.cp) (fun h=>by first|rfl|cases h) ?_;refine gK ?_;refine ao (by cbv) (xy h.v hL.v hL.vm h.vn h.vp) (fun h=>by first|rfl|cases h) ?_;refine gK ?_;refine ao (by cbv) (B0 h.r hL.rm h.rn) (fun h=>by first|rfl|cases h) ?_;refine gK ?_;refine ao (by cbv) (xr h.f hL.fm h.fn) (fun h=>by first|rfl|cases h) ?_
 refine gK ?_;refine ao (by cbv) (zQ h.t hL.t hL.tm h.tn h.tp) (fun h=>by first|rfl|cases h) ?_;refine gK ?_;refine aX ?_;rfl
end Go.b8
end
section
open Go Go.Am
namespace Go.b8
structure cT where
 port:List UInt8
 at_:Int
 dr:Int
def cT.enc (c:cT):List PV:=[.str c.port,.int .i64 c.at_,.int .i64 c.dr]
def cT.mark (i:Nat):cT:=⟨[],GR i,0⟩
structure Stat where
 l:List aH
 sp:List (List PV)
def Stat.enc (c:Stat):List PV:=[.sl (c.l.map aH.enc) c.sp]
def Stat.cV (c:Stat):Stat:=⟨c.l,((List.range 12).map aH.mark).map aH.enc⟩
def Stat.mark (i:Nat):Stat:=⟨[aH.mark i],[]⟩
structure jD where
 l:List Int
 sp:List (List PV)
def jD.enc (c:jD):List PV:=[.sl (ints c.l) c.sp]
def jD.cV (c:jD):jD:=⟨c.l,ints marks⟩
def jD.mark (i:Nat):jD:=⟨[GR i],[]⟩
end Go.b8
end
section
open Go Go.Am Go.Proofs
attribute [local irreducible] Am.bp.holds bH fw bP ek
namespace Go.b8
variable {mx:Int}
theorem sf {k i m:Int} (hm:m=1000003*(k+7)+i) (hk:0≤k) (eR:k<2^30) (hi:0≤i) (gQ:i<2^30):pC mx 61 [.int .i64 k,.int .i64 i] (.agg [.str [],.int .i64 m,.int .i64 0]):=by
 refine pZ UT ?_
 iterate 129 intro _
 intro aB aU aV bC bA ag aC;refine gK ?_;refine ao (by cbv) (jC hm hk eR hi gQ) (fun _=>rfl) ?_;refine gK ?_;refine aX ?_;rfl
theorem JL:((List.range 12).map cT.mark).length=12:=by simp
theorem zS {rows sp:List (List PV)} {l:List cT} (hr:rows=l.map cT.enc) (hl:l.length<2^32):pC mx 19 [.sl rows sp] (.sl rows (((List.range 12).map cT.mark).map cT.enc)):=by
 have hlen:rows.length=l.length:=by simp[hr]
 have bS:aK 3 rows:=by rw[hr];exact bl (enc:=cT.enc) (fun _=>rfl) l
 have eL:fS 3 rows:=by rw[hr];exact iX (enc:=cT.enc) (fun _=>⟨rfl,by simp[cT.enc]⟩) l
 obtain⟨W,hW⟩:∃W,W=((List.range 12).map cT.mark).map cT.enc:=⟨_,rfl⟩
 have hWl:W.length=12:=by simp[hW]
 have fG:∀v,aK 3 (W.take v):=fun v r hr=>bl (enc:=cT.enc) (n:=3) (fun _=>rfl) ((List.range 12).map cT.mark) r (hW▸List.mem_of_mem_take hr)
 rw[←hW]
 clear hr
 refine pZ UN ?_
 iterate 82 intro _
 intro eV
 iterate 34 intro _
 intro bJ _ _ _ _ aw _ ah _ _ _ _ aB aU aV bC bA ag aC;refine gK ?_;refine ae ?_ ?_
 ·subst_vars;simp;rw[dy]<;>omega
 rw[show eV 0 _=[] by subst_vars;rfl];refine gK ?_;refine ae ?_ ?_
 ·subst_vars;simp[eL];omega
 rw[show bJ [] rows=rows by subst_vars;rfl];refine gK ?_;refine bQ [0,3,4] (nn [8,8]) (fun v σ_=>σ_.put (some 4) (.pv (.int .i64 (Int.ofNat v)))|>.aq 8 (.rows 3 (rows++W.take v) 0)) (12) (fun k=>True) ?_;intro v hv hk
 try dsimp only
 generalize dA:rows++W.take v=cur;refine ej ?_;refine bp.af (fun hc=>?_) (fun hc=>?_)
 ·refine aY ?_
  have aT:v<12:=by subst_vars;simp at hc;omega
  obtain⟨m,hm⟩:∃m,m=1000003*(1+7)+Int.ofNat v:=⟨_,rfl⟩;refine ao (by cbv) (sf hm (by omega) (by omega) (by simp) (by simp;omega)) (fun _=>rfl) ?_;refine gK ?_;refine ae ?_ ?_
  ·subst_vars;simp[bS,hlen];exact⟨by omega,by omega,fG v⟩
  refine gK ?_;refine ak ⟨aT,trivial,?_⟩;rw[wS ah aw (v:=v) (by omega)]
  rw[show bJ cur [[.str [],.int .i64 m,.int .i64 0]]=rows++W.take (v+1) by
   subst_vars;rw[List.take_succ_eq_append_getElem (by simpa using aT)]
   simp[cT.mark,cT.enc,eY]]
  cbv
 ·refine aY ?_;refine ar rfl ?_;refine gK ?_;refine ae ?_ ?_
  ·subst_vars;simp[bS,fG]
   try omega
  ·refine gK ?_;refine aX ?_;subst_vars;simp at hc
   obtain rfl:v=12:=by omega
   rw[List.take_of_length_le (l:=((List.range 12).map cT.mark).map cT.enc) (by simp)];simp;rw[List.take_of_length_le];simp;omega
theorem zT {rows mk sp:List (List PV)} {l:List cT} (hr:rows=l.map cT.enc) (fG:mk=((List.range 12).map cT.mark).map cT.enc) (hl:l.length<2^32):pC mx 26 [.sl rows mk,.sl rows sp] (.bool true):=by
 have hlen:rows.length=l.length:=by simp[hr]
 have dY:mk.length=12:=by simp[fG]
 have bS:aK 3 rows:=by rw[hr];exact bl (enc:=cT.enc) (fun _=>rfl) l
 have kq:aK 3 mk:=by rw[fG];exact bl (enc:=cT.enc) (fun _=>rfl) _
 rcases mk with _|⟨e,mk⟩
 ·simp at dY
 refine pZ UQ ?_
 iterate 100 intro _
 intro iI _ _ _ _ _ _ _ eo _ _ _ _ _ dn b7 _ bJ bX cP cY df aw bu ah aI aQ aJ aP aB aU aV bC bA ag aC;refine gK ?_;refine bp.af (fun hc=>?_) (fun hc=>?_)
 ·refine aY ?_;refine aX ?_;subst_vars;simp at hc
 ·refine aY ?_
  have hw:bu .i64 (df (b7 rows) 12)=Int.ofNat (l.length+12):=by
   rw[←ah,←aw,←ag];simp[hlen];rw[dy]<;>omega
  rw[hw];generalize hN:l.length+12=N;refine ae ?_ ?_
  ·rw[←iI];simp[hlen,bS,←cN,kq]at dY ⊢;omega
  obtain⟨all,gB⟩:∃all,all=rows++e::mk:=⟨_,rfl⟩;rw[show eo (bJ rows (e::mk)) 0 (Int.ofNat N)=all by rw[←dn,←bX,gB];simp only[gX,dj,Int.toNat_zero,List.drop_zero,Nat.sub_zero];exact List.take_of_length_le (by simp[hlen]at dY ⊢;omega)]
  have qt:aK 3 all:=by rw[gB];simp[bS,←cN,kq]
  refine gK ?_;refine bQ [0,1,5,6] [] (fun v σ_=>σ_.put (some 6) (.pv (.int .i64 (Int.ofNat v)))) (N) (fun k=>True) ?_;intro v hv hk;refine ej ?_;refine bp.af (fun hd=>?_) (fun hd=>?_)
  ·refine aY ?_
   have aT:v<N:=by subst_vars;simp at hd;simp at dY;omega
   refine bp.af (fun hf=>?_) (fun hf=>?_)
   ·have bO:v<l.length:=by rw[←aC,←ag]at hf;simp at hf;omega
    obtain⟨x,hx⟩:∃x,l[v]=x:=⟨_,rfl⟩
    have ec:aJ (Int.ofNat v) rows 3:=by subst_vars;exact aO bO rfl
    have bK:aI rows (Int.ofNat v)=[.str x.port,.int .i64 x.at_,.int .i64 x.dr]:=by rw[←hx];subst_vars;exact aN bO
    have gq:aJ (Int.ofNat v) all 3:=by rw[←aP]at ec ⊢;rw[gB];exact gY (by omega) ec
    have dT:aI all (Int.ofNat v)=[.str x.port,.int .i64 x.at_,.int .i64 x.dr]:=by rw[←aQ]at bK ⊢;rw[gB,gZ (by omega)];exact bK
    refine aY ?_;refine ae gq ?_;rw[dT];refine gK ?_;refine ae ec ?_;rw[bK];refine gK ?_;refine bp.af (fun he=>?_) (fun he=>?_)
    ·refine ae (by subst_vars;simp[aR]) ?_;refine gK ?_;refine aY ?_;refine bp.af (fun hg=>?_) (fun hg=>?_)
     ·exfalso;subst_vars;simp at hg;omega
     ·refine aY ?_;refine ak ⟨aT,trivial,?_⟩;rw[wS ah aw (v:=v) (by omega)]
      cbv
    ·exfalso;subst_vars;simp[bx]at he
   ·refine aY ?_
    have x7:l.length≤v:=by rw[←aC,←ag]at hf;simp at hf;omega
    refine bp.af (fun hg=>?_) (fun hg=>?_)
    ·obtain⟨w,qu⟩:∃w,w=v-l.length:=⟨_,rfl⟩
     have iJ:w<12:=by omega
     obtain⟨m,hm⟩:∃m,m=1000003*(1+7)+Int.ofNat w:=⟨_,rfl⟩
     have fu:bu .i64 (cP (Int.ofNat v) (b7 rows))=Int.ofNat w:=by
      rw[←ah,←cY,←ag];simp[hlen];rw[dy]<;>omega
     have mz:aF.tu (Int.ofNat w) (e::mk) 3:=by rw[fG];exact aO (by simpa using iJ) rfl
     have iK:aF.rat (e::mk) (Int.ofNat w)=[.str [],.int .i64 m,.int .i64 0]:=by
      rw[fG,aN (by simpa using iJ)];simp[cT.mark,cT.enc,eY,hm]
     have ec:aJ (Int.ofNat v) all 3:=by rw[←aP,gB];exact fU (by omega) (by rw[hlen,←qu];exact mz)
     have bK:aI all (Int.ofNat v)=[.str [],.int .i64 m,.int .i64 0]:=by rw[←aQ,gB,fT (by omega),hlen,←qu];exact iK
     refine aY ?_;refine ae ec ?_;rw[bK];refine gK ?_;rw[fu];refine bF (by cbv) (sf hm (by omega) (by omega) (by simp) (by simp;omega)) (fun _=>rfl) ?_;refine gK ?_;refine bp.af (fun he=>?_) (fun he=>?_)
     ·refine ae (by subst_vars;simp[aR]) ?_;refine gK ?_;refine aY ?_;refine ak ⟨aT,trivial,?_⟩;rw[wS ah aw (v:=v) (by omega)]
      cbv
     ·exfalso;subst_vars;simp[bx]at he
    ·exfalso;subst_vars;simp at hg;omega
  ·refine aY ?_;refine ar rfl ?_;refine gK ?_;refine aX ?_;rfl
theorem qx {k i m:Int} (hm:m=1000003*(k+7)+i) (hk:0≤k) (eR:k<2^30) (hi:0≤i) (gQ:i<2^30):pC mx 136 [.int .i64 k,.int .i64 i] (.sl [[.int .i64 m,.int .i64 0,.int .i64 0,.int .u8 0]] []):=by
 refine pZ NY ?_
 iterate 129 intro _
 intro aB aU aV bC bA ag aC;refine gK ?_;refine ao (by cbv) (lE hm hk eR hi gQ) (fun _=>rfl) ?_;refine gK ?_;refine aX ?_;rfl
theorem xA {rows sp W MK:List (List PV)} {l:List Stat} (hr:rows=l.map Stat.enc) (hW:W=(l.map Stat.cV).map Stat.enc) (ma:MK=((List.range 12).map Stat.mark).map Stat.enc) (hl:l.length<2^32) (hp:∀x∈l,x.l.length<2^32):pC mx 59 [.sl rows sp] (.sl W MK):=by
 have hlen:rows.length=l.length:=by simp[hr]
 have cJ:W.length=l.length:=by simp[hW]
 have fH:MK.length=12:=by simp[ma]
 have eF:aK 1 W:=by rw[hW];exact bl (enc:=Stat.enc) (fun _=>rfl) _
 have fI:aK 1 MK:=by rw[ma];exact bl (enc:=Stat.enc) (fun _=>rfl) _
 have zL:∀v,aK 1 (W.take v):=fun v r hr=>eF r (List.mem_of_mem_take hr)
 have zM:∀v,aK 1 (MK.take v):=fun v r hr=>fI r (List.mem_of_mem_take hr)
 obtain⟨mk,fG⟩:∃mk,mk=((List.range 12).map aH.mark).map aH.enc:=⟨_,rfl⟩;refine pZ UR ?_
 iterate 82 intro _
 intro eV
 iterate 11 intro _
 intro kK
 iterate 19 intro _
 intro dn b7 dF bJ bX _ _ _ aw _ ah aI aQ aJ aP aB aU aV bC bA ag aC;refine gK ?_;refine ae ?_ ?_
 ·subst_vars;simp;rw[dy]<;>omega
 rw[show eV 0 _=[] by subst_vars;rfl];refine gK ?_;refine bQ [0,3,4] (nn [10,10]) (fun v σ_=>σ_.put (some 4) (.pv (.int .i64 (Int.ofNat v)))|>.aq 10 (.rows 1 (W.take v) 0)) (l.length) (fun k=>True) ?_;intro v hv hk
 try dsimp only
 generalize dA:W.take v=cur;refine ej ?_;refine bp.af (fun hc=>?_) (fun hc=>?_)
 ·have aT:v<l.length:=by subst_vars;simp at hc;omega
  obtain⟨x,hx⟩:∃x,l[v]=x:=⟨_,rfl⟩;have oX:x.l.length<2^32:=hp x (by rw[←hx];exact List.getElem_mem aT)
  have ec:aJ (Int.ofNat v) rows 1:=by rw[←aP,hr];exact aO aT rfl
  obtain⟨p,jo⟩:∃p,p=x.l.map aH.enc:=⟨_,rfl⟩
  have On:v<W.length:=by omega
  have bK:aI rows (Int.ofNat v)=[.sl p x.sp]:=by rw[←aQ,hr,aN aT,hx,jo];rfl
  refine aY ?_;refine ae ec ?_;rw[bK];refine gK ?_;refine ao (by cbv) (show bE _ _ _ [.sl p x.sp] (.sl p mk) by rw[fG];exact o9 jo oX) (fun h=>by cases h) ?_;refine gK ?_;refine ae ?_ ?_
  ·rw[←dF,←dA];have:=zL v;simp[this,cJ];omega
  refine gK ?_;refine ak ⟨aT,trivial,?_⟩;rw[wS ah aw (v:=v) (by omega)]
  rw[show bJ cur [[.sl p mk]]=W.take (v+1) by
   rw[←bX,←dA,List.take_succ_eq_append_getElem On,dj]
   congr 2
   subst hW;simp only[List.getElem_map];rw[hx,jo,fG]
   rfl]
  cbv
 ·have aT:v=l.length:=by subst_vars;simp at hc;omega
  refine aY ?_;refine ar rfl ?_;refine gK ?_;rw[show cur=W by rw[←dA];exact List.take_of_length_le (by omega)];refine bQ [0,3,6] (nn [10,10]) (fun v σ_=>σ_.put (some 6) (.pv (.int .i64 (Int.ofNat v)))|>.aq 10 (.rows 1 (W++MK.take v) 0)) (12) (fun k=>True) ?_;intro v hv hk
  try dsimp only
  generalize dA:W++MK.take v=cur;refine ej ?_;refine bp.af (fun pH=>?_) (fun pH=>?_)
  ·refine aY ?_
   have aT:v<12:=by subst_vars;simp at pH;omega
   have Oo:v<MK.length:=by omega
   obtain⟨m,hm⟩:∃m,m=1000003*(1+7)+Int.ofNat v:=⟨_,rfl⟩;refine ao (by cbv) (qx hm (by omega) (by omega) (by simp) (by simp;omega)) (fun h=>by first|rfl|cases h) ?_;refine gK ?_;refine ae ?_ ?_
   ·rw[←dF,←dA];have:=zM v;simp[this,eF,cJ];omega
   refine gK ?_;refine ak ⟨aT,trivial,?_⟩;rw[wS ah aw (v:=v) (by omega)]
   rw[show bJ cur [[.sl [[.int .i64 m,.int .i64 0,.int .i64 0,.int .u8 0]] []]]=W++MK.take (v+1) by
    rw[←bX,←dA,List.take_succ_eq_append_getElem Oo,dj,List.append_assoc]
    congr 3
    subst ma;simp only[List.getElem_map,List.getElem_range];rw[hm,←eY]
    rfl]
   cbv
  ·refine aY ?_;refine ar rfl ?_;refine gK ?_
   have gh:v=12:=by subst_vars;simp at pH;omega
   rw[show cur=W++MK by rw[←dA,List.take_of_length_le (l:=MK) (by omega)]]
   have mn:b7 rows=Int.ofNat W.length:=by rw[←ag];simp[hlen,cJ]
   rw[mn];refine ae ?_ ?_
   ·rw[←kK];simp[eF,fI,cJ]
    try omega
   ·refine gK ?_;refine aX ?_;rw[←dn]
    congr 2
    ·simp
    ·rw[←ag];simp;rw[List.take_of_length_le (by omega)]
theorem xB {W rows sp ta:List (List PV)} {l:List Stat} {f:Stat→List (List PV)} (hr:rows=l.map Stat.enc) (hW:W=l.map fun x=>({x with sp:=f x}:Stat).enc) (hl:l.length<2^32) (hp:∀x∈l,x.l.length<2^32):pC mx 151 [.sl W sp,.sl rows ta] (.bool true):=by
 have hlen:rows.length=l.length:=by simp[hr]
 have cJ:W.length=l.length:=by simp[hW]
 refine pZ N1 ?_
 iterate 122 intro _
 intro aw _ ah aI aQ aJ aP aB aU aV bC bA ag aC;refine gK ?_;refine bp.af (fun hc=>?_) (fun hc=>?_)
 ·refine aY ?_;refine aX ?_;exfalso;subst_vars;simp at hc
 ·refine aY ?_;refine bQ [0,1,5] [] (fun v σ_=>σ_.put (some 5) (.pv (.int .i64 (Int.ofNat v)))) (l.length) (fun k=>True) ?_;intro v hv hk;refine ej ?_;refine bp.af (fun hd=>?_) (fun hd=>?_)
  ·have aT:v<l.length:=by subst_vars;simp at hd;omega
   obtain⟨x,hx⟩:∃x,l[v]=x:=⟨_,rfl⟩;have oX:x.l.length<2^32:=hp x (by rw[←hx];exact List.getElem_mem aT);obtain⟨p,jo⟩:∃p,p=x.l.map aH.enc:=⟨_,rfl⟩;obtain⟨q,hq⟩:∃q,q=f x:=⟨_,rfl⟩
   have ec:aJ (Int.ofNat v) rows 1:=by rw[←aP,hr];exact aO aT rfl
   have bK:aI rows (Int.ofNat v)=[.sl p x.sp]:=by rw[←aQ,hr,aN aT,hx,jo];rfl
   have gq:aJ (Int.ofNat v) W 1:=by rw[←aP,hW];exact aO aT rfl
   have dT:aI W (Int.ofNat v)=[.sl p q]:=by rw[←aQ,hW,aN (enc:=fun x=>({x with sp:=f x}:Stat).enc) aT,hx,jo,hq];rfl
   refine aY ?_;refine ae gq ?_;rw[dT];refine gK ?_;refine ae ec ?_;rw[bK];refine gK ?_;refine bF (by cbv) (lF jo oX) (fun _=>rfl) ?_;refine gK ?_;refine ak ⟨aT,trivial,?_⟩;rw[wS ah aw (v:=v) (by omega)]
   cbv
  ·refine aY ?_;refine ar rfl ?_;refine gK ?_;refine aX ?_;rfl
theorem xC {W MK rows sp:List (List PV)} {l:List Stat} (hr:rows=l.map Stat.enc) (hW:W=(l.map Stat.cV).map Stat.enc) (ma:MK=((List.range 12).map Stat.mark).map Stat.enc) (hl:l.length<2^32) (hp:∀x∈l,x.l.length<2^32):pC mx 74 [.sl W MK,.sl rows sp] (.bool true):=by
 have hlen:rows.length=l.length:=by simp[hr]
 have cJ:W.length=l.length:=by simp[hW]
 have fH:MK.length=12:=by simp[ma]
 have eF:aK 1 W:=by rw[hW];exact bl (enc:=Stat.enc) (fun _=>rfl) _
 have fI:aK 1 MK:=by rw[ma];exact bl (enc:=Stat.enc) (fun _=>rfl) _
 obtain⟨mk,fG⟩:∃mk,mk=((List.range 12).map aH.mark).map aH.enc:=⟨_,rfl⟩;obtain⟨all,gB⟩:∃all,all=W++MK:=⟨_,rfl⟩
 have qt:aK 1 all:=by rw[gB];simp[eF,fI]
 rcases MK with _|⟨e,MK⟩
 ·simp at fH
 refine pZ UW ?_
 iterate 100 intro _
 intro iI _ _ _ _ _ _ _ eo _ _ _ _ _ dn b7 _ bJ bX cP cY df aw bu ah aI aQ aJ aP aB aU aV bC bA ag aC;refine gK ?_;refine bp.af (fun hc=>?_) (fun hc=>?_)
 ·refine aY ?_;refine aX ?_;exfalso;subst_vars;simp at hc
  try omega
 ·refine aY ?_
  have hw:bu .i64 (df (b7 rows) 12)=Int.ofNat (l.length+12):=by
   rw[←ah,←aw,←ag];simp[hlen];rw[dy]<;>omega
  rw[hw];generalize hN:l.length+12=N;refine ae ?_ ?_
  ·rw[←iI];simp[cJ,eF,←cN,fI]at fH ⊢;omega
  rw[show eo (bJ W (e::MK)) 0 (Int.ofNat N)=all by rw[←dn,←bX,gB];simp only[gX,dj,Int.toNat_zero,List.drop_zero,Nat.sub_zero];exact List.take_of_length_le (by simp[cJ]at fH ⊢;omega)];refine gK ?_;refine bQ [0,1,5,6] [] (fun v σ_=>σ_.put (some 6) (.pv (.int .i64 (Int.ofNat v)))) (N) (fun k=>True) ?_;intro v hv hk;refine ej ?_;refine bp.af (fun hd=>?_) (fun hd=>?_)
  ·have aT:v<N:=by subst_vars;simp at hd;simp at fH;omega
   refine aY ?_;refine bp.af (fun hf=>?_) (fun hf=>?_)
   ·have bO:v<l.length:=by rw[←aC,←ag]at hf;simp at hf;omega
    obtain⟨x,hx⟩:∃x,l[v]=x:=⟨_,rfl⟩;have oX:x.l.length<2^32:=hp x (by rw[←hx];exact List.getElem_mem bO);obtain⟨p,jo⟩:∃p,p=x.l.map aH.enc:=⟨_,rfl⟩
    have ec:aJ (Int.ofNat v) rows 1:=by rw[←aP,hr];exact aO bO rfl
    have bK:aI rows (Int.ofNat v)=[.sl p x.sp]:=by rw[←aQ,hr,aN bO,hx,jo];rfl
    have gq:aJ (Int.ofNat v) all 1:=by rw[←aP,gB];exact gY (by omega) (by rw[hW,List.map_map];exact aO (enc:=Stat.enc∘Stat.cV) bO rfl)
    have dT:aI all (Int.ofNat v)=[.sl p mk]:=by rw[←aQ,gB,gZ (by omega),hW,List.map_map,aN (enc:=Stat.enc∘Stat.cV) bO,hx,jo,fG];rfl
    refine aY ?_;refine ae gq ?_;rw[dT];refine gK ?_;refine ae ec ?_;rw[bK];refine gK ?_;refine bF (by cbv) (pd jo fG oX) (fun _=>rfl) ?_;refine gK ?_;refine bp.af (fun hg=>?_) (fun hg=>?_)
    ·exfalso;subst_vars;simp at hg;omega
    ·refine aY ?_;refine ak ⟨aT,trivial,?_⟩;rw[wS ah aw (v:=v) (by omega)]
     cbv
   ·refine aY ?_
    have x7:l.length≤v:=by rw[←aC,←ag]at hf;simp at hf;omega
    refine bp.af (fun hg=>?_) (fun hg=>?_)
    ·obtain⟨w,qu⟩:∃w,w=v-l.length:=⟨_,rfl⟩
     have iJ:w<12:=by omega
     obtain⟨m,hm⟩:∃m,m=1000003*(1+7)+Int.ofNat w:=⟨_,rfl⟩
     have fu:bu .i64 (cP (Int.ofNat v) (b7 rows))=Int.ofNat w:=by
      rw[←ah,←cY,←ag];simp[hlen];rw[dy]<;>omega
     have mz:aF.tu (Int.ofNat w) (e::MK) 1:=by rw[ma];exact aO (by simpa using iJ) rfl
     have iK:aF.rat (e::MK) (Int.ofNat w)=[.sl [[.int .i64 m,.int .i64 0,.int .i64 0,.int .u8 0]] []]:=by
      rw[ma,aN (by simpa using iJ)];simp[Stat.mark,Stat.enc,aH.mark,aH.enc,eY,hm]
     have ec:aJ (Int.ofNat v) all 1:=by rw[←aP,gB];exact fU (by omega) (by rw[cJ,←qu];exact mz)
     have bK:aI all (Int.ofNat v)=[.sl [[.int .i64 m,.int .i64 0,.int .i64 0,.int .u8 0]] []]:=by rw[←aQ,gB,fT (by omega),cJ,←qu];exact iK
     refine aY ?_;refine ae ec ?_;rw[bK];refine gK ?_;rw[fu];refine bF (by cbv) (qx hm (by omega) (by omega) (by simp) (by simp;omega)) (fun h=>by first|rfl|cases h) ?_;refine gK ?_;refine bF (by cbv) (lF (rows:=[[.int .i64 m,.int .i64 0,.int .i64 0,.int .u8 0]]) (l:=[aH.mark w]) (by simp[aH.mark,aH.enc,eY,hm]) (by simp)) (fun _=>rfl) ?_;refine gK ?_;refine ak ⟨aT,trivial,?_⟩;rw[wS ah aw (v:=v) (by omega)]
     cbv
    ·exfalso;subst_vars;simp at hg;omega
  ·refine aY ?_;refine ar rfl ?_;refine gK ?_;refine aX ?_;rfl
theorem qy {k i m:Int} (hm:m=1000003*(k+7)+i) (hk:0≤k) (eR:k<2^30) (hi:0≤i) (gQ:i<2^30):pC mx 138 [.int .i64 k,.int .i64 i] (.sl [[.int .i64 m]] []):=by
 refine pZ NZ ?_
 iterate 129 intro _
 intro aB aU aV bC bA ag aC;refine gK ?_;refine ao (by cbv) (jC hm hk eR hi gQ) (fun _=>rfl) ?_;refine gK ?_;refine aX ?_;rfl
theorem xD {rows sp W MK:List (List PV)} {l:List jD} (hr:rows=l.map jD.enc) (hW:W=(l.map jD.cV).map jD.enc) (ma:MK=((List.range 12).map jD.mark).map jD.enc) (hl:l.length<2^32) (hp:∀x∈l,x.l.length<2^32):pC mx 60 [.sl rows sp] (.sl W MK):=by
 have hlen:rows.length=l.length:=by simp[hr]
 have cJ:W.length=l.length:=by simp[hW]
 have fH:MK.length=12:=by simp[ma]
 have eF:aK 1 W:=by rw[hW];exact bl (enc:=jD.enc) (fun _=>rfl) _
 have fI:aK 1 MK:=by rw[ma];exact bl (enc:=jD.enc) (fun _=>rfl) _
 have zL:∀v,aK 1 (W.take v):=fun v r hr=>eF r (List.mem_of_mem_take hr)
 have zM:∀v,aK 1 (MK.take v):=fun v r hr=>fI r (List.mem_of_mem_take hr)
 obtain⟨mk,fG⟩:∃mk,mk=ints marks:=⟨_,rfl⟩;refine pZ US ?_
 iterate 82 intro _
 intro eV
 iterate 11 intro _
 intro kK
 iterate 19 intro _
 intro dn b7 dF bJ bX _ _ _ aw _ ah aI aQ aJ aP aB aU aV bC bA ag aC;refine gK ?_;refine ae ?_ ?_
 ·subst_vars;simp;rw[dy]<;>omega
 rw[show eV 0 _=[] by subst_vars;rfl];refine gK ?_;refine bQ [0,3,4] (nn [10,10]) (fun v σ_=>σ_.put (some 4) (.pv (.int .i64 (Int.ofNat v)))|>.aq 10 (.rows 1 (W.take v) 0)) (l.length) (fun k=>True) ?_;intro v hv hk
 try dsimp only
 generalize dA:W.take v=cur;refine ej ?_;refine bp.af (fun hc=>?_) (fun hc=>?_)
 ·have aT:v<l.length:=by subst_vars;simp at hc;omega
  obtain⟨x,hx⟩:∃x,l[v]=x:=⟨_,rfl⟩;have oX:x.l.length<2^32:=hp x (by rw[←hx];exact List.getElem_mem aT)
  have ec:aJ (Int.ofNat v) rows 1:=by rw[←aP,hr];exact aO aT rfl
  obtain⟨p,jo⟩:∃p,p=ints x.l:=⟨_,rfl⟩
  have On:v<W.length:=by omega
  have bK:aI rows (Int.ofNat v)=[.sl p x.sp]:=by rw[←aQ,hr,aN aT,hx,jo];rfl
  refine aY ?_;refine ae ec ?_;rw[bK];refine gK ?_;refine ao (by cbv) (show bE _ _ _ [.sl p x.sp] (.sl p mk) by rw[fG];exact l8 jo oX) (fun h=>by cases h) ?_;refine gK ?_;refine ae ?_ ?_
  ·rw[←dF,←dA];have:=zL v;simp[this,cJ];omega
  refine gK ?_;refine ak ⟨aT,trivial,?_⟩;rw[wS ah aw (v:=v) (by omega)]
  rw[show bJ cur [[.sl p mk]]=W.take (v+1) by
   rw[←bX,←dA,List.take_succ_eq_append_getElem On,dj]
   congr 2
   subst hW;simp only[List.getElem_map];rw[hx,jo,fG]
   rfl]
  cbv
 ·have aT:v=l.length:=by subst_vars;simp at hc;omega
  refine aY ?_;refine ar rfl ?_;refine gK ?_;rw[show cur=W by rw[←dA];exact List.take_of_length_le (by omega)];refine bQ [0,3,6] (nn [10,10]) (fun v σ_=>σ_.put (some 6) (.pv (.int .i64 (Int.ofNat v)))|>.aq 10 (.rows 1 (W++MK.take v) 0)) (12) (fun k=>True) ?_;intro v hv hk
  try dsimp only
  generalize dA:W++MK.take v=cur;refine ej ?_;refine bp.af (fun pH=>?_) (fun pH=>?_)
  ·refine aY ?_
   have aT:v<12:=by subst_vars;simp at pH;omega
   have Oo:v<MK.length:=by omega
   obtain⟨m,hm⟩:∃m,m=1000003*(1+7)+Int.ofNat v:=⟨_,rfl⟩;refine ao (by cbv) (qy hm (by omega) (by omega) (by simp) (by simp;omega)) (fun h=>by first|rfl|cases h) ?_;refine gK ?_;refine ae ?_ ?_
   ·rw[←dF,←dA];have:=zM v;simp[this,eF,cJ];omega
   refine gK ?_;refine ak ⟨aT,trivial,?_⟩;rw[wS ah aw (v:=v) (by omega)]
   rw[show bJ cur [[.sl [[.int .i64 m]] []]]=W++MK.take (v+1) by
    rw[←bX,←dA,List.take_succ_eq_append_getElem Oo,dj,List.append_assoc]
    congr 3
    subst ma;simp only[List.getElem_map,List.getElem_range];rw[hm,←eY]
    rfl]
   cbv
  ·refine aY ?_;refine ar rfl ?_;refine gK ?_
   have gh:v=12:=by subst_vars;simp at pH;omega
   rw[show cur=W++MK by rw[←dA,List.take_of_length_le (l:=MK) (by omega)]]
   have mn:b7 rows=Int.ofNat W.length:=by rw[←ag];simp[hlen,cJ]
   rw[mn];refine ae ?_ ?_
   ·rw[←kK];simp[eF,fI,cJ]
    try omega
   ·refine gK ?_;refine aX ?_;rw[←dn]
    congr 2
    ·simp
    ·rw[←ag];simp;rw[List.take_of_length_le (by omega)]
theorem xE {W rows sp ta:List (List PV)} {l:List jD} {f:jD→List (List PV)} (hr:rows=l.map jD.enc) (hW:W=l.map fun x=>({x with sp:=f x}:jD).enc) (hl:l.length<2^32) (hp:∀x∈l,x.l.length<2^32):pC mx 152 [.sl W sp,.sl rows ta] (.bool true):=by
 have hlen:rows.length=l.length:=by simp[hr]
 have cJ:W.length=l.length:=by simp[hW]
 refine pZ N3 ?_
 iterate 122 intro _
 intro aw _ ah aI aQ aJ aP aB aU aV bC bA ag aC;refine gK ?_;refine bp.af (fun hc=>?_) (fun hc=>?_)
 ·refine aY ?_;refine aX ?_;exfalso;subst_vars;simp at hc
 ·refine aY ?_;refine bQ [0,1,5] [] (fun v σ_=>σ_.put (some 5) (.pv (.int .i64 (Int.ofNat v)))) (l.length) (fun k=>True) ?_;intro v hv hk;refine ej ?_;refine bp.af (fun hd=>?_) (fun hd=>?_)
  ·have aT:v<l.length:=by subst_vars;simp at hd;omega
   obtain⟨x,hx⟩:∃x,l[v]=x:=⟨_,rfl⟩;have oX:x.l.length<2^32:=hp x (by rw[←hx];exact List.getElem_mem aT);obtain⟨p,jo⟩:∃p,p=ints x.l:=⟨_,rfl⟩;obtain⟨q,hq⟩:∃q,q=f x:=⟨_,rfl⟩
   have ec:aJ (Int.ofNat v) rows 1:=by rw[←aP,hr];exact aO aT rfl
   have bK:aI rows (Int.ofNat v)=[.sl p x.sp]:=by rw[←aQ,hr,aN aT,hx,jo];rfl
   have gq:aJ (Int.ofNat v) W 1:=by rw[←aP,hW];exact aO aT rfl
   have dT:aI W (Int.ofNat v)=[.sl p q]:=by rw[←aQ,hW,aN (enc:=fun x=>({x with sp:=f x}:jD).enc) aT,hx,jo,hq];rfl
   refine aY ?_;refine ae gq ?_;rw[dT];refine gK ?_;refine ae ec ?_;rw[bK];refine gK ?_;refine bF (by cbv) (kp jo oX) (fun _=>rfl) ?_;refine gK ?_;refine ak ⟨aT,trivial,?_⟩;rw[wS ah aw (v:=v) (by omega)]
   cbv
  ·refine aY ?_;refine ar rfl ?_;refine gK ?_;refine aX ?_;rfl
theorem xF {W MK rows sp:List (List PV)} {l:List jD} (hr:rows=l.map jD.enc) (hW:W=(l.map jD.cV).map jD.enc) (ma:MK=((List.range 12).map jD.mark).map jD.enc) (hl:l.length<2^32) (hp:∀x∈l,x.l.length<2^32):pC mx 75 [.sl W MK,.sl rows sp] (.bool true):=by
 have hlen:rows.length=l.length:=by simp[hr]
 have cJ:W.length=l.length:=by simp[hW]
 have fH:MK.length=12:=by simp[ma]
 have eF:aK 1 W:=by rw[hW];exact bl (enc:=jD.enc) (fun _=>rfl) _
 have fI:aK 1 MK:=by rw[ma];exact bl (enc:=jD.enc) (fun _=>rfl) _
 obtain⟨mk,fG⟩:∃mk,mk=ints marks:=⟨_,rfl⟩;obtain⟨all,gB⟩:∃all,all=W++MK:=⟨_,rfl⟩
 have qt:aK 1 all:=by rw[gB];simp[eF,fI]
 rcases MK with _|⟨e,MK⟩
 ·simp at fH
 refine pZ UX ?_
 iterate 100 intro _
 intro iI _ _ _ _ _ _ _ eo _ _ _ _ _ dn b7 _ bJ bX cP cY df aw bu ah aI aQ aJ aP aB aU aV bC bA ag aC;refine gK ?_;refine bp.af (fun hc=>?_) (fun hc=>?_)
 ·refine aY ?_;refine aX ?_;exfalso;subst_vars;simp at hc
  try omega
 ·refine aY ?_
  have hw:bu .i64 (df (b7 rows) 12)=Int.ofNat (l.length+12):=by
   rw[←ah,←aw,←ag];simp[hlen];rw[dy]<;>omega
  rw[hw];generalize hN:l.length+12=N;refine ae ?_ ?_
  ·rw[←iI];simp[cJ,eF,←cN,fI]at fH ⊢;omega
  rw[show eo (bJ W (e::MK)) 0 (Int.ofNat N)=all by rw[←dn,←bX,gB];simp only[gX,dj,Int.toNat_zero,List.drop_zero,Nat.sub_zero];exact List.take_of_length_le (by simp[cJ]at fH ⊢;omega)];refine gK ?_;refine bQ [0,1,5,6] [] (fun v σ_=>σ_.put (some 6) (.pv (.int .i64 (Int.ofNat v)))) (N) (fun k=>True) ?_;intro v hv hk;refine ej ?_;refine bp.af (fun hd=>?_) (fun hd=>?_)
  ·have aT:v<N:=by subst_vars;simp at hd;simp at fH;omega
   refine aY ?_;refine bp.af (fun hf=>?_) (fun hf=>?_)
   ·have bO:v<l.length:=by rw[←aC,←ag]at hf;simp at hf;omega
    obtain⟨x,hx⟩:∃x,l[v]=x:=⟨_,rfl⟩;have oX:x.l.length<2^32:=hp x (by rw[←hx];exact List.getElem_mem bO);obtain⟨p,jo⟩:∃p,p=ints x.l:=⟨_,rfl⟩
    have ec:aJ (Int.ofNat v) rows 1:=by rw[←aP,hr];exact aO bO rfl
    have bK:aI rows (Int.ofNat v)=[.sl p x.sp]:=by rw[←aQ,hr,aN bO,hx,jo];rfl
    have gq:aJ (Int.ofNat v) all 1:=by rw[←aP,gB];exact gY (by omega) (by rw[hW,List.map_map];exact aO (enc:=jD.enc∘jD.cV) bO rfl)
    have dT:aI all (Int.ofNat v)=[.sl p mk]:=by rw[←aQ,gB,gZ (by omega),hW,List.map_map,aN (enc:=jD.enc∘jD.cV) bO,hx,jo,fG];rfl
    refine aY ?_;refine ae gq ?_;rw[dT];refine gK ?_;refine ae ec ?_;rw[bK];refine gK ?_;refine bF (by cbv) (l9 jo fG oX) (fun _=>rfl) ?_;refine gK ?_;refine bp.af (fun hg=>?_) (fun hg=>?_)
    ·exfalso;subst_vars;simp at hg;omega
    ·refine aY ?_;refine ak ⟨aT,trivial,?_⟩;rw[wS ah aw (v:=v) (by omega)]
     cbv
   ·refine aY ?_
    have x7:l.length≤v:=by rw[←aC,←ag]at hf;simp at hf;omega
    refine bp.af (fun hg=>?_) (fun hg=>?_)
    ·obtain⟨w,qu⟩:∃w,w=v-l.length:=⟨_,rfl⟩
     have iJ:w<12:=by omega
     obtain⟨m,hm⟩:∃m,m=1000003*(1+7)+Int.ofNat w:=⟨_,rfl⟩
     have fu:bu .i64 (cP (Int.ofNat v) (b7 rows))=Int.ofNat w:=by
      rw[←ah,←cY,←ag];simp[hlen];rw[dy]<;>omega
     have mz:aF.tu (Int.ofNat w) (e::MK) 1:=by rw[ma];exact aO (by simpa using iJ) rfl
     have iK:aF.rat (e::MK) (Int.ofNat w)=[.sl [[.int .i64 m]] []]:=by
      rw[ma,aN (by simpa using iJ)];simp[jD.mark,jD.enc,ints,eY,hm]
     have ec:aJ (Int.ofNat v) all 1:=by rw[←aP,gB];exact fU (by omega) (by rw[cJ,←qu];exact mz)
     have bK:aI all (Int.ofNat v)=[.sl [[.int .i64 m]] []]:=by rw[←aQ,gB,fT (by omega),cJ,←qu];exact iK
     refine aY ?_;refine ae ec ?_;rw[bK];refine gK ?_;rw[fu];refine bF (by cbv) (qy hm (by omega) (by omega) (by simp) (by simp;omega)) (fun h=>by first|rfl|cases h) ?_;refine gK ?_;refine bF (by cbv) (kp (rows:=[[.int .i64 m]]) (l:=[GR w]) (by simp[ints,eY,hm]) (by simp)) (fun _=>rfl) ?_;refine gK ?_;refine ak ⟨aT,trivial,?_⟩;rw[wS ah aw (v:=v) (by omega)]
     cbv
    ·exfalso;subst_vars;simp at hg;omega
  ·refine aY ?_;refine ar rfl ?_;refine gK ?_;refine aX ?_;rfl
theorem B7 {s ssp w wsp S SM W WM:List (List PV)} {sl:List Stat} {wl:List jD} (hs:s=sl.map Stat.enc) (hw:w=wl.map jD.enc) (hS:S=(sl.map Stat.cV).map Stat.enc) (W9:SM=((List.range 12).map Stat.mark).map Stat.enc) (hW:W=(wl.map jD.cV).map jD.enc) (Xa:WM=((List.range 12).map jD.mark).map jD.enc)
  (oa:sl.length<2^32) (xG:wl.length<2^32) (mG:∀x∈sl,x.l.length<2^32) (JM:∀x∈wl,x.l.length<2^32):pC mx 18 [.agg [.sl s ssp,.sl w wsp]] (.agg [.sl S SM,.sl W WM]):=by
 refine pZ UM ?_
 iterate 129 intro _
 intro aB aU aV bC bA ag aC;refine gK ?_;refine ao (by cbv) (xA hs hS W9 oa mG) (fun h=>by first|rfl|cases h) ?_;refine gK ?_;refine ao (by cbv) (xD hw hW Xa xG JM) (fun h=>by first|rfl|cases h) ?_;refine gK ?_;refine aX ?_;rfl
theorem B8 {s ssp w wsp S SM W WM:List (List PV)} {sl:List Stat} {wl:List jD} (hs:s=sl.map Stat.enc) (hw:w=wl.map jD.enc) (hS:S=(sl.map Stat.cV).map Stat.enc) (hW:W=(wl.map jD.cV).map jD.enc)
  (oa:sl.length<2^32) (xG:wl.length<2^32) (mG:∀x∈sl,x.l.length<2^32) (JM:∀x∈wl,x.l.length<2^32):pC mx 73 [.agg [.sl S SM,.sl W WM],.agg [.sl s ssp,.sl w wsp]] (.bool true):=by
 refine pZ UU ?_
 iterate 129 intro _
 intro aB aU aV bC bA ag aC;refine gK ?_;refine ao (by cbv) (xB (f:=fun _=>((List.range 12).map aH.mark).map aH.enc) hs (by rw[hS,List.map_map];rfl) oa mG) (fun h=>by first|rfl|cases h) ?_;refine gK ?_;refine ao (by cbv) (xE (f:=fun _=>ints marks) hw (by rw[hW,List.map_map];rfl) xG JM) (fun h=>by first|rfl|cases h) ?_;refine gK ?_;refine aX ?_;rfl
theorem B9 {s ssp w wsp S SM W WM:List (List PV)} {sl:List Stat} {wl:List jD} (hs:s=sl.map Stat.enc) (hw:w=wl.map jD.enc) (hS:S=(sl.map Stat.cV).map Stat.enc) (W9:SM=((List.range 12).map Stat.mark).map Stat.enc) (hW:W=(wl.map jD.cV).map jD.enc) (Xa:WM=((List.range 12).map jD.mark).map jD.enc)
  (oa:sl.length<2^32) (xG:wl.length<2^32) (mG:∀x∈sl,x.l.length<2^32) (JM:∀x∈wl,x.l.length<2^32):pC mx 25 [.agg [.sl S SM,.sl W WM],.agg [.sl s ssp,.sl w wsp]] (.bool true):=by
 refine pZ UO ?_
 iterate 129 intro _
 intro aB aU aV bC bA ag aC;refine gK ?_;refine ao (by cbv) (B8 hs hw hS hW oa xG mG JM) (fun h=>by first|rfl|cases h) ?_;refine gK ?_;refine ao (by cbv) (xC hs hS W9 oa mG) (fun h=>by first|rfl|cases h) ?_;refine gK ?_;refine ao (by cbv) (xF hw hW Xa xG JM) (fun h=>by first|rfl|cases h) ?_;refine gK ?_;refine aX ?_;rfl
end Go.b8
end
