import Derived.Test.YtfaccbkibjkfjaaGreatDoorT08
import Derived.Test.YtfaccbkibjkfjaaGreatDoorT41
set_option linter.all false
set_option maxRecDepth 100000
set_option maxHeartbeats 1000000
section
open Go Go.Am Go.Proofs
attribute [local irreducible] Am.bp.holds bH fw bP ek
namespace Go.b8
variable {mx:Int}
theorem jC {k i m:Int} (hm:m=1000003*(k+7)+i) (hk:0≤k) (eR:k<2^30) (hi:0≤i) (gQ:i<2^30):pC mx 135 [.int .i64 k,.int .i64 i] (.int .i64 m):=by
 refine pZ Mf ?_
 iterate 129 intro _
 intro aB aU aV bC bA ag aC;refine gK ?_;refine aX ?_;subst_vars;simp only[di,kT,E3]
 congr 2
 rw[dy (n:=k+7),dy (n:=1000003*_),dy]<;>omega
theorem eY (v:Nat):GR v=1000003*(1+7)+Int.ofNat v:=by simp[GR]
@[simp] theorem W8:marks.length=12:=by simp[marks]
theorem l8 {rows sp:List (List PV)} {l:List Int} (hr:rows=l.map (fun(p:Int)=>[PV.int .i64 p])) (hl:l.length<2^32):pC mx 137 [.sl rows sp] (.sl rows (marks.map (fun(p:Int)=>[PV.int .i64 p]))):=by
 have hlen:rows.length=l.length:=by simp[hr]
 have bS:aK 1 rows:=by rw[hr];exact bl (enc:=(fun(p:Int)=>[PV.int .i64 p])) (fun _=>rfl) l
 have eL:fS 1 rows:=by rw[hr];exact iX (enc:=(fun(p:Int)=>[PV.int .i64 p])) (fun _=>⟨rfl,by simp⟩) l
 obtain⟨W,hW⟩:∃W,W=marks.map (fun(p:Int)=>[PV.int .i64 p]):=⟨_,rfl⟩
 have hWl:W.length=12:=by simp[hW]
 have fG:∀v,aK 1 (W.take v):=fun v r hr=>bl (enc:=(fun(p:Int)=>[PV.int .i64 p])) (n:=1) (fun _=>rfl) marks r (hW▸List.mem_of_mem_take hr)
 rw[←hW]
 clear hr
 refine pZ Mg ?_
 iterate 82 intro _
 intro eV
 iterate 34 intro _
 intro bJ _ _ _ _ aw _ ah _ _ _ _ aB aU aV bC bA ag aC;refine gK ?_;refine ae ?_ ?_
 ·subst_vars;simp;rw[dy]<;>omega
 rw[show eV 0 _=[] by subst_vars;rfl];refine gK ?_;refine ae ?_ ?_
 ·subst_vars;simp[eL];omega
 rw[show bJ [] rows=rows by subst_vars;rfl];refine gK ?_;refine bQ [0,3,4] (nn [8,8]) (fun v s=>s.put (some 4) (.pv (.int .i64 (Int.ofNat v)))|>.aq 8 (.rows 1 (rows++W.take v) 0)) (12) (fun k=>True) ?_;intro v hv hk
 try dsimp only
 generalize dA:rows++W.take v=cur;refine ej ?_;refine bp.af (fun hc=>?_) (fun hc=>?_)
 ·refine aY ?_
  have aT:v<12:=by subst_vars;simp at hc;omega
  obtain⟨m,hm⟩:∃m,m=1000003*(1+7)+Int.ofNat v:=⟨_,rfl⟩;refine ao (by cbv) (jC hm (by omega) (by omega) (by simp) (by simp;omega)) (fun _=>rfl) ?_;refine gK ?_;refine ae ?_ ?_
  ·subst_vars;simp[bS,hlen];exact⟨by omega,by omega,fG v⟩
  refine gK ?_;refine ak ⟨aT,trivial,?_⟩;rw[wS ah aw (v:=v) (by omega)]
  rw[show bJ cur [[.int .i64 m]]=rows++W.take (v+1) by
   subst_vars;rw[List.take_succ_eq_append_getElem (by simpa using aT)]
   simp[marks,ints,eY]]
  rfl
 ·refine aY ?_;refine ar rfl ?_;refine gK ?_;refine ae ?_ ?_
  ·subst_vars;simp[bS,fG]
   try omega
  ·refine gK ?_;refine aX ?_;subst_vars;simp at hc
   obtain rfl:v=12:=by omega
   rw[List.take_of_length_le (l:=marks.map (fun(p:Int)=>[PV.int .i64 p])) (by simp)];simp;rw[List.take_of_length_le];simp;omega
theorem kp {rows sp ta:List (List PV)} {l:List Int} (hr:rows=l.map (fun(p:Int)=>[PV.int .i64 p])) (hl:l.length<2^32):pC mx 154 [.sl rows sp,.sl rows ta] (.bool true):=by
 refine pZ Mh ?_
 iterate 122 intro _
 intro aw _ ah aI _ aJ _ aB aU aV bC bA ag aC;refine gK ?_;refine bp.af (fun hc=>?_) (fun hc=>?_)
 ·refine aY ?_;refine aX ?_;subst_vars;simp at hc
 ·refine aY ?_;refine bQ [0,1,5] [] (fun v s=>s.put (some 5) (.pv (.int .i64 (Int.ofNat v)))) (l.length) (fun k=>True) ?_;intro v hv hk;refine ej ?_;refine bp.af (fun hd=>?_) (fun hd=>?_)
  ·refine aY ?_
   have aT:v<l.length:=by subst_vars;simp at hd;omega
   obtain⟨x,hx⟩:∃x,l[v]=x:=⟨_,rfl⟩
   have ec:aJ (Int.ofNat v) rows 1:=by subst_vars;exact aO aT rfl
   have bK:aI rows (Int.ofNat v)=[.int .i64 x]:=by rw[←hx];subst_vars;exact aN aT
   repeat(refine ae ec ?_;rw[bK];refine gK ?_)
   refine bp.af (fun he=>?_) (fun he=>?_)
   ·exfalso;subst_vars;simp[bx]at he
   ·refine aY ?_;refine ak ⟨aT,trivial,?_⟩;rw[wS ah aw (v:=v) (by omega)];rfl
  ·refine aY ?_;refine ar rfl ?_;refine gK ?_;refine aX ?_;rfl
theorem l9 {rows mk sp:List (List PV)} {l:List Int} (hr:rows=l.map (fun(p:Int)=>[PV.int .i64 p])) (fG:mk=marks.map (fun(p:Int)=>[PV.int .i64 p])) (hl:l.length<2^32):pC mx 153 [.sl rows mk,.sl rows sp] (.bool true):=by
 have hlen:rows.length=l.length:=by simp[hr]
 have dY:mk.length=12:=by simp[fG]
 have bS:aK 1 rows:=by rw[hr];exact bl (enc:=(fun(p:Int)=>[PV.int .i64 p])) (fun _=>rfl) l
 have kq:aK 1 mk:=by rw[fG];exact bl (enc:=(fun(p:Int)=>[PV.int .i64 p])) (fun _=>rfl) _
 rcases mk with _|⟨e,mk⟩
 ·simp at dY
 refine pZ Mi ?_
 iterate 100 intro _
 intro iI _ _ _ _ _ _ _ eo _ _ _ _ _ dn b7 _ bJ bX cP cY df aw bu ah aI aQ aJ aP aB aU aV bC bA ag aC;refine gK ?_;refine bp.af (fun hc=>?_) (fun hc=>?_)
 ·refine aY ?_;refine aX ?_;subst_vars;simp at hc
 ·refine aY ?_
  have hw:bu .i64 (df (b7 rows) 12)=Int.ofNat (l.length+12):=by
   rw[←ah,←aw,←ag];simp[hlen];rw[dy]<;>omega
  rw[hw];generalize hN:l.length+12=N;refine ae ?_ ?_
  ·rw[←iI];simp[hlen,bS,←cN,kq]at dY ⊢;omega
  obtain⟨all,gB⟩:∃all,all=rows++e::mk:=⟨_,rfl⟩;rw[show eo (bJ rows (e::mk)) 0 (Int.ofNat N)=all by rw[←dn,←bX,gB];simp only[gX,dj,Int.toNat_zero,List.drop_zero,Nat.sub_zero];exact List.take_of_length_le (by simp[hlen]at dY ⊢;omega)]
  have qt:aK 1 all:=by rw[gB];simp[bS,←cN,kq]
  refine gK ?_;refine bQ [0,1,5,6] [] (fun v s=>s.put (some 6) (.pv (.int .i64 (Int.ofNat v)))) (N) (fun k=>True) ?_;intro v hv hk;refine ej ?_;refine bp.af (fun hd=>?_) (fun hd=>?_)
  ·refine aY ?_
   have aT:v<N:=by subst_vars;simp at hd;simp at dY;omega
   refine bp.af (fun hf=>?_) (fun hf=>?_)
   ·have bO:v<l.length:=by rw[←aC,←ag]at hf;simp at hf;omega
    obtain⟨x,hx⟩:∃x,l[v]=x:=⟨_,rfl⟩
    have ec:aJ (Int.ofNat v) rows 1:=by subst_vars;exact aO bO rfl
    have bK:aI rows (Int.ofNat v)=[.int .i64 x]:=by rw[←hx];subst_vars;exact aN bO
    have gq:aJ (Int.ofNat v) all 1:=by rw[←aP]at ec ⊢;rw[gB];exact gY (by omega) ec
    have dT:aI all (Int.ofNat v)=[.int .i64 x]:=by rw[←aQ]at bK ⊢;rw[gB,gZ (by omega)];exact bK
    refine aY ?_;refine ae gq ?_;rw[dT];refine gK ?_;refine ae ec ?_;rw[bK];refine gK ?_;refine bp.af (fun he=>?_) (fun he=>?_)
    ·refine aY ?_;refine aY ?_;refine bp.af (fun hg=>?_) (fun hg=>?_)
     ·exfalso;subst_vars;simp at hg;omega
     ·refine aY ?_;refine ak ⟨aT,trivial,?_⟩;rw[wS ah aw (v:=v) (by omega)];rfl
    ·exfalso;subst_vars;simp[bx]at he
   ·refine aY ?_
    have x7:l.length≤v:=by rw[←aC,←ag]at hf;simp at hf;omega
    refine bp.af (fun hg=>?_) (fun hg=>?_)
    ·obtain⟨w,qu⟩:∃w,w=v-l.length:=⟨_,rfl⟩
     have iJ:w<12:=by omega
     obtain⟨m,hm⟩:∃m,m=1000003*(1+7)+Int.ofNat w:=⟨_,rfl⟩
     have fu:bu .i64 (cP (Int.ofNat v) (b7 rows))=Int.ofNat w:=by
      rw[←ah,←cY,←ag];simp[hlen];rw[dy]<;>omega
     have mz:aF.tu (Int.ofNat w) (e::mk) 1:=by rw[fG];exact aO (by simpa using iJ) rfl
     have iK:aF.rat (e::mk) (Int.ofNat w)=[.int .i64 m]:=by
      rw[fG,aN (by simpa using iJ)];simp[marks,eY,hm]
     have ec:aJ (Int.ofNat v) all 1:=by rw[←aP,gB];exact fU (by omega) (by rw[hlen,←qu];exact mz)
     have bK:aI all (Int.ofNat v)=[.int .i64 m]:=by rw[←aQ,gB,fT (by omega),hlen,←qu];exact iK
     refine aY ?_;refine ae ec ?_;rw[bK];refine gK ?_;rw[fu];refine bF (by cbv) (jC hm (by omega) (by omega) (by simp) (by simp;omega)) (fun _=>rfl) ?_;refine gK ?_;refine bp.af (fun he=>?_) (fun he=>?_)
     ·refine aY ?_;refine aY ?_;refine ak ⟨aT,trivial,?_⟩;rw[wS ah aw (v:=v) (by omega)];rfl
     ·exfalso;subst_vars;simp[bx]at he
    ·exfalso;subst_vars;simp at hg;omega
  ·refine aY ?_;refine ar rfl ?_;refine gK ?_;refine aX ?_;rfl
theorem tY {k i m:Int} (hm:m=1000003*(k+7)+i) (hk:0≤k) (eR:k<2^30) (hi:0≤i) (gQ:i<2^30):pC mx 107 [.int .i64 k,.int .i64 i] (.agg [.int .i64 0,.int .i64 m,.int .i64 0,.int .i64 0,.int .i64 0]):=by
 refine pZ Mt ?_
 iterate 129 intro _
 intro aB aU aV bC bA ag aC;refine gK ?_;refine ao (by cbv) (jC hm hk eR hi gQ) (fun _=>rfl) ?_;refine gK ?_;refine aX ?_;rfl
theorem Lb:((List.range 12).map Row.qn).length=12:=by simp
theorem BX {rows sp:List (List PV)} {l:List Row} (hr:rows=l.map Row.enc) (hl:l.length<2^32):pC mx 44 [.sl rows sp] (.sl rows (((List.range 12).map Row.qn).map Row.enc)):=by
 have hlen:rows.length=l.length:=by simp[hr]
 have bS:aK 5 rows:=by rw[hr];exact bl (enc:=Row.enc) (fun _=>rfl) l
 have eL:fS 5 rows:=by rw[hr];exact iX (enc:=Row.enc) (fun _=>⟨rfl,by simp[Row.enc]⟩) l
 obtain⟨W,hW⟩:∃W,W=((List.range 12).map Row.qn).map Row.enc:=⟨_,rfl⟩
 have hWl:W.length=12:=by simp[hW]
 have fG:∀v,aK 5 (W.take v):=fun v r hr=>bl (enc:=Row.enc) (n:=5) (fun _=>rfl) ((List.range 12).map Row.qn) r (hW▸List.mem_of_mem_take hr)
 rw[←hW]
 clear hr
 refine pZ Ue ?_
 iterate 82 intro _
 intro eV
 iterate 34 intro _
 intro bJ _ _ _ _ aw _ ah _ _ _ _ aB aU aV bC bA ag aC;refine gK ?_;refine ae ?_ ?_
 ·subst_vars;simp;rw[dy]<;>omega
 rw[show eV 0 _=[] by subst_vars;rfl];refine gK ?_;refine ae ?_ ?_
 ·subst_vars;simp[eL];omega
 rw[show bJ [] rows=rows by subst_vars;rfl];refine gK ?_;refine bQ [0,3,4] (nn [8,8]) (fun v s=>s.put (some 4) (.pv (.int .i64 (Int.ofNat v)))|>.aq 8 (.rows 5 (rows++W.take v) 0)) (12) (fun k=>True) ?_;intro v hv hk
 try dsimp only
 generalize dA:rows++W.take v=cur;refine ej ?_;refine bp.af (fun hc=>?_) (fun hc=>?_)
 ·refine aY ?_
  have aT:v<12:=by subst_vars;simp at hc;omega
  obtain⟨m,hm⟩:∃m,m=1000003*(1+7)+Int.ofNat v:=⟨_,rfl⟩;refine ao (by cbv) (tY hm (by omega) (by omega) (by simp) (by simp;omega)) (fun _=>rfl) ?_;refine gK ?_;refine ae ?_ ?_
  ·subst_vars;simp[bS,hlen];exact⟨by omega,by omega,fG v⟩
  refine gK ?_;refine ak ⟨aT,trivial,?_⟩;rw[wS ah aw (v:=v) (by omega)]
  rw[show bJ cur [[.int .i64 0,.int .i64 m,.int .i64 0,.int .i64 0,.int .i64 0]]=rows++W.take (v+1) by
   subst_vars;rw[List.take_succ_eq_append_getElem (by simpa using aT)]
   simp[Row.qn,Row.enc,eY]]
  rfl
 ·refine aY ?_;refine ar rfl ?_;refine gK ?_;refine ae ?_ ?_
  ·subst_vars;simp[bS,fG]
   try omega
  ·refine gK ?_;refine aX ?_;subst_vars;simp at hc
   obtain rfl:v=12:=by omega
   rw[List.take_of_length_le (l:=((List.range 12).map Row.qn).map Row.enc) (by simp)];simp;rw[List.take_of_length_le];simp;omega
theorem BZ {rows sp ta:List (List PV)} {l:List Row} (hr:rows=l.map Row.enc) (hl:l.length<2^32):pC mx 120 [.sl rows sp,.sl rows ta] (.bool true):=by
 refine pZ Mu ?_
 iterate 122 intro _
 intro aw _ ah aI _ aJ _ aB aU aV bC bA ag aC;refine gK ?_;refine bp.af (fun hc=>?_) (fun hc=>?_)
 ·refine aY ?_;refine aX ?_;subst_vars;simp at hc
 ·refine aY ?_;refine bQ [0,1,5] [] (fun v s=>s.put (some 5) (.pv (.int .i64 (Int.ofNat v)))) (l.length) (fun k=>True) ?_;intro v hv hk;refine ej ?_;refine bp.af (fun hd=>?_) (fun hd=>?_)
  ·refine aY ?_
   have aT:v<l.length:=by subst_vars;simp at hd;omega
   obtain⟨x,hx⟩:∃x,l[v]=x:=⟨_,rfl⟩
   have ec:aJ (Int.ofNat v) rows 5:=by subst_vars;exact aO aT rfl
   have bK:aI rows (Int.ofNat v)=[.int .i64 x.a,.int .i64 x.b,.int .i64 x.c,.int .i64 x.d,.int .i64 x.e]:=by rw[←hx];subst_vars;exact aN aT
   repeat(refine ae ec ?_;rw[bK];refine gK ?_)
   refine bp.af (fun he=>?_) (fun he=>?_)
   ·exfalso;subst_vars;simp[bx]at he
   ·refine ae (by subst_vars;simp[aR]) ?_;refine gK ?_;refine ak ⟨aT,trivial,?_⟩;rw[wS ah aw (v:=v) (by omega)];rfl
  ·refine aY ?_;refine ar rfl ?_;refine gK ?_;refine aX ?_;rfl
theorem B0 {rows mk sp:List (List PV)} {l:List Row} (hr:rows=l.map Row.enc) (fG:mk=((List.range 12).map Row.qn).map Row.enc) (hl:l.length<2^32):pC mx 54 [.sl rows mk,.sl rows sp] (.bool true):=by
 have hlen:rows.length=l.length:=by simp[hr]
 have dY:mk.length=12:=by simp[fG]
 have bS:aK 5 rows:=by rw[hr];exact bl (enc:=Row.enc) (fun _=>rfl) l
 have kq:aK 5 mk:=by rw[fG];exact bl (enc:=Row.enc) (fun _=>rfl) _
 rcases mk with _|⟨e,mk⟩
 ·simp at dY
 refine pZ Uf ?_
 iterate 100 intro _
 intro iI _ _ _ _ _ _ _ eo _ _ _ _ _ dn b7 _ bJ bX cP cY df aw bu ah aI aQ aJ aP aB aU aV bC bA ag aC;refine gK ?_;refine bp.af (fun hc=>?_) (fun hc=>?_)
 ·refine aY ?_;refine aX ?_;subst_vars;simp at hc
 ·refine aY ?_
  have hw:bu .i64 (df (b7 rows) 12)=Int.ofNat (l.length+12):=by
   rw[←ah,←aw,←ag];simp[hlen];rw[dy]<;>omega
  rw[hw];generalize hN:l.length+12=N;refine ae ?_ ?_
  ·rw[←iI];simp[hlen,bS,←cN,kq]at dY ⊢;omega
  obtain⟨all,gB⟩:∃all,all=rows++e::mk:=⟨_,rfl⟩;rw[show eo (bJ rows (e::mk)) 0 (Int.ofNat N)=all by rw[←dn,←bX,gB];simp only[gX,dj,Int.toNat_zero,List.drop_zero,Nat.sub_zero];exact List.take_of_length_le (by simp[hlen]at dY ⊢;omega)]
  have qt:aK 5 all:=by rw[gB];simp[bS,←cN,kq]
  refine gK ?_;refine bQ [0,1,5,6] [] (fun v s=>s.put (some 6) (.pv (.int .i64 (Int.ofNat v)))) (N) (fun k=>True) ?_;intro v hv hk;refine ej ?_;refine bp.af (fun hd=>?_) (fun hd=>?_)
  ·refine aY ?_
   have aT:v<N:=by subst_vars;simp at hd;simp at dY;omega
   refine bp.af (fun hf=>?_) (fun hf=>?_)
   ·have bO:v<l.length:=by rw[←aC,←ag]at hf;simp at hf;omega
    obtain⟨x,hx⟩:∃x,l[v]=x:=⟨_,rfl⟩
    have ec:aJ (Int.ofNat v) rows 5:=by subst_vars;exact aO bO rfl
    have bK:aI rows (Int.ofNat v)=[.int .i64 x.a,.int .i64 x.b,.int .i64 x.c,.int .i64 x.d,.int .i64 x.e]:=by rw[←hx];subst_vars;exact aN bO
    have gq:aJ (Int.ofNat v) all 5:=by rw[←aP]at ec ⊢;rw[gB];exact gY (by omega) ec
    have dT:aI all (Int.ofNat v)=[.int .i64 x.a,.int .i64 x.b,.int .i64 x.c,.int .i64 x.d,.int .i64 x.e]:=by rw[←aQ]at bK ⊢;rw[gB,gZ (by omega)];exact bK
    refine aY ?_;refine ae gq ?_;rw[dT];refine gK ?_;refine ae ec ?_;rw[bK];refine gK ?_;refine bp.af (fun he=>?_) (fun he=>?_)
    ·refine ae (by subst_vars;simp[aR]) ?_;refine gK ?_;refine aY ?_;refine bp.af (fun hg=>?_) (fun hg=>?_)
     ·exfalso;subst_vars;simp at hg;omega
     ·refine aY ?_;refine ak ⟨aT,trivial,?_⟩;rw[wS ah aw (v:=v) (by omega)];rfl
    ·exfalso;subst_vars;simp[bx]at he
   ·refine aY ?_
    have x7:l.length≤v:=by rw[←aC,←ag]at hf;simp at hf;omega
    refine bp.af (fun hg=>?_) (fun hg=>?_)
    ·obtain⟨w,qu⟩:∃w,w=v-l.length:=⟨_,rfl⟩
     have iJ:w<12:=by omega
     obtain⟨m,hm⟩:∃m,m=1000003*(1+7)+Int.ofNat w:=⟨_,rfl⟩
     have fu:bu .i64 (cP (Int.ofNat v) (b7 rows))=Int.ofNat w:=by
      rw[←ah,←cY,←ag];simp[hlen];rw[dy]<;>omega
     have mz:aF.tu (Int.ofNat w) (e::mk) 5:=by rw[fG];exact aO (by simpa using iJ) rfl
     have iK:aF.rat (e::mk) (Int.ofNat w)=[.int .i64 0,.int .i64 m,.int .i64 0,.int .i64 0,.int .i64 0]:=by
      rw[fG,aN (by simpa using iJ)];simp[Row.qn,Row.enc,eY,hm]
     have ec:aJ (Int.ofNat v) all 5:=by rw[←aP,gB];exact fU (by omega) (by rw[hlen,←qu];exact mz)
     have bK:aI all (Int.ofNat v)=[.int .i64 0,.int .i64 m,.int .i64 0,.int .i64 0,.int .i64 0]:=by rw[←aQ,gB,fT (by omega),hlen,←qu];exact iK
     refine aY ?_;refine ae ec ?_;rw[bK];refine gK ?_;rw[fu];refine bF (by cbv) (tY hm (by omega) (by omega) (by simp) (by simp;omega)) (fun _=>rfl) ?_;refine gK ?_;refine bp.af (fun he=>?_) (fun he=>?_)
     ·refine ae (by subst_vars;simp[aR]) ?_;refine gK ?_;refine aY ?_;refine ak ⟨aT,trivial,?_⟩;rw[wS ah aw (v:=v) (by omega)];rfl
     ·exfalso;subst_vars;simp[bx]at he
    ·exfalso;subst_vars;simp at hg;omega
  ·refine aY ?_;refine ar rfl ?_;refine gK ?_;refine aX ?_;rfl
theorem qv {k i m:Int} (hm:m=1000003*(k+7)+i) (hk:0≤k) (eR:k<2^30) (hi:0≤i) (gQ:i<2^30):pC mx 108 [.int .i64 k,.int .i64 i] (.agg [.int .i64 m,.int .i64 0,.int .i64 0,.int .i64 0,.int .i64 0]):=by
 refine pZ Mv ?_
 iterate 129 intro _
 intro aB aU aV bC bA ag aC;refine gK ?_;refine ao (by cbv) (jC hm hk eR hi gQ) (fun _=>rfl) ?_;refine gK ?_;refine aX ?_;rfl
theorem HO:((List.range 12).map Row.qo).length=12:=by simp
theorem xp {rows sp:List (List PV)} {l:List Row} (hr:rows=l.map Row.enc) (hl:l.length<2^32):pC mx 45 [.sl rows sp] (.sl rows (((List.range 12).map Row.qo).map Row.enc)):=by
 have hlen:rows.length=l.length:=by simp[hr]
 have bS:aK 5 rows:=by rw[hr];exact bl (enc:=Row.enc) (fun _=>rfl) l
 have eL:fS 5 rows:=by rw[hr];exact iX (enc:=Row.enc) (fun _=>⟨rfl,by simp[Row.enc]⟩) l
 obtain⟨W,hW⟩:∃W,W=((List.range 12).map Row.qo).map Row.enc:=⟨_,rfl⟩
 have hWl:W.length=12:=by simp[hW]
 have fG:∀v,aK 5 (W.take v):=fun v r hr=>bl (enc:=Row.enc) (n:=5) (fun _=>rfl) ((List.range 12).map Row.qo) r (hW▸List.mem_of_mem_take hr)
 rw[←hW]
 clear hr
 refine pZ Ug ?_
 iterate 82 intro _
 intro eV
 iterate 34 intro _
 intro bJ _ _ _ _ aw _ ah _ _ _ _ aB aU aV bC bA ag aC;refine gK ?_;refine ae ?_ ?_
 ·subst_vars;simp;rw[dy]<;>omega
 rw[show eV 0 _=[] by subst_vars;rfl];refine gK ?_;refine ae ?_ ?_
 ·subst_vars;simp[eL];omega
 rw[show bJ [] rows=rows by subst_vars;rfl];refine gK ?_;refine bQ [0,3,4] (nn [8,8]) (fun v s=>s.put (some 4) (.pv (.int .i64 (Int.ofNat v)))|>.aq 8 (.rows 5 (rows++W.take v) 0)) (12) (fun k=>True) ?_;intro v hv hk
 try dsimp only
 generalize dA:rows++W.take v=cur;refine ej ?_;refine bp.af (fun hc=>?_) (fun hc=>?_)
 ·refine aY ?_
  have aT:v<12:=by subst_vars;simp at hc;omega
  obtain⟨m,hm⟩:∃m,m=1000003*(1+7)+Int.ofNat v:=⟨_,rfl⟩;refine ao (by cbv) (qv hm (by omega) (by omega) (by simp) (by simp;omega)) (fun _=>rfl) ?_;refine gK ?_;refine ae ?_ ?_
  ·subst_vars;simp[bS,hlen];exact⟨by omega,by omega,fG v⟩
  refine gK ?_;refine ak ⟨aT,trivial,?_⟩;rw[wS ah aw (v:=v) (by omega)]
  rw[show bJ cur [[.int .i64 m,.int .i64 0,.int .i64 0,.int .i64 0,.int .i64 0]]=rows++W.take (v+1) by
   subst_vars;rw[List.take_succ_eq_append_getElem (by simpa using aT)]
   simp[Row.qo,Row.enc,eY]]
  rfl
 ·refine aY ?_;refine ar rfl ?_;refine gK ?_;refine ae ?_ ?_
  ·subst_vars;simp[bS,fG]
   try omega
  ·refine gK ?_;refine aX ?_;subst_vars;simp at hc
   obtain rfl:v=12:=by omega
   rw[List.take_of_length_le (l:=((List.range 12).map Row.qo).map Row.enc) (by simp)];simp;rw[List.take_of_length_le];simp;omega
theorem xq {rows sp ta:List (List PV)} {l:List Row} (hr:rows=l.map Row.enc) (hl:l.length<2^32):pC mx 121 [.sl rows sp,.sl rows ta] (.bool true):=by
 refine pZ Mw ?_
 iterate 122 intro _
 intro aw _ ah aI _ aJ _ aB aU aV bC bA ag aC;refine gK ?_;refine bp.af (fun hc=>?_) (fun hc=>?_)
 ·refine aY ?_;refine aX ?_;subst_vars;simp at hc
 ·refine aY ?_;refine bQ [0,1,5] [] (fun v s=>s.put (some 5) (.pv (.int .i64 (Int.ofNat v)))) (l.length) (fun k=>True) ?_;intro v hv hk;refine ej ?_;refine bp.af (fun hd=>?_) (fun hd=>?_)
  ·refine aY ?_
   have aT:v<l.length:=by subst_vars;simp at hd;omega
   obtain⟨x,hx⟩:∃x,l[v]=x:=⟨_,rfl⟩
   have ec:aJ (Int.ofNat v) rows 5:=by subst_vars;exact aO aT rfl
   have bK:aI rows (Int.ofNat v)=[.int .i64 x.a,.int .i64 x.b,.int .i64 x.c,.int .i64 x.d,.int .i64 x.e]:=by rw[←hx];subst_vars;exact aN aT
   repeat(refine ae ec ?_;rw[bK];refine gK ?_)
   refine bp.af (fun he=>?_) (fun he=>?_)
   ·exfalso;subst_vars;simp[bx]at he
   ·refine ae (by subst_vars;simp[aR]) ?_;refine gK ?_;refine ak ⟨aT,trivial,?_⟩;rw[wS ah aw (v:=v) (by omega)];rfl
  ·refine aY ?_;refine ar rfl ?_;refine gK ?_;refine aX ?_;rfl
theorem xr {rows mk sp:List (List PV)} {l:List Row} (hr:rows=l.map Row.enc) (fG:mk=((List.range 12).map Row.qo).map Row.enc) (hl:l.length<2^32):pC mx 55 [.sl rows mk,.sl rows sp] (.bool true):=by
 have hlen:rows.length=l.length:=by simp[hr]
 have dY:mk.length=12:=by simp[fG]
 have bS:aK 5 rows:=by rw[hr];exact bl (enc:=Row.enc) (fun _=>rfl) l
 have kq:aK 5 mk:=by rw[fG];exact bl (enc:=Row.enc) (fun _=>rfl) _
 rcases mk with _|⟨e,mk⟩
 ·simp at dY
 refine pZ Uh ?_
 iterate 100 intro _
 intro iI _ _ _ _ _ _ _ eo _ _ _ _ _ dn b7 _ bJ bX cP cY df aw bu ah aI aQ aJ aP aB aU aV bC bA ag aC;refine gK ?_;refine bp.af (fun hc=>?_) (fun hc=>?_)
 ·refine aY ?_;refine aX ?_;subst_vars;simp at hc
 ·refine aY ?_
  have hw:bu .i64 (df (b7 rows) 12)=Int.ofNat (l.length+12):=by
   rw[←ah,←aw,←ag];simp[hlen];rw[dy]<;>omega
  rw[hw];generalize hN:l.length+12=N;refine ae ?_ ?_
  ·rw[←iI];simp[hlen,bS,←cN,kq]at dY ⊢;omega
  obtain⟨all,gB⟩:∃all,all=rows++e::mk:=⟨_,rfl⟩;rw[show eo (bJ rows (e::mk)) 0 (Int.ofNat N)=all by rw[←dn,←bX,gB];simp only[gX,dj,Int.toNat_zero,List.drop_zero,Nat.sub_zero];exact List.take_of_length_le (by simp[hlen]at dY ⊢;omega)]
  have qt:aK 5 all:=by rw[gB];simp[bS,←cN,kq]
  refine gK ?_;refine bQ [0,1,5,6] [] (fun v s=>s.put (some 6) (.pv (.int .i64 (Int.ofNat v)))) (N) (fun k=>True) ?_;intro v hv hk;refine ej ?_;refine bp.af (fun hd=>?_) (fun hd=>?_)
  ·refine aY ?_
   have aT:v<N:=by subst_vars;simp at hd;simp at dY;omega
   refine bp.af (fun hf=>?_) (fun hf=>?_)
   ·have bO:v<l.length:=by rw[←aC,←ag]at hf;simp at hf;omega
    obtain⟨x,hx⟩:∃x,l[v]=x:=⟨_,rfl⟩
    have ec:aJ (Int.ofNat v) rows 5:=by subst_vars;exact aO bO rfl
    have bK:aI rows (Int.ofNat v)=[.int .i64 x.a,.int .i64 x.b,.int .i64 x.c,.int .i64 x.d,.int .i64 x.e]:=by rw[←hx];subst_vars;exact aN bO
    have gq:aJ (Int.ofNat v) all 5:=by rw[←aP]at ec ⊢;rw[gB];exact gY (by omega) ec
    have dT:aI all (Int.ofNat v)=[.int .i64 x.a,.int .i64 x.b,.int .i64 x.c,.int .i64 x.d,.int .i64 x.e]:=by rw[←aQ]at bK ⊢;rw[gB,gZ (by omega)];exact bK
    refine aY ?_;refine ae gq ?_;rw[dT];refine gK ?_;refine ae ec ?_;rw[bK];refine gK ?_;refine bp.af (fun he=>?_) (fun he=>?_)
    ·refine ae (by subst_vars;simp[aR]) ?_;refine gK ?_;refine aY ?_;refine bp.af (fun hg=>?_) (fun hg=>?_)
     ·exfalso;subst_vars;simp at hg;omega
     ·refine aY ?_;refine ak ⟨aT,trivial,?_⟩;rw[wS ah aw (v:=v) (by omega)];rfl
    ·exfalso;subst_vars;simp[bx]at he
   ·refine aY ?_
    have x7:l.length≤v:=by rw[←aC,←ag]at hf;simp at hf;omega
    refine bp.af (fun hg=>?_) (fun hg=>?_)
    ·obtain⟨w,qu⟩:∃w,w=v-l.length:=⟨_,rfl⟩
     have iJ:w<12:=by omega
     obtain⟨m,hm⟩:∃m,m=1000003*(1+7)+Int.ofNat w:=⟨_,rfl⟩
     have fu:bu .i64 (cP (Int.ofNat v) (b7 rows))=Int.ofNat w:=by
      rw[←ah,←cY,←ag];simp[hlen];rw[dy]<;>omega
     have mz:aF.tu (Int.ofNat w) (e::mk) 5:=by rw[fG];exact aO (by simpa using iJ) rfl
     have iK:aF.rat (e::mk) (Int.ofNat w)=[.int .i64 m,.int .i64 0,.int .i64 0,.int .i64 0,.int .i64 0]:=by
      rw[fG,aN (by simpa using iJ)];simp[Row.qo,Row.enc,eY,hm]
     have ec:aJ (Int.ofNat v) all 5:=by rw[←aP,gB];exact fU (by omega) (by rw[hlen,←qu];exact mz)
     have bK:aI all (Int.ofNat v)=[.int .i64 m,.int .i64 0,.int .i64 0,.int .i64 0,.int .i64 0]:=by rw[←aQ,gB,fT (by omega),hlen,←qu];exact iK
     refine aY ?_;refine ae ec ?_;rw[bK];refine gK ?_;rw[fu];refine bF (by cbv) (qv hm (by omega) (by omega) (by simp) (by simp;omega)) (fun _=>rfl) ?_;refine gK ?_;refine bp.af (fun he=>?_) (fun he=>?_)
     ·refine ae (by subst_vars;simp[aR]) ?_;refine gK ?_;refine aY ?_;refine ak ⟨aT,trivial,?_⟩;rw[wS ah aw (v:=v) (by omega)];rfl
     ·exfalso;subst_vars;simp[bx]at he
    ·exfalso;subst_vars;simp at hg;omega
  ·refine aY ?_;refine ar rfl ?_;refine gK ?_;refine aX ?_;rfl
theorem r9 {k i m:Int} (hm:m=1000003*(k+7)+i) (hk:0≤k) (eR:k<2^30) (hi:0≤i) (gQ:i<2^30):pC mx 58 [.int .i64 k,.int .i64 i] (.agg [.int .i64 m,.str [],.int .u8 0,.bool false,.int .i64 0,.int .i64 0,.int .i64 0,.int .u8 0,.bool false]):=by
 refine pZ Uk ?_
 iterate 129 intro _
 intro aB aU aV bC bA ag aC;refine gK ?_;refine ao (by cbv) (jC hm hk eR hi gQ) (fun _=>rfl) ?_;refine gK ?_;refine aX ?_;rfl
theorem JK:((List.range 12).map b6.mark).length=12:=by simp
theorem sa {rows sp:List (List PV)} {l:List b6} (hr:rows=l.map b6.enc) (hl:l.length<2^32):pC mx 17 [.sl rows sp] (.sl rows (((List.range 12).map b6.mark).map b6.enc)):=by
 have hlen:rows.length=l.length:=by simp[hr]
 have bS:aK 9 rows:=by rw[hr];exact bl (enc:=b6.enc) (fun _=>rfl) l
 have eL:fS 9 rows:=by rw[hr];exact iX (enc:=b6.enc) (fun _=>⟨rfl,by simp[b6.enc]⟩) l
 obtain⟨W,hW⟩:∃W,W=((List.range 12).map b6.mark).map b6.enc:=⟨_,rfl⟩
 have hWl:W.length=12:=by simp[hW]
 have fG:∀v,aK 9 (W.take v):=fun v r hr=>bl (enc:=b6.enc) (n:=9) (fun _=>rfl) ((List.range 12).map b6.mark) r (hW▸List.mem_of_mem_take hr)
 rw[←hW]
 clear hr
 refine pZ Ul ?_
 iterate 82 intro _
 intro eV
 iterate 34 intro _
 intro bJ _ _ _ _ aw _ ah _ _ _ _ aB aU aV bC bA ag aC;refine gK ?_;refine ae ?_ ?_
 ·subst_vars;simp;rw[dy]<;>omega
 rw[show eV 0 _=[] by subst_vars;rfl];refine gK ?_;refine ae ?_ ?_
 ·subst_vars;simp[eL];omega
 rw[show bJ [] rows=rows by subst_vars;rfl];refine gK ?_;refine bQ [0,3,4] (nn [8,8]) (fun v s=>s.put (some 4) (.pv (.int .i64 (Int.ofNat v)))|>.aq 8 (.rows 9 (rows++W.take v) 0)) (12) (fun k=>True) ?_;intro v hv hk
 try dsimp only
 generalize dA:rows++W.take v=cur;refine ej ?_;refine bp.af (fun hc=>?_) (fun hc=>?_)
 ·refine aY ?_
  have aT:v<12:=by subst_vars;simp at hc;omega
  obtain⟨m,hm⟩:∃m,m=1000003*(1+7)+Int.ofNat v:=⟨_,rfl⟩;refine ao (by cbv) (r9 hm (by omega) (by omega) (by simp) (by simp;omega)) (fun _=>rfl) ?_;refine gK ?_;refine ae ?_ ?_
  ·subst_vars;simp[bS,hlen];exact⟨by omega,by omega,fG v⟩
  refine gK ?_;refine ak ⟨aT,trivial,?_⟩;rw[wS ah aw (v:=v) (by omega)]
  rw[show bJ cur [[.int .i64 m,.str [],.int .u8 0,.bool false,.int .i64 0,.int .i64 0,.int .i64 0,.int .u8 0,.bool false]]=rows++W.take (v+1) by
   subst_vars;rw[List.take_succ_eq_append_getElem (by simpa using aT)]
   simp[b6.mark,b6.enc,eY]]
  rfl
 ·refine aY ?_;refine ar rfl ?_;refine gK ?_;refine ae ?_ ?_
  ·subst_vars;simp[bS,fG]
   try omega
  ·refine gK ?_;refine aX ?_;subst_vars;simp at hc
   obtain rfl:v=12:=by omega
   rw[List.take_of_length_le (l:=((List.range 12).map b6.mark).map b6.enc) (by simp)];simp;rw[List.take_of_length_le];simp;omega
theorem zI {rows sp ta:List (List PV)} {l:List b6} (hr:rows=l.map b6.enc) (hl:l.length<2^32):pC mx 71 [.sl rows sp,.sl rows ta] (.bool true):=by
 refine pZ Ja ?_
 iterate 122 intro _
 intro aw _ ah aI _ aJ _ aB aU aV bC bA ag aC;refine gK ?_;refine bp.af (fun hc=>?_) (fun hc=>?_)
 ·refine aY ?_;refine aX ?_;subst_vars;simp at hc
 ·refine aY ?_;refine bQ [0,1,5] [] (fun v s=>s.put (some 5) (.pv (.int .i64 (Int.ofNat v)))) (l.length) (fun k=>True) ?_;intro v hv hk;refine ej ?_;refine bp.af (fun hd=>?_) (fun hd=>?_)
  ·refine aY ?_
   have aT:v<l.length:=by subst_vars;simp at hd;omega
   obtain⟨x,hx⟩:∃x,l[v]=x:=⟨_,rfl⟩
   have ec:aJ (Int.ofNat v) rows 9:=by subst_vars;exact aO aT rfl
   have bK:aI rows (Int.ofNat v)=[.int .i64 x.id,.str x.number,.int .u8 x.size,.bool x.high,.int .i64 x.cD,.int .i64 x.load,.int .i64 x.discharge,.int .u8 x.cls,.bool x.cK]:=by rw[←hx];subst_vars;exact aN aT
   repeat(refine ae ec ?_;rw[bK];refine gK ?_)
   refine bp.af (fun he=>?_) (fun he=>?_)
   ·exfalso;subst_vars;simp[bx]at he
   ·refine ae (by subst_vars;simp[aR]) ?_;refine gK ?_;refine ak ⟨aT,trivial,?_⟩;rw[wS ah aw (v:=v) (by omega)];rfl
  ·refine aY ?_;refine ar rfl ?_;refine gK ?_;refine aX ?_;rfl
theorem sc {rows mk sp:List (List PV)} {l:List b6} (hr:rows=l.map b6.enc) (fG:mk=((List.range 12).map b6.mark).map b6.enc) (hl:l.length<2^32):pC mx 24 [.sl rows mk,.sl rows sp] (.bool true):=by
 have hlen:rows.length=l.length:=by simp[hr]
 have dY:mk.length=12:=by simp[fG]
 have bS:aK 9 rows:=by rw[hr];exact bl (enc:=b6.enc) (fun _=>rfl) l
 have kq:aK 9 mk:=by rw[fG];exact bl (enc:=b6.enc) (fun _=>rfl) _
 rcases mk with _|⟨e,mk⟩
 ·simp at dY
 refine pZ Um ?_
 iterate 100 intro _
 intro iI _ _ _ _ _ _ _ eo _ _ _ _ _ dn b7 _ bJ bX cP cY df aw bu ah aI aQ aJ aP aB aU aV bC bA ag aC;refine gK ?_;refine bp.af (fun hc=>?_) (fun hc=>?_)
 ·refine aY ?_;refine aX ?_;subst_vars;simp at hc
 ·refine aY ?_
  have hw:bu .i64 (df (b7 rows) 12)=Int.ofNat (l.length+12):=by
   rw[←ah,←aw,←ag];simp[hlen];rw[dy]<;>omega
  rw[hw];generalize hN:l.length+12=N;refine ae ?_ ?_
  ·rw[←iI];simp[hlen,bS,←cN,kq]at dY ⊢;omega
  obtain⟨all,gB⟩:∃all,all=rows++e::mk:=⟨_,rfl⟩;rw[show eo (bJ rows (e::mk)) 0 (Int.ofNat N)=all by rw[←dn,←bX,gB];simp only[gX,dj,Int.toNat_zero,List.drop_zero,Nat.sub_zero];exact List.take_of_length_le (by simp[hlen]at dY ⊢;omega)]
  have qt:aK 9 all:=by rw[gB];simp[bS,←cN,kq]
  refine gK ?_;refine bQ [0,1,5,6] [] (fun v s=>s.put (some 6) (.pv (.int .i64 (Int.ofNat v)))) (N) (fun k=>True) ?_;intro v hv hk;refine ej ?_;refine bp.af (fun hd=>?_) (fun hd=>?_)
  ·refine aY ?_
   have aT:v<N:=by subst_vars;simp at hd;simp at dY;omega
   refine bp.af (fun hf=>?_) (fun hf=>?_)
   ·have bO:v<l.length:=by rw[←aC,←ag]at hf;simp at hf;omega
    obtain⟨x,hx⟩:∃x,l[v]=x:=⟨_,rfl⟩
    have ec:aJ (Int.ofNat v) rows 9:=by subst_vars;exact aO bO rfl
    have bK:aI rows (Int.ofNat v)=[.int .i64 x.id,.str x.number,.int .u8 x.size,.bool x.high,.int .i64 x.cD,.int .i64 x.load,.int .i64 x.discharge,.int .u8 x.cls,.bool x.cK]:=by rw[←hx];subst_vars;exact aN bO
    have gq:aJ (Int.ofNat v) all 9:=by rw[←aP]at ec ⊢;rw[gB];exact gY (by omega) ec
    have dT:aI all (Int.ofNat v)=[.int .i64 x.id,.str x.number,.int .u8 x.size,.bool x.high,.int .i64 x.cD,.int .i64 x.load,.int .i64 x.discharge,.int .u8 x.cls,.bool x.cK]:=by rw[←aQ]at bK ⊢;rw[gB,gZ (by omega)];exact bK
    refine aY ?_;refine ae gq ?_;rw[dT];refine gK ?_;refine ae ec ?_;rw[bK];refine gK ?_;refine bp.af (fun he=>?_) (fun he=>?_)
    ·refine ae (by subst_vars;simp[aR]) ?_;refine gK ?_;refine aY ?_;refine bp.af (fun hg=>?_) (fun hg=>?_)
     ·exfalso;subst_vars;simp at hg;omega
     ·refine aY ?_;refine ak ⟨aT,trivial,?_⟩;rw[wS ah aw (v:=v) (by omega)];rfl
    ·exfalso;subst_vars;simp[bx]at he
   ·refine aY ?_
    have x7:l.length≤v:=by rw[←aC,←ag]at hf;simp at hf;omega
    refine bp.af (fun hg=>?_) (fun hg=>?_)
    ·obtain⟨w,qu⟩:∃w,w=v-l.length:=⟨_,rfl⟩
     have iJ:w<12:=by omega
     obtain⟨m,hm⟩:∃m,m=1000003*(1+7)+Int.ofNat w:=⟨_,rfl⟩
     have fu:bu .i64 (cP (Int.ofNat v) (b7 rows))=Int.ofNat w:=by
      rw[←ah,←cY,←ag];simp[hlen];rw[dy]<;>omega
     have mz:aF.tu (Int.ofNat w) (e::mk) 9:=by rw[fG];exact aO (by simpa using iJ) rfl
     have iK:aF.rat (e::mk) (Int.ofNat w)=[.int .i64 m,.str [],.int .u8 0,.bool false,.int .i64 0,.int .i64 0,.int .i64 0,.int .u8 0,.bool false]:=by
      rw[fG,aN (by simpa using iJ)];simp[b6.mark,b6.enc,eY,hm]
     have ec:aJ (Int.ofNat v) all 9:=by rw[←aP,gB];exact fU (by omega) (by rw[hlen,←qu];exact mz)
     have bK:aI all (Int.ofNat v)=[.int .i64 m,.str [],.int .u8 0,.bool false,.int .i64 0,.int .i64 0,.int .i64 0,.int .u8 0,.bool false]:=by rw[←aQ,gB,fT (by omega),hlen,←qu];exact iK
     refine aY ?_;refine ae ec ?_;rw[bK];refine gK ?_;rw[fu];refine bF (by cbv) (r9 hm (by omega) (by omega) (by simp) (by simp;omega)) (fun _=>rfl) ?_;refine gK ?_;refine bp.af (fun he=>?_) (fun he=>?_)
     ·refine ae (by subst_vars;simp[aR]) ?_;refine gK ?_;refine aY ?_;refine ak ⟨aT,trivial,?_⟩;rw[wS ah aw (v:=v) (by omega)];rfl
     ·exfalso;subst_vars;simp[bx]at he
    ·exfalso;subst_vars;simp at hg;omega
  ·refine aY ?_;refine ar rfl ?_;refine gK ?_;refine aX ?_;rfl
theorem lE {k i m:Int} (hm:m=1000003*(k+7)+i) (hk:0≤k) (eR:k<2^30) (hi:0≤i) (gQ:i<2^30):pC mx 204 [.int .i64 k,.int .i64 i] (.agg [.int .i64 m,.int .i64 0,.int .i64 0,.int .u8 0]):=by
 refine pZ MC ?_
 iterate 129 intro _
 intro aB aU aV bC bA ag aC;refine gK ?_;refine ao (by cbv) (jC hm hk eR hi gQ) (fun _=>rfl) ?_;refine gK ?_;refine aX ?_;rfl
theorem Ha:((List.range 12).map aH.mark).length=12:=by simp
theorem o9 {rows sp:List (List PV)} {l:List aH} (hr:rows=l.map aH.enc) (hl:l.length<2^32):pC mx 111 [.sl rows sp] (.sl rows (((List.range 12).map aH.mark).map aH.enc)):=by
 have hlen:rows.length=l.length:=by simp[hr]
 have bS:aK 4 rows:=by rw[hr];exact bl (enc:=aH.enc) (fun _=>rfl) l
 have eL:fS 4 rows:=by rw[hr];exact iX (enc:=aH.enc) (fun _=>⟨rfl,by simp[aH.enc]⟩) l
 obtain⟨W,hW⟩:∃W,W=((List.range 12).map aH.mark).map aH.enc:=⟨_,rfl⟩
 have hWl:W.length=12:=by simp[hW]
 have fG:∀v,aK 4 (W.take v):=fun v r hr=>bl (enc:=aH.enc) (n:=4) (fun _=>rfl) ((List.range 12).map aH.mark) r (hW▸List.mem_of_mem_take hr)
 rw[←hW]
 clear hr
 refine pZ MD ?_
 iterate 82 intro _
 intro eV
 iterate 34 intro _
 intro bJ _ _ _ _ aw _ ah _ _ _ _ aB aU aV bC bA ag aC;refine gK ?_;refine ae ?_ ?_
 ·subst_vars;simp;rw[dy]<;>omega
 rw[show eV 0 _=[] by subst_vars;rfl];refine gK ?_;refine ae ?_ ?_
 ·subst_vars;simp[eL];omega
 rw[show bJ [] rows=rows by subst_vars;rfl];refine gK ?_;refine bQ [0,3,4] (nn [8,8]) (fun v s=>s.put (some 4) (.pv (.int .i64 (Int.ofNat v)))|>.aq 8 (.rows 4 (rows++W.take v) 0)) (12) (fun k=>True) ?_;intro v hv hk
 try dsimp only
 generalize dA:rows++W.take v=cur;refine ej ?_;refine bp.af (fun hc=>?_) (fun hc=>?_)
 ·refine aY ?_
  have aT:v<12:=by subst_vars;simp at hc;omega
  obtain⟨m,hm⟩:∃m,m=1000003*(1+7)+Int.ofNat v:=⟨_,rfl⟩;refine ao (by cbv) (lE hm (by omega) (by omega) (by simp) (by simp;omega)) (fun _=>rfl) ?_;refine gK ?_;refine ae ?_ ?_
  ·subst_vars;simp[bS,hlen];exact⟨by omega,by omega,fG v⟩
  refine gK ?_;refine ak ⟨aT,trivial,?_⟩;rw[wS ah aw (v:=v) (by omega)]
  rw[show bJ cur [[.int .i64 m,.int .i64 0,.int .i64 0,.int .u8 0]]=rows++W.take (v+1) by
   subst_vars;rw[List.take_succ_eq_append_getElem (by simpa using aT)]
   simp[aH.mark,aH.enc,eY]]
  rfl
 ·refine aY ?_;refine ar rfl ?_;refine gK ?_;refine ae ?_ ?_
  ·subst_vars;simp[bS,fG]
   try omega
  ·refine gK ?_;refine aX ?_;subst_vars;simp at hc
   obtain rfl:v=12:=by omega
   rw[List.take_of_length_le (l:=((List.range 12).map aH.mark).map aH.enc) (by simp)];simp;rw[List.take_of_length_le];simp;omega
theorem lF {rows sp ta:List (List PV)} {l:List aH} (hr:rows=l.map aH.enc) (hl:l.length<2^32):pC mx 72 [.sl rows sp,.sl rows ta] (.bool true):=by
 refine pZ Jb ?_
 iterate 122 intro _
 intro aw _ ah aI _ aJ _ aB aU aV bC bA ag aC;refine gK ?_;refine bp.af (fun hc=>?_) (fun hc=>?_)
 ·refine aY ?_;refine aX ?_;subst_vars;simp at hc
 ·refine aY ?_;refine bQ [0,1,5] [] (fun v s=>s.put (some 5) (.pv (.int .i64 (Int.ofNat v)))) (l.length) (fun k=>True) ?_;intro v hv hk;refine ej ?_;refine bp.af (fun hd=>?_) (fun hd=>?_)
  ·refine aY ?_
   have aT:v<l.length:=by subst_vars;simp at hd;omega
   obtain⟨x,hx⟩:∃x,l[v]=x:=⟨_,rfl⟩
   have ec:aJ (Int.ofNat v) rows 4:=by subst_vars;exact aO aT rfl
   have bK:aI rows (Int.ofNat v)=[.int .i64 x.box,.int .i64 x.slot.column,.int .i64 x.slot.hP,.int .u8 x.slot.half]:=by rw[←hx];subst_vars;exact aN aT
   repeat(refine ae ec ?_;rw[bK];refine gK ?_)
   refine bp.af (fun he=>?_) (fun he=>?_)
   ·exfalso;subst_vars;simp[bx]at he
   ·refine ae (by subst_vars;simp[aR]) ?_;refine gK ?_;refine ak ⟨aT,trivial,?_⟩;rw[wS ah aw (v:=v) (by omega)];rfl
  ·refine aY ?_;refine ar rfl ?_;refine gK ?_;refine aX ?_;rfl
theorem pd {rows mk sp:List (List PV)} {l:List aH} (hr:rows=l.map aH.enc) (fG:mk=((List.range 12).map aH.mark).map aH.enc) (hl:l.length<2^32):pC mx 117 [.sl rows mk,.sl rows sp] (.bool true):=by
 have hlen:rows.length=l.length:=by simp[hr]
 have dY:mk.length=12:=by simp[fG]
 have bS:aK 4 rows:=by rw[hr];exact bl (enc:=aH.enc) (fun _=>rfl) l
 have kq:aK 4 mk:=by rw[fG];exact bl (enc:=aH.enc) (fun _=>rfl) _
 rcases mk with _|⟨e,mk⟩
 ·simp at dY
 refine pZ ME ?_
 iterate 100 intro _
 intro iI _ _ _ _ _ _ _ eo _ _ _ _ _ dn b7 _ bJ bX cP cY df aw bu ah aI aQ aJ aP aB aU aV bC bA ag aC;refine gK ?_;refine bp.af (fun hc=>?_) (fun hc=>?_)
 ·refine aY ?_;refine aX ?_;subst_vars;simp at hc
 ·refine aY ?_
  have hw:bu .i64 (df (b7 rows) 12)=Int.ofNat (l.length+12):=by
   rw[←ah,←aw,←ag];simp[hlen];rw[dy]<;>omega
  rw[hw];generalize hN:l.length+12=N;refine ae ?_ ?_
  ·rw[←iI];simp[hlen,bS,←cN,kq]at dY ⊢;omega
  obtain⟨all,gB⟩:∃all,all=rows++e::mk:=⟨_,rfl⟩;rw[show eo (bJ rows (e::mk)) 0 (Int.ofNat N)=all by rw[←dn,←bX,gB];simp only[gX,dj,Int.toNat_zero,List.drop_zero,Nat.sub_zero];exact List.take_of_length_le (by simp[hlen]at dY ⊢;omega)]
  have qt:aK 4 all:=by rw[gB];simp[bS,←cN,kq]
  refine gK ?_;refine bQ [0,1,5,6] [] (fun v s=>s.put (some 6) (.pv (.int .i64 (Int.ofNat v)))) (N) (fun k=>True) ?_;intro v hv hk;refine ej ?_;refine bp.af (fun hd=>?_) (fun hd=>?_)
  ·refine aY ?_
   have aT:v<N:=by subst_vars;simp at hd;simp at dY;omega
   refine bp.af (fun hf=>?_) (fun hf=>?_)
   ·have bO:v<l.length:=by rw[←aC,←ag]at hf;simp at hf;omega
    obtain⟨x,hx⟩:∃x,l[v]=x:=⟨_,rfl⟩
    have ec:aJ (Int.ofNat v) rows 4:=by subst_vars;exact aO bO rfl
    have bK:aI rows (Int.ofNat v)=[.int .i64 x.box,.int .i64 x.slot.column,.int .i64 x.slot.hP,.int .u8 x.slot.half]:=by rw[←hx];subst_vars;exact aN bO
    have gq:aJ (Int.ofNat v) all 4:=by rw[←aP]at ec ⊢;rw[gB];exact gY (by omega) ec
    have dT:aI all (Int.ofNat v)=[.int .i64 x.box,.int .i64 x.slot.column,.int .i64 x.slot.hP,.int .u8 x.slot.half]:=by rw[←aQ]at bK ⊢;rw[gB,gZ (by omega)];exact bK
    refine aY ?_;refine ae gq ?_;rw[dT];refine gK ?_;refine ae ec ?_;rw[bK];refine gK ?_;refine bp.af (fun he=>?_) (fun he=>?_)
    ·refine ae (by subst_vars;simp[aR]) ?_;refine gK ?_;refine aY ?_;refine bp.af (fun hg=>?_) (fun hg=>?_)
     ·exfalso;subst_vars;simp at hg;omega
     ·refine aY ?_;refine ak ⟨aT,trivial,?_⟩;rw[wS ah aw (v:=v) (by omega)];rfl
    ·exfalso;subst_vars;simp[bx]at he
   ·refine aY ?_
    have x7:l.length≤v:=by rw[←aC,←ag]at hf;simp at hf;omega
    refine bp.af (fun hg=>?_) (fun hg=>?_)
    ·obtain⟨w,qu⟩:∃w,w=v-l.length:=⟨_,rfl⟩
     have iJ:w<12:=by omega
     obtain⟨m,hm⟩:∃m,m=1000003*(1+7)+Int.ofNat w:=⟨_,rfl⟩
     have fu:bu .i64 (cP (Int.ofNat v) (b7 rows))=Int.ofNat w:=by
      rw[←ah,←cY,←ag];simp[hlen];rw[dy]<;>omega
     have mz:aF.tu (Int.ofNat w) (e::mk) 4:=by rw[fG];exact aO (by simpa using iJ) rfl
     have iK:aF.rat (e::mk) (Int.ofNat w)=[.int .i64 m,.int .i64 0,.int .i64 0,.int .u8 0]:=by
      rw[fG,aN (by simpa using iJ)];simp[aH.mark,aH.enc,eY,hm]
     have ec:aJ (Int.ofNat v) all 4:=by rw[←aP,gB];exact fU (by omega) (by rw[hlen,←qu];exact mz)
     have bK:aI all (Int.ofNat v)=[.int .i64 m,.int .i64 0,.int .i64 0,.int .u8 0]:=by rw[←aQ,gB,fT (by omega),hlen,←qu];exact iK
     refine aY ?_;refine ae ec ?_;rw[bK];refine gK ?_;rw[fu];refine bF (by cbv) (lE hm (by omega) (by omega) (by simp) (by simp;omega)) (fun _=>rfl) ?_;refine gK ?_;refine bp.af (fun he=>?_) (fun he=>?_)
     ·refine ae (by subst_vars;simp[aR]) ?_;refine gK ?_;refine aY ?_;refine ak ⟨aT,trivial,?_⟩;rw[wS ah aw (v:=v) (by omega)];rfl
     ·exfalso;subst_vars;simp[bx]at he
    ·exfalso;subst_vars;simp at hg;omega
  ·refine aY ?_;refine ar rfl ?_;refine gK ?_;refine aX ?_;rfl
end Go.b8
end
section
open Go Go.Am Go.Proofs
attribute [local irreducible] Am.bp.holds bH fw bP ek
namespace Go.b8
variable {mx:Int}
theorem pg {k i m:Int} (hm:m=1000003*(k+7)+i) (hk:0≤k) (eR:k<2^30) (hi:0≤i) (gQ:i<2^30):pC mx 104 [.int .i64 k,.int .i64 i] (.agg [.int .i64 m,.int .i64 0,.bool false,.int .i64 0,.int .i64 0,.int .i64 0,.int .i64 0,.int .i64 0,.sl [] [],.int .i64 0,.int .i64 0,.int .i64 0]):=by
 refine pZ Mk ?_
 iterate 129 intro _
 intro aB aU aV bC bA ag aC;refine gK ?_;refine ao (by cbv) (jC hm hk eR hi gQ) (fun _=>rfl) ?_;refine gK ?_;refine aX ?_;rfl
theorem xu {p sp mk:List (List PV)} {x:aL} (hp:p=ints x.cq) (fG:mk=ints marks) (hl:x.cq.length<2^32):pC mx 103 [.agg [.int .i64 x.jj,.int .i64 x.row,.bool x.iZ,.int .i64 x.dv,.int .i64 x.dk,.int .i64 x.tT,.int .i64 x.tU,.int .i64 x.kj,.sl p sp,.int .i64 x.x,.int .i64 x.y,.int .i64 x.z]] (.agg [.int .i64 x.jj,.int .i64 x.row,.bool x.iZ,.int .i64 x.dv,.int .i64 x.dk,.int .i64 x.tT,.int .i64 x.tU,.int .i64 x.kj,.sl p mk,.int .i64 x.x,.int .i64 x.y,.int .i64 x.z]):=by
 refine pZ Mj ?_
 iterate 129 intro _
 intro aB aU aV bC bA ag aC;refine gK ?_;refine ao (by cbv) (show bE _ _ _ [.sl p sp] (.sl p mk) by rw[fG];exact l8 hp hl) (fun h=>by cases h) ?_;refine gK ?_;refine aX ?_;rfl
theorem mA {p sp ta:List (List PV)} {x:aL} (hp:p=ints x.cq) (hl:x.cq.length<2^32):pC mx 124 [.agg [.int .i64 x.jj,.int .i64 x.row,.bool x.iZ,.int .i64 x.dv,.int .i64 x.dk,.int .i64 x.tT,.int .i64 x.tU,.int .i64 x.kj,.sl p sp,.int .i64 x.x,.int .i64 x.y,.int .i64 x.z],.agg [.int .i64 x.jj,.int .i64 x.row,.bool x.iZ,.int .i64 x.dv,.int .i64 x.dk,.int .i64 x.tT,.int .i64 x.tU,.int .i64 x.kj,.sl p ta,.int .i64 x.x,.int .i64 x.y,.int .i64 x.z]] (.bool true):=by
 cases hdk:x.iZ
 all_goals
  refine pZ Mm ?_
  iterate 129 intro _
  intro aB aU aV bC bA ag aC;refine gK ?_
  repeat(refine bp.af (fun hc=>?_) (fun hc=>by exfalso;subst_vars;simp at hc);refine aY ?_)
  refine ao (by cbv) (kp hp hl) (fun _=>rfl) ?_;refine gK ?_
  repeat(refine bp.af (fun hc=>?_) (fun hc=>by exfalso;subst_vars;simp at hc);refine aY ?_)
  refine aX ?_;rfl
theorem xv {p sp mk:List (List PV)} {x:aL} (hp:p=ints x.cq) (fG:mk=ints marks) (hl:x.cq.length<2^32):pC mx 123 [.agg [.int .i64 x.jj,.int .i64 x.row,.bool x.iZ,.int .i64 x.dv,.int .i64 x.dk,.int .i64 x.tT,.int .i64 x.tU,.int .i64 x.kj,.sl p mk,.int .i64 x.x,.int .i64 x.y,.int .i64 x.z],.agg [.int .i64 x.jj,.int .i64 x.row,.bool x.iZ,.int .i64 x.dv,.int .i64 x.dk,.int .i64 x.tT,.int .i64 x.tU,.int .i64 x.kj,.sl p sp,.int .i64 x.x,.int .i64 x.y,.int .i64 x.z]] (.bool true):=by
 refine pZ Mn ?_
 iterate 129 intro _
 intro aB aU aV bC bA ag aC;refine gK ?_;refine ao (by cbv) (mA hp hl) (fun _=>rfl) ?_;refine gK ?_;refine ao (by cbv) (l9 hp fG hl) (fun _=>rfl) ?_;refine gK ?_;refine aX ?_;rfl
theorem qw {k i m:Int} (hm:m=1000003*(k+7)+i) (hk:0≤k) (eR:k<2^30) (hi:0≤i) (gQ:i<2^30):pC mx 106 [.int .i64 k,.int .i64 i] (.agg [.int .i64 m,.sl [] []]):=by
 refine pZ Mp ?_
 iterate 129 intro _
 intro aB aU aV bC bA ag aC;refine gK ?_;refine ao (by cbv) (jC hm hk eR hi gQ) (fun _=>rfl) ?_;refine gK ?_;refine aX ?_;rfl
theorem zJ {p sp mk:List (List PV)} {x:bz} (hp:p=ints x.rows) (fG:mk=ints marks) (hl:x.rows.length<2^32):pC mx 105 [.agg [.int .i64 x.jj,.sl p sp]] (.agg [.int .i64 x.jj,.sl p mk]):=by
 refine pZ Mo ?_
 iterate 129 intro _
 intro aB aU aV bC bA ag aC;refine gK ?_;refine ao (by cbv) (show bE _ _ _ [.sl p sp] (.sl p mk) by rw[fG];exact l8 hp hl) (fun h=>by cases h) ?_;refine gK ?_;refine aX ?_;rfl
theorem nP {p sp ta:List (List PV)} {x:bz} (hp:p=ints x.rows) (hl:x.rows.length<2^32):pC mx 126 [.agg [.int .i64 x.jj,.sl p sp],.agg [.int .i64 x.jj,.sl p ta]] (.bool true):=by
  refine pZ Mr ?_
  iterate 129 intro _
  intro aB aU aV bC bA ag aC;refine gK ?_
  repeat(refine bp.af (fun hc=>?_) (fun hc=>by exfalso;subst_vars;simp at hc);refine aY ?_)
  refine ao (by cbv) (kp hp hl) (fun _=>rfl) ?_;refine gK ?_
  repeat(refine bp.af (fun hc=>?_) (fun hc=>by exfalso;subst_vars;simp at hc);refine aY ?_)
  refine aX ?_;rfl
theorem zK {p sp mk:List (List PV)} {x:bz} (hp:p=ints x.rows) (fG:mk=ints marks) (hl:x.rows.length<2^32):pC mx 125 [.agg [.int .i64 x.jj,.sl p mk],.agg [.int .i64 x.jj,.sl p sp]] (.bool true):=by
 refine pZ Ms ?_
 iterate 129 intro _
 intro aB aU aV bC bA ag aC;refine gK ?_;refine ao (by cbv) (nP hp hl) (fun _=>rfl) ?_;refine gK ?_;refine ao (by cbv) (l9 hp fG hl) (fun _=>rfl) ?_;refine gK ?_;refine aX ?_;rfl
theorem se {k i m:Int} (hm:m=1000003*(k+7)+i) (hk:0≤k) (eR:k<2^30) (hi:0≤i) (gQ:i<2^30):pC mx 110 [.int .i64 k,.int .i64 i] (.agg [.int .i64 m,.int .i64 0,.int .i64 0,.int .i64 0,.int .i64 0,.sl [] []]):=by
 refine pZ My ?_
 iterate 129 intro _
 intro aB aU aV bC bA ag aC;refine gK ?_;refine ao (by cbv) (jC hm hk eR hi gQ) (fun _=>rfl) ?_;refine gK ?_;refine aX ?_;rfl
theorem B1 {p sp mk:List (List PV)} {x:eg} (hp:p=ints x.steps) (fG:mk=ints marks) (hl:x.steps.length<2^32):pC mx 109 [.agg [.int .i64 x.cD,.int .i64 x.x,.int .i64 x.y,.int .i64 x.z,.int .i64 x.ir,.sl p sp]] (.agg [.int .i64 x.cD,.int .i64 x.x,.int .i64 x.y,.int .i64 x.z,.int .i64 x.ir,.sl p mk]):=by
 refine pZ Mx ?_
 iterate 129 intro _
 intro aB aU aV bC bA ag aC;refine gK ?_;refine ao (by cbv) (show bE _ _ _ [.sl p sp] (.sl p mk) by rw[fG];exact l8 hp hl) (fun h=>by cases h) ?_;refine gK ?_;refine aX ?_;rfl
theorem ph {p sp ta:List (List PV)} {x:eg} (hp:p=ints x.steps) (hl:x.steps.length<2^32):pC mx 128 [.agg [.int .i64 x.cD,.int .i64 x.x,.int .i64 x.y,.int .i64 x.z,.int .i64 x.ir,.sl p sp],.agg [.int .i64 x.cD,.int .i64 x.x,.int .i64 x.y,.int .i64 x.z,.int .i64 x.ir,.sl p ta]] (.bool true):=by
  refine pZ MA ?_
  iterate 129 intro _
  intro aB aU aV bC bA ag aC;refine gK ?_
  repeat(refine bp.af (fun hc=>?_) (fun hc=>by exfalso;subst_vars;simp at hc);refine aY ?_)
  refine ao (by cbv) (kp hp hl) (fun _=>rfl) ?_;refine gK ?_
  repeat(refine bp.af (fun hc=>?_) (fun hc=>by exfalso;subst_vars;simp at hc);refine aY ?_)
  refine aX ?_;rfl
theorem B2 {p sp mk:List (List PV)} {x:eg} (hp:p=ints x.steps) (fG:mk=ints marks) (hl:x.steps.length<2^32):pC mx 127 [.agg [.int .i64 x.cD,.int .i64 x.x,.int .i64 x.y,.int .i64 x.z,.int .i64 x.ir,.sl p mk],.agg [.int .i64 x.cD,.int .i64 x.x,.int .i64 x.y,.int .i64 x.z,.int .i64 x.ir,.sl p sp]] (.bool true):=by
 refine pZ MB ?_
 iterate 129 intro _
 intro aB aU aV bC bA ag aC;refine gK ?_;refine ao (by cbv) (ph hp hl) (fun _=>rfl) ?_;refine gK ?_;refine ao (by cbv) (l9 hp fG hl) (fun _=>rfl) ?_;refine gK ?_;refine aX ?_;rfl
end Go.b8
end
