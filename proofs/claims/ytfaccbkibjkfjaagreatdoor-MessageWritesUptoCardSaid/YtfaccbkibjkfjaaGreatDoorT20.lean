import Derived.Test.YtfaccbkibjkfjaaGreatDoorT18
import Derived.Test.YtfaccbkibjkfjaaGreatDoorT17
import Derived.Test.YtfaccbkibjkfjaaGreatDoorT47
import Derived.Test.YtfaccbkibjkfjaaGreatDoorT41
import Derived.Test.YtfaccbkibjkfjaaGreatDoorT13
import Derived.Test.YtfaccbkibjkfjaaGreatDoorT14
import Derived.Test.YtfaccbkibjkfjaaGreatDoorT12
set_option linter.all false
set_option maxRecDepth 100000
set_option maxHeartbeats 1000000
section
open Go Go.Am Go.Proofs
attribute [local irreducible] Am.bl.holds bA fw bC dv
namespace Go.bW
variable {mx:Int}
open Classical
theorem ID {f:FuncId} {cs:List PV} {rows sp:List (List PV)} {l:List cE} {p:Nat→Bool} {r:Bool} (cq:rows=l.map cE.enc) (hl:l.length<2^32) (hf:∀k (h:k<l.length),pC mx f [.agg l[k].enc,.ptr cs] (.bool (p k))) (hr:r=decide (∃k,k<l.length∧p k=true)):
  pC mx 94 [.sl rows sp,.gZ f [.ptr cs]] (.bool r):=by
 obtain⟨q,hq⟩:=fQ.ex (fun k=>p k=true) l.length;have lI:=Ab (mx:=mx) (sp:=sp) cq hl hf hq;have fV:=hq.iff;refine pZ KQ ?_
 iterate 129 intro _
 intro aB aV aW bp bu ah aD;refine gK ?_;refine an (by cbv) lI (fun h=>by first|rfl|cases h) ?_;refine gK ?_;refine bl.af (fun h1=>?_) (fun h1=>?_)
 ·replace h1:=eT h1
  refine aN ?_;exact tr hr (fV.1 h1)
 ·replace h1:=eT h1
  refine aN ?_;exact fa hr (fun h=>by have:=fV.2 h;omega)
theorem Fw {x:cE} {cs:List PV} {call:Int} {port:List UInt8} {rows sp bF bsp:List (List PV)} (kh:cs=x.enc) {r:Bool} (hr:r= !decide (nx x call)):pC mx 95 [.agg cs,.ptr [.int .i64 call,.str port,.sl bF bsp,.sl rows sp]] (.bool r):=by
 have Ja:=Iw (mx:=mx) (x:=x) (k:=call) kh rfl;subst kh;obtain⟨V2,num,size,high,ca,load,nC,cls,bS⟩:=x;obtain⟨B,hB⟩:∃B,B=decide (nx ⟨V2,num,size,high,ca,load,nC,cls,bS⟩ call):=⟨_,rfl⟩;rw[←hB]at Ja hr
 change pC mx 66 [.agg [.int .i64 V2,.str num,.int .u8 size,.bool high,.int .i64 ca,.int .i64 load,.int .i64 nC,.int .u8 cls,.bool bS],.int .i64 call] (.bool B)at Ja
 show pC mx 95 [.agg [.int .i64 V2,.str num,.int .u8 size,.bool high,.int .i64 ca,.int .i64 load,.int .i64 nC,.int .u8 cls,.bool bS],.ptr [.int .i64 call,.str port,.sl bF bsp,.sl rows sp]] (.bool r)
 clear hB
 refine pZ KS ?_
 iterate 129 intro _
 intro aB aV aW bp bu ah aD;refine gK ?_;refine bX (by cbv) Ja (fun h=>?_) (fun h=>?_)
 ·refine gK ?_;refine aN ?_;rw[hr,h];rfl
 ·refine gK ?_;refine aN ?_;rw[hr,h];rfl
theorem DB {c csp vv vsp r rsp f fsp t tsp:List (List PV)} {l1 l2 l3 l4 m1 m2 m3 m4:Int} {rows sp bF bsp:List (List PV)} {cl:List aM} {vl:List bq} {l:List aT} {boxes:List cE} {call:Int} {port:List UInt8} {res:Bool} (ff:c=cl.map aM.enc) (lU:vv=vl.map bq.enc) (mj:cl.length<2^32) (rP:vl.length<2^32) (oc:∀x∈cl,x.b9.length<2^32) (rv:∀x∈vl,x.rows.length<2^16)
  (cq:rows=l.map aT.enc) (gN:bF=boxes.map cE.enc) (hl:l.length<2^32) (ph:boxes.length<2^32) (oC:∀b∈boxes,mw b) (bL:∀x∈l,kF x) (hr:res=decide (fO cl vl call port boxes l)):
  pC mx 38 [.agg [.sl c csp,.sl vv vsp,.int .i64 l1,.int .i64 l2,.int .i64 l3,.int .i64 l4,.sl r rsp,.sl f fsp,.sl t tsp,.int .i64 m1,.int .i64 m2,.int .i64 m3,.int .i64 m4],.agg [.int .i64 call,.str port,.sl bF bsp,.sl rows sp]] (.bool res):=by
 have zX:rows.length=l.length:=by simp[cq]
 have GP:bF.length=boxes.length:=by simp[gN]
 obtain⟨i,e,mO⟩:=vA boxes;have fV:=mO.iff;have Pr:=ID (mx:=mx) (f:=95) (cs:=[.int .i64 call,.str port,.sl bF bsp,.sl rows sp]) (sp:=bsp) (p:=fun k=>if h:k<boxes.length then !decide (nx boxes[k] call)else false) (r:=decide (∃k,k<boxes.length∧(if h:k<boxes.length then !decide (nx boxes[k] call)else false)=true)) gN ph (fun k h=>Fw (x:=boxes[k]) rfl (by simp only[h,dif_pos])) rfl
 have hex:(∃k,k<boxes.length∧(if h:k<boxes.length then !decide (nx boxes[k] call)else false)=true)↔¬∀k,(h:k<boxes.length)→nx boxes[k] call:=by
  constructor
  ·rintro⟨k,hk,h⟩ h';simp only[hk,dif_pos]at h;simp[h' k hk]at h
  ·intro h
   refine Classical.byContradiction fun hn=>h fun k hk=>Classical.byContradiction fun ha=>hn ⟨k,hk,?_⟩
   simp only[hk,dif_pos];simp[ha]
 refine pZ EX ?_
 iterate 129 intro _
 intro aB aV aW bp bu ah aD;refine gK ?_;refine bl.af (fun h1=>?_) (fun h1=>?_)
 ·replace h1:=eT h1
  refine dp ?_;refine aN ?_;exact fa hr (fun h=>by have:=h.1;omega)
 ·replace h1:=eT h1
  refine dp ?_;refine bl.af (fun h2=>?_) (fun h2=>?_)
  ·replace h2:=eT h2
   refine dp ?_;refine aN ?_;exact fa hr (fun h=>by have:=h.1;omega)
  ·replace h2:=eT h2
   refine dp ?_;refine bX (by cbv) (Po (a:=0) (d:=0) rfl) (fun h=>?_) (fun h=>?_)<;>simp only[decide_eq_true_eq,decide_eq_false_iff_not]at h
   ·have zZ:=h.1;refine gK ?_;refine bl.af (fun h3=>?_) (fun h3=>?_)
    ·replace h3:=eT h3
     refine dp ?_;refine aN ?_;exact fa hr (fun h=>by have:=h.2.2.1;omega)
    ·replace h3:=eT h3
     refine dp ?_;refine an (by cbv) (Lh gN mO) (fun h=>by first|rfl|cases h) ?_;refine gK ?_;refine bl.af (fun h4=>?_) (fun h4=>?_)
     ·replace h4:=eT h4
      refine dp ?_;refine aN ?_;exact fa hr (fun h=>h4 (fV.2 h.2.2.2.1))
     ·replace h4:=eT h4
      have Pd:mq boxes:=fV.1 h4;refine dp ?_;refine bX (by cbv) (Pm (fun hq=>BK ff lU mj rP oc rv hq) ff mj cq gN hl ph oC bL rfl) (fun h=>?_) (fun h=>?_)<;>simp only[decide_eq_true_eq,decide_eq_false_iff_not]at h
      ·have tE:=h;refine gK ?_;refine bX (by cbv) Pr (fun h=>?_) (fun h=>?_)<;>simp only[decide_eq_true_eq,decide_eq_false_iff_not]at h
       ·refine gK ?_;refine aN ?_;exact fa hr (fun h'=>hex.1 h h'.2.2.2.2.2)
       ·refine gK ?_;refine aN ?_;refine tr hr ⟨by omega,zZ,by omega,Pd,tE,fun i hi=>Classical.byContradiction fun ha=>h (hex.2 fun h'=>ha (h' i hi))⟩
      ·refine gK ?_;refine aN ?_;exact fa hr (fun h'=>h h'.2.2.2.2.1)
   ·refine gK ?_;refine aN ?_;exact fa hr (fun h'=>h ⟨h'.2.1,by omega,by omega⟩)
end Go.bW
end
section
open Go Go.Am Go.Proofs
attribute [local irreducible] Am.bl.holds bA fw bC dv
namespace Go.bW
variable {mx:Int}
open Classical
theorem iT {rows sp D:List (List PV)} {tag:List UInt8} {l:List (List UInt8)} (cq:rows=strs l) (hD:D=l.map fun d=>[.sl [eK d] []]) (hl:l.length<2^32):pC mx 170 [.str tag,.sl rows sp] (.agg [.str tag,.sl D []]):=by
 have hlen:rows.length=l.length:=by simp[cq,strs]
 refine pZ G8 ?_
 iterate 105 intro _
 intro gO
 iterate 10 intro _
 intro bO bs bE _ _ bg aO aw ak aI aU aL aP aB aV aW bp bu ah aD;refine gK ?_;refine gL ?_;refine dC ?_;refine bl.af (fun h1=>?_) (fun h1=>?_)
 ·have h0:0<l.length:=by rw[←aD,←ah]at h1;simp at h1;omega
  obtain⟨VE,bh⟩:∃x,l[0]=x:=⟨_,rfl⟩
  have bx:aL (Int.ofNat 0) rows 1:=by rw[←aP,cq];exact aR (enc:=eK) h0 rfl
  have a6:aI rows (Int.ofNat 0)=[.str VE]:=by rw[←aU,cq,strs,aQ (enc:=eK) h0,bh];rfl
  refine dp ?_;refine ae bx ?_;rw[show aI rows 0=[.str VE] from a6];refine gK ?_;refine ae ?_ ?_
  ·rw[←bO,←gO];simp[cr,aS,fr,aG]
   try(repeat' constructor)
  rw[show bs [] [[.sl [[.str VE]] []]]=D.take 1 by
   rw[←bE,bK,hD]
   cases l with
   |nil=>simp at h0
   |cons y ys=>simp at bh;simp[eK,bh]]
  refine gK ?_;refine ai ?_;rw[show aw .i64 (bg 0 1)=Int.ofNat (0+1) by subst_vars;exact fZ (v:=0) (by omega)];refine bG [0,1,4,5,10,11,12] (nn [4,4,0,5,15,21]) (fun v σ_=>σ_.put (some 12) (.pv (.int .i64 (Int.ofNat (v+1))))|>.aC 21 (.rows 1 (D.take (v+1)) 0)) (l.length) (fun k=>True) ?_;intro v hv hk
  try dsimp only
  generalize hw:v+1=w;generalize cw:D.take w=cur;refine dC ?_;refine bl.af (fun hd=>?_) (fun hd=>?_)
  ·have aY:w<l.length:=by rw[←aD,←ah]at hd;simp at hd;omega
   obtain⟨qY,dq⟩:∃x,l[w]=x:=⟨_,rfl⟩
   have dT:aL (Int.ofNat w) rows 1:=by rw[←aP,cq];exact aR (enc:=eK) aY rfl
   have cL:aI rows (Int.ofNat w)=[.str qY]:=by rw[←aU,cq,strs,aQ (enc:=eK) aY,dq];rfl
   have Mj:w<D.length:=by rw[hD];simpa using aY
   refine dp ?_;refine ae dT ?_;rw[cL];refine gK ?_;refine ae ?_ ?_
   ·rw[←bO,←cw]
    have bP:aS 1 (D.take w):=fun r hr=>by
     have:=List.mem_of_mem_take hr;rw[hD]at this;obtain⟨x,-,rfl⟩:=List.mem_map.1 this;rfl
    simp[cr,fr,aG,bP];omega
   refine gK ?_;refine ai ⟨by omega,trivial,?_⟩;rw[wS ak aO (v:=w) (by omega)]
   rw[show bs cur [[.sl [[.str qY]] []]]=D.take (w+1) by
    rw[←bE,←cw,List.take_succ_eq_append_getElem Mj,bK]
    congr 2
    subst hD;simp only[List.getElem_map];rw[dq]
    rfl]
   cbv
  ·have aY:l.length≤w:=by rw[←aD,←ah]at hd;simp at hd;omega
   refine dp ?_;refine au rfl ?_;refine gK ?_;rw[show cur=D by rw[←cw];exact List.take_of_length_le (by rw[hD];simpa using aY)];refine aN ?_;rfl
 ·have h0:l=[]:=by
   rw[←aD,←ah]at h1;simp[cq,strs]at h1;exact h1
  subst h0;refine dp ?_;refine au rfl ?_;refine gK ?_;refine aN ?_;subst hD;rfl
theorem Lq {n d:Int} (h:0≤n) (hd:d=48+n%10):UInt8.ofNat d.toNat=sR n:=by
 unfold sR
 congr 1
 omega
theorem yn {n:Int} {t:List UInt8} (h:0≤n∧n<1000) (ht:t=[sR (n/100),sR (n/10),sR n]):pC mx 261 [.int .i64 n,.int .i64 3] (.str t):=by
 obtain⟨d0,MX⟩:∃d,d=48+n%10:=⟨_,rfl⟩;obtain⟨n1,hn1⟩:∃m,m=n/10:=⟨_,rfl⟩;obtain⟨d1,YG⟩:∃d,d=48+n1%10:=⟨_,rfl⟩;obtain⟨n2,hn2⟩:∃m,m=n1/10:=⟨_,rfl⟩;obtain⟨d2,ru⟩:∃d,d=48+n2%10:=⟨_,rfl⟩;obtain⟨n3,hn3⟩:∃m,m=n2/10:=⟨_,rfl⟩;refine pZ BE ?_
 iterate 81 intro _
 intro Lr fu Fx oN uM
 iterate 11 intro _
 intro eg jt ej _ iR _ eW j6 _ fS j0 _ _ _ _ eO iu _ _ _ _ _ b5 cQ bg aO aw ak _ _ _ aP aB aV aW bp bu ah aD
 have iP:∀x y,bg x y=x+y:=fun _ _=>by rw[←aO];rfl
 have dD:∀x y,b5 x y=x-y:=fun _ _=>by rw[←cQ];rfl
 have hmul:∀x y,eW x y=x*y:=fun _ _=>by rw[←j6];rfl
 have qt:∀x y,0≤x→fS x y=x/y:=fun _ _ h=>by rw[←j0];exact Int.tdiv_eq_ediv_of_nonneg h
 have qu:∀x y,0≤x→eO x y=x%y:=fun _ _ h=>by rw[←iu];exact Int.tmod_eq_emod_of_nonneg h
 have hW:∀x,-9223372036854775808≤x→x<9223372036854775808→aw .i64 x=x:=fun _ h1 h2=>by rw[←ak];exact dh h1 h2
 have D1:∀x,0≤x→x<256→aw .u8 x=x:=fun _ h1 h2=>by rw[←ak];exact KD h1 h2
 have wd:∀x d,d=48+x%10→0≤x→x<1000→aw .u8 (aw .i64 (bg 48 (eO x 10)))=d:=fun x d hd h1 h2=>by subst hd;rw[qu _ _ h1,iP,hW,D1]<;>omega
 refine gK ?_;refine ae (by rw[←Lr];simp[aG]) ?_;rw[show fu 3 [PV.int IntKind.u8 0]=[[.int .u8 0],[.int .u8 0],[.int .u8 0]] by rw[←Fx];rfl];refine gK ?_;rw[show aw .i64 (b5 3 1)=2 by rw[dD,hW]<;>omega];refine gL ?_;refine dC ?_;refine bl.af (fun hx=>?_) (fun hx=>?_)
 rotate_left
 ·exfalso;rw[←bp]at hx;simp at hx
 clear hx
 refine dp ?_;refine ae (by rw[←iR];simp) ?_;refine gK ?_;rw[wd n d0 MX (by omega) (by omega)];refine ae (by rw[←aP];simp[aG]) ?_;refine gK ?_;refine ae (by rw[←iR];simp) ?_;rw[show oN [[.int .u8 0],[.int .u8 0],[.int .u8 0]] 2 0 [.int .u8 d0]=[[.int .u8 0],[.int .u8 0],[.int .u8 d0]] by rw[←uM];rfl];rw[show aw .i64 (fS n 10)=n1 by rw[qt _ _ (by omega),hW]<;>omega];refine gK ?_;refine ai ?_;rw[show aw .i64 (b5 2 1)=1 by rw[dD,hW]<;>omega]
 refine gL ?_;refine dC ?_;refine bl.af (fun hx=>?_) (fun hx=>?_)
 rotate_left
 ·exfalso;rw[←bp]at hx;simp at hx
 clear hx
 refine dp ?_;refine ae (by rw[←iR];simp) ?_;refine gK ?_;rw[wd n1 d1 YG (by omega) (by omega)];refine ae (by rw[←aP];simp[aG]) ?_;refine gK ?_;refine ae (by rw[←iR];simp) ?_;rw[show oN [[.int .u8 0],[.int .u8 0],[.int .u8 d0]] 1 0 [.int .u8 d1]=[[.int .u8 0],[.int .u8 d1],[.int .u8 d0]] by rw[←uM];rfl];rw[show aw .i64 (fS n1 10)=n2 by rw[qt _ _ (by omega),hW]<;>omega];refine gK ?_;refine ai ?_;rw[show aw .i64 (b5 1 1)=0 by rw[dD,hW]<;>omega]
 refine gL ?_;refine dC ?_;refine bl.af (fun hx=>?_) (fun hx=>?_)
 rotate_left
 ·exfalso;rw[←bp]at hx;simp at hx
 clear hx
 refine dp ?_;refine ae (by rw[←iR];simp) ?_;refine gK ?_;rw[wd n2 d2 ru (by omega) (by omega)];refine ae (by rw[←aP];simp[aG]) ?_;refine gK ?_;refine ae (by rw[←iR];simp) ?_;rw[show oN [[.int .u8 0],[.int .u8 d1],[.int .u8 d0]] 0 0 [.int .u8 d2]=[[.int .u8 d2],[.int .u8 d1],[.int .u8 d0]] by rw[←uM];rfl];rw[show aw .i64 (fS n2 10)=n3 by rw[qt _ _ (by omega),hW]<;>omega];refine gK ?_;refine ai ?_;rw[show aw .i64 (b5 0 1)=(-1) by rw[dD,hW]<;>omega]
 refine gL ?_;refine dC ?_;refine bl.af (fun hx=>?_) (fun hx=>?_)
 ·exfalso;rw[←bp]at hx;simp at hx
 clear hx
 refine dp ?_;refine au rfl ?_;refine gK ?_;refine ae (by rw[←jt];intro r hr;simp at hr;rcases hr with rfl|rfl|rfl<;>exact⟨_,rfl⟩) ?_;rw[show eg [[.int .u8 d2],[.int .u8 d1],[.int .u8 d0]]=t by rw[←ej,ht];simp only[aG,List.map_cons,List.map_nil];rw[Lq (n:=n/100) (d:=d2) (by omega) (by omega),Lq (n:=n/10) (d:=d1) (by omega) (by omega),Lq (n:=n) (d:=d0) (by omega) (by omega)]];refine gK ?_;refine aN ?_
 rfl
theorem oZ {n:Int} {t:List UInt8} (h:0≤n∧n<1000) (ht:t=[sR (n/10),sR n]):pC mx 261 [.int .i64 n,.int .i64 2] (.str t):=by
 obtain⟨d0,MX⟩:∃d,d=48+n%10:=⟨_,rfl⟩;obtain⟨n1,hn1⟩:∃m,m=n/10:=⟨_,rfl⟩;obtain⟨d1,YG⟩:∃d,d=48+n1%10:=⟨_,rfl⟩;obtain⟨n2,hn2⟩:∃m,m=n1/10:=⟨_,rfl⟩;refine pZ BE ?_
 iterate 81 intro _
 intro Lr fu Fx oN uM
 iterate 11 intro _
 intro eg jt ej _ iR _ eW j6 _ fS j0 _ _ _ _ eO iu _ _ _ _ _ b5 cQ bg aO aw ak _ _ _ aP aB aV aW bp bu ah aD
 have iP:∀x y,bg x y=x+y:=fun _ _=>by rw[←aO];rfl
 have dD:∀x y,b5 x y=x-y:=fun _ _=>by rw[←cQ];rfl
 have hmul:∀x y,eW x y=x*y:=fun _ _=>by rw[←j6];rfl
 have qt:∀x y,0≤x→fS x y=x/y:=fun _ _ h=>by rw[←j0];exact Int.tdiv_eq_ediv_of_nonneg h
 have qu:∀x y,0≤x→eO x y=x%y:=fun _ _ h=>by rw[←iu];exact Int.tmod_eq_emod_of_nonneg h
 have hW:∀x,-9223372036854775808≤x→x<9223372036854775808→aw .i64 x=x:=fun _ h1 h2=>by rw[←ak];exact dh h1 h2
 have D1:∀x,0≤x→x<256→aw .u8 x=x:=fun _ h1 h2=>by rw[←ak];exact KD h1 h2
 have wd:∀x d,d=48+x%10→0≤x→x<1000→aw .u8 (aw .i64 (bg 48 (eO x 10)))=d:=fun x d hd h1 h2=>by subst hd;rw[qu _ _ h1,iP,hW,D1]<;>omega
 refine gK ?_;refine ae (by rw[←Lr];simp[aG]) ?_;rw[show fu 2 [PV.int IntKind.u8 0]=[[.int .u8 0],[.int .u8 0]] by rw[←Fx];rfl];refine gK ?_;rw[show aw .i64 (b5 2 1)=1 by rw[dD,hW]<;>omega];refine gL ?_;refine dC ?_;refine bl.af (fun hx=>?_) (fun hx=>?_)
 rotate_left
 ·exfalso;rw[←bp]at hx;simp at hx
 clear hx
 refine dp ?_;refine ae (by rw[←iR];simp) ?_;refine gK ?_;rw[wd n d0 MX (by omega) (by omega)];refine ae (by rw[←aP];simp[aG]) ?_;refine gK ?_;refine ae (by rw[←iR];simp) ?_;rw[show oN [[.int .u8 0],[.int .u8 0]] 1 0 [.int .u8 d0]=[[.int .u8 0],[.int .u8 d0]] by rw[←uM];rfl];rw[show aw .i64 (fS n 10)=n1 by rw[qt _ _ (by omega),hW]<;>omega];refine gK ?_;refine ai ?_;rw[show aw .i64 (b5 1 1)=0 by rw[dD,hW]<;>omega]
 refine gL ?_;refine dC ?_;refine bl.af (fun hx=>?_) (fun hx=>?_)
 rotate_left
 ·exfalso;rw[←bp]at hx;simp at hx
 clear hx
 refine dp ?_;refine ae (by rw[←iR];simp) ?_;refine gK ?_;rw[wd n1 d1 YG (by omega) (by omega)];refine ae (by rw[←aP];simp[aG]) ?_;refine gK ?_;refine ae (by rw[←iR];simp) ?_;rw[show oN [[.int .u8 0],[.int .u8 d0]] 0 0 [.int .u8 d1]=[[.int .u8 d1],[.int .u8 d0]] by rw[←uM];rfl];rw[show aw .i64 (fS n1 10)=n2 by rw[qt _ _ (by omega),hW]<;>omega];refine gK ?_;refine ai ?_;rw[show aw .i64 (b5 0 1)=(-1) by rw[dD,hW]<;>omega]
 refine gL ?_;refine dC ?_;refine bl.af (fun hx=>?_) (fun hx=>?_)
 ·exfalso;rw[←bp]at hx;simp at hx
 clear hx
 refine dp ?_;refine au rfl ?_;refine gK ?_;refine ae (by rw[←jt];intro r hr;simp at hr;rcases hr with rfl|rfl<;>exact⟨_,rfl⟩) ?_;rw[show eg [[.int .u8 d1],[.int .u8 d0]]=t by rw[←ej,ht];simp only[aG,List.map_cons,List.map_nil];rw[Lq (n:=n/10) (d:=d1) (by omega) (by omega),Lq (n:=n) (d:=d0) (by omega) (by omega)]];refine gK ?_;refine aN ?_;rfl
abbrev Iso:=List UInt8×Int×Bool×Bool
def Wj (x:Iso):List PV:=[.str x.1,.int .u8 x.2.1,.bool x.2.2.1,.bool x.2.2.2]
def iU:List Iso:=[([50,50,71,49],20,false,false),([50,50,82,49],20,false,true),([52,50,71,49],40,false,false),([52,50,82,49],40,false,true),([52,53,71,49],40,true,false),([52,53,82,49],40,true,true)]
def sN (size:Int) (high bS:Bool):List UInt8×Int:=
 if size=20∧high=false then(if bS then [50,50,82,49]else [50,50,71,49],0)
 else if size=40 then(if high then(if bS then [52,53,82,49]else [52,53,71,49])else(if bS then [52,50,82,49]else [52,50,71,49]),0)
 else([],32)
theorem Wk {v:Nat} (hv:v<iU.length):sN iU[v].2.1 iU[v].2.2.1 iU[v].2.2.2=(iU[v].1,0):=by
 have:∀v,(h:v<iU.length)→sN iU[v].2.1 iU[v].2.2.1 iU[v].2.2.2=(iU[v].1,0):=by
  intro v h
  match v,h with
  |0,_=>rfl
  |1,_=>rfl
  |2,_=>rfl
  |3,_=>rfl
  |4,_=>rfl
  |5,_=>rfl
  |v+6,h=>exact absurd h (by simp[iU])
 exact this v hv
theorem Ls {size:Int} {high bS:Bool} (h:∀v,(hv:v<iU.length)→¬(iU[v].2.1=size∧iU[v].2.2.1=high∧iU[v].2.2.2=bS)):sN size high bS=([],32):=by
 have h0:=h 0 (by simp[iU]);have h1:=h 1 (by simp[iU]);have h2:=h 2 (by simp[iU]);have h3:=h 3 (by simp[iU]);have h4:=h 4 (by simp[iU]);have h5:=h 5 (by simp[iU]);simp only[iU,List.getElem_cons_zero,List.getElem_cons_succ]at h0 h1 h2 h3 h4 h5;unfold sN
 cases high<;>cases bS<;>simp at h0 h1 h2 h3 h4 h5 ⊢ <;>(repeat' split)<;>simp_all<;>omega
theorem Wl {size:Int} {high bS:Bool} {t:List UInt8} {e:Int} (hr:sN size high bS=(t,e)):pC mx 262 [.agg [.int .u8 size,.bool high,.bool bS]] (.ep [.str t,.int .i64 e]):=by
 obtain⟨R,hR⟩:∃R,R=iU.map Wj:=⟨_,rfl⟩
 have hR':R=[[PV.str [50,50,71,49],PV.int IntKind.u8 20,PV.bool false,PV.bool false],[PV.str [50,50,82,49],PV.int IntKind.u8 20,PV.bool false,PV.bool true],[PV.str [52,50,71,49],PV.int IntKind.u8 40,PV.bool false,PV.bool false],[PV.str [52,50,82,49],PV.int IntKind.u8 40,PV.bool false,PV.bool true],[PV.str [52,53,71,49],PV.int IntKind.u8 40,PV.bool true,PV.bool false],[PV.str [52,53,82,49],PV.int IntKind.u8 40,PV.bool true,PV.bool true]]:=by rw[hR];rfl
 have hlen:R.length=iU.length:=by simp[hR]
 have hl6:iU.length=6:=rfl;refine pZ Ha ?_
 iterate 86 intro _
 intro ye Du
 iterate 34 intro _
 intro aO _ ak aI aU aL aP aB aV aW bp bu ah aD;refine gK ?_;rw[←hR'];refine bG [1,6,7,8] [none,some 1] (fun v σ_=>σ_.put (some 8) (.pv (.int .i64 (Int.ofNat v)))) (iU.length) (fun k=>(∀h:k<iU.length,¬(iU[k].2.1=size∧iU[k].2.2.1=high∧iU[k].2.2.2=bS))) ?_;intro v hv hk;refine dC ?_;refine bl.af (fun hd=>?_) (fun hd=>?_)
 ·have aY:v<iU.length:=by rw[←aD,←ah]at hd;simp only[oK,il,decide_eq_true_eq,Int.ofNat_eq_natCast]at hd;omega
  have nV:=Wk aY;obtain⟨⟨t1,sz,hg,rf⟩,hx⟩:∃x,iU[v]=x:=⟨_,rfl⟩;rw[hx]at nV;dsimp only at nV
  have eQ:aL (Int.ofNat v) R 4:=by rw[←aP,hR];exact aR (enc:=Wj) aY rfl
  have bM:aI R (Int.ofNat v)=[.str t1,.int .u8 sz,.bool hg,.bool rf]:=by rw[←aU,hR,aQ (enc:=Wj) aY,hx];rfl
  refine dp ?_;refine ae eQ ?_;rw[bM];refine gK ?_;refine bl.af (fun he=>?_) (fun he=>?_)
  ·rw[←Du]at he;simp[bw]at he;refine dp ?_;refine ae (by rw[←ye];simp[aX]) ?_;refine gK ?_;refine dm ?_;rw[he.1,he.2.1,he.2.2,hr]at nV;obtain⟨rfl,rfl⟩:=Prod.mk.inj nV;rfl
  ·rw[←Du]at he;simp[bw]at he;refine dp ?_;refine ae (by rw[←ye];simp[aX]) ?_;refine gK ?_;refine ai ⟨aY,fun _ h=>?_,?_⟩
   ·rw[hx]at h;exact he h.1 h.2.1 h.2.2
   rw[wS ak aO (v:=v) (by omega)]
   cbv
 ·have aY:v=iU.length:=by rw[←aD,←ah]at hd;simp only[oK,il,decide_eq_false_iff_not,Int.ofNat_eq_natCast]at hd;omega
  refine dp ?_;refine au rfl ?_;refine gK ?_;refine aN ?_;rw[Ls (fun k eZ=>hk k (by omega) eZ)]at hr;obtain⟨rfl,rfl⟩:=Prod.mk.inj hr;rfl
theorem BL {x:cE} {cs:List PV} (kh:cs=x.enc) {t:List UInt8} {e:Int} (hr:gH x=(t,e)):pC mx 172 [.agg cs] (.ep [.str t,.int .i64 e]):=by
 subst kh;obtain⟨id,num,size,high,ca,load,nC,cls,bS⟩:=x;show pC mx 172 [.agg [.int .i64 id,.str num,.int .u8 size,.bool high,.int .i64 ca,.int .i64 load,.int .i64 nC,.int .u8 cls,.bool bS]] (.ep [.str t,.int .i64 e]);obtain⟨⟨t1,e1⟩,h1⟩:∃x,sN size high bS=x:=⟨_,rfl⟩
 have Lb:(e1=0∧(t,e)=(t1,0))∨(e1≠0∧(t,e)=([],60)):=by
  rw[←hr];unfold sN at h1;unfold gH;dsimp only
  (repeat' split at h1)<;>(try(obtain⟨rfl,rfl⟩:=Prod.mk.inj h1))<;>simp_all
 refine pZ Hb ?_
 iterate 129 intro _
 intro aB aV aW bp bu ah aD;refine gK ?_;refine an (by cbv) (Wl h1) (fun h=>by first|rfl|cases h) ?_;refine gK ?_
 rcases Lb with⟨h2,h3⟩|⟨h2,h3⟩
 ·obtain⟨rfl,rfl⟩:=Prod.mk.inj h3;subst h2;refine bl.af (fun hc=>by exfalso;(first|rw[←aD]at hc|rw[←bp]at hc|(rw[←aW]at hc;first|rw[←bu]at hc|rw[←aV]at hc)|rw[←bu]at hc|rw[←aV]at hc);simp at hc;skip) (fun _=>?_);refine dp ?_;refine aN ?_;rfl
 ·obtain⟨rfl,rfl⟩:=Prod.mk.inj h3;refine bl.af (fun h4=>?_) (fun h4=>?_)
  ·refine dp ?_;refine aN ?_;rfl
  ·replace h4:=eT h4
   exact absurd h4 h2
end Go.bW
end
section
open Go Go.Am Go.Proofs
attribute [local irreducible] Am.bl.holds bA fw bC dv
namespace Go.bW
variable {mx:Int}
open Classical
theorem BN {c csp vv vsp r rsp f fsp t tsp:List (List PV)} {l1 l2 l3 l4 m1 m2 m3 m4:Int} {cl:List aM} {vl:List bq} {x:Slot} {t0:List UInt8} {e:Int} (ff:c=cl.map aM.enc) (lU:vv=vl.map bq.enc) (mj:cl.length<2^32) (rP:vl.length<2^32) (oc:∀x∈cl,x.b9.length<2^32) (rv:∀x∈vl,x.rows.length<2^16) (hx:0≤x.half∧x.half<256)
  (hr:fG cl vl x=(t0,e)):pC mx 171 [.agg [.sl c csp,.sl vv vsp,.int .i64 l1,.int .i64 l2,.int .i64 l3,.int .i64 l4,.sl r rsp,.sl f fsp,.sl t tsp,.int .i64 m1,.int .i64 m2,.int .i64 m3,.int .i64 m4],.agg [.int .i64 x.column,.int .i64 x.gG,.int .u8 x.half]] (.ep [.str t0,.int .i64 e]):=by
 have hlen:c.length=cl.length:=by simp[ff]
 unfold fG at hr;refine pZ G9 ?_
 iterate 78 intro _
 intro Hj qh vC
 iterate 12 intro _
 intro dy _ dE dF _ _ _ _ iR _ eW j6 _ fS j0 _ _ _ _ eO iu _ _ _ _ _ b5 cQ bg aO aw ak aI aU aL aP aB aV aW bp bu ah aD;refine gK ?_;refine bX (by cbv) (BK ff lU mj rP oc rv rfl) (fun h=>?_) (fun h=>?_)<;>simp only[decide_eq_true_eq,decide_eq_false_iff_not]at h
 ·have pj:=h;rw[if_neg (by simpa using pj)]at hr
  have kh:(¬bV cl x 20∧¬bV cl x 40)∨bV cl x 20∨(¬bV cl x 20∧bV cl x 40):=by
   by_cases h1:bV cl x 20<;>by_cases h2:bV cl x 40<;>simp[h1,h2]
  rcases kh with⟨Ij,O3⟩|kh
  ·rw[if_pos ⟨Ij,O3⟩]at hr
   cases hr
   refine gK ?_;refine an (by cbv) (oX (size:=20) (res:=false) ff mj (decide_eq_false Ij).symm) (fun h=>by first|rfl|cases h) ?_;refine gK ?_;refine an (by cbv) (oX (size:=40) (res:=false) ff mj (decide_eq_false O3).symm) (fun h=>by first|rfl|cases h) ?_;refine gK ?_;refine aN ?_;rfl
  ·have VF:¬(¬bV cl x 20∧¬bV cl x 40):=by
    rintro⟨h1,h2⟩
    rcases kh with h|h
    ·exact h1 h
    ·exact h2 h.2
   rw[if_neg VF]at hr
   have eQ:0≤x.column∧x.column<cl.length∧0≤x.gG∧(∀h:x.column.toNat<cl.length,x.gG<cl[x.column.toNat].dk)∧(x.half=0∨x.half=1∨x.half=2):=by
    rcases kh with h|h
    ·exact⟨h.1.1,h.1.2.1,h.1.2.2.1,h.1.2.2.2,by have:=h.2;omega⟩
    ·exact⟨h.2.1.1,h.2.1.2.1,h.2.1.2.2.1,h.2.1.2.2.2,by have:=h.2.2;omega⟩
   obtain⟨n,hn⟩:∃n:Nat,x.column=Int.ofNat n:=⟨x.column.toNat,by simp;omega⟩;obtain⟨xc,xt,xh⟩:=x;dsimp only at hn eQ kh hr hx ⊢;subst hn
   have rG:n<cl.length:=by have:=eQ.2.1;simpa using this
   obtain⟨-,-,ht0,Ik,KT⟩:=eQ;have VG:=Ik (by simpa using rG);simp only[Int.toNat_natCast,Int.ofNat_eq_natCast]at VG hr;have AJ:=(pj.2.1 n rG).1;obtain⟨kD,bh⟩:∃x,cl[n]=x:=⟨_,rfl⟩
   have bx:aL (Int.ofNat n) c 12:=by rw[←aP,ff];exact aR (enc:=aM.enc) rG rfl
   obtain⟨⟨cZ,gM,eh,dM,dz,jd,je,fP,cP,jf,ny,nA,nB⟩,cK⟩:∃y,kD=y:=⟨_,rfl⟩;subst cK
   have a6:aI c (Int.ofNat n)=[.int .i64 cZ,.int .i64 gM,.bool eh,.int .i64 dM,.int .i64 dz,.int .i64 jd,.int .i64 je,.int .i64 fP,.sl (ints cP) jf,.int .i64 ny,.int .i64 nA,.int .i64 nB]:=by rw[←aU,ff,aQ (enc:=aM.enc) rG,bh];rfl
   obtain⟨wh,gh⟩:∃p,p=ints cP:=⟨_,rfl⟩;rw[←gh]at a6;rw[bh]at VG AJ;rw[List.getElem?_eq_getElem rG,bh]at hr;obtain⟨-,EN,bM,xN,-⟩:=AJ;unfold In at EN bM xN;dsimp only at VG hr EN bM xN;obtain⟨N,hN⟩:∃N:Int,(if xh=0 then 2 else if xh=1 then 1 else 3)=N:=⟨_,rfl⟩
   have hNN:(xh=0∧N=2)∨(xh=1∧N=1)∨(xh=2∧N=3):=by
    rcases KT with h|h|h
    ·left;exact⟨h,by rw[←hN,if_pos h]⟩
    ·right;left;exact⟨h,by rw[←hN,if_neg (by omega),if_pos h]⟩
    ·right;right;exact⟨h,by rw[←hN,if_neg (by omega),if_neg (by omega)]⟩
   rw[hN]at hr
   clear hN
   obtain⟨q,hq⟩:∃q,q=4*cZ+N:=⟨_,rfl⟩
   obtain⟨D,hD⟩:∃D:Int,D=if eh=true then 80 else 0:=⟨_,rfl⟩
   obtain⟨tt,CG⟩:∃t,t=(2*(xt+1)+D)%100:=⟨_,rfl⟩;rw[←hD,←hq,←CG]at hr;obtain⟨t1,Ik⟩:∃t,t=[sR (q/100),sR (q/10),sR q]:=⟨_,rfl⟩;obtain⟨t2,Pu⟩:∃t,t=[sR (gM/10),sR gM]:=⟨_,rfl⟩;obtain⟨t3,ht3⟩:∃t,t=[sR (tt/10),sR tt]:=⟨_,rfl⟩
   have ht0:t0=t1++t2++t3:=by rw[Ik,Pu,ht3];exact(Prod.mk.inj hr).1.symm
   have XR:e=0:=(Prod.mk.inj hr).2.symm;subst XR
   have iP:∀x y,bg x y=x+y:=fun _ _=>by rw[←aO];rfl
   have dD:∀x y,b5 x y=x-y:=fun _ _=>by rw[←cQ];rfl
   have hmul:∀x y,eW x y=x*y:=fun _ _=>by rw[←j6];rfl
   have qt:∀x y,0≤x→fS x y=x/y:=fun _ _ h=>by rw[←j0];exact Int.tdiv_eq_ediv_of_nonneg h
   have qu:∀x y,0≤x→eO x y=x%y:=fun _ _ h=>by rw[←iu];exact Int.tmod_eq_emod_of_nonneg h
   have hW:∀x,-9223372036854775808≤x→x<9223372036854775808→aw .i64 x=x:=fun _ h1 h2=>by rw[←ak];exact dh h1 h2
   have D1:∀x,0≤x→x<256→aw .u8 x=x:=fun _ h1 h2=>by rw[←ak];exact KD h1 h2
   rcases kh with Ij|⟨Ij,O3⟩
   rotate_left
   ·refine gK ?_;refine an (by cbv) (oX (x:=⟨Int.ofNat n,xt,xh⟩) (size:=20) (res:=false) ff mj (decide_eq_false Ij).symm) (fun h=>by first|rfl|cases h) ?_;refine gK ?_;refine an (by cbv) (oX (x:=⟨Int.ofNat n,xt,xh⟩) (size:=40) (res:=true) ff mj (decide_eq_true O3).symm) (fun h=>by first|rfl|cases h) ?_;refine gK ?_;refine ae bx ?_;rw[a6];obtain⟨w,hw⟩:∃w,w=2*(xt+1)+D:=⟨_,rfl⟩;rw[←hw]at CG;obtain⟨t12,Fy⟩:∃t,t=t1++t2:=⟨_,rfl⟩
    cases eh
    all_goals
     refine gK ?_;simp only[Bool.false_eq_true,if_false,if_true]at hD
     first|rw[show aw .i64 (bg (aw .i64 (eW 2 (aw .i64 (bg xt 1)))) 80)=w by simp(disch:=omega) only[iP,hmul,hW];omega]|rw[show aw .i64 (eW 2 (aw .i64 (bg xt 1)))=w by simp(disch:=omega) only[iP,hmul,hW];omega]
     refine ae (by rw[←Hj];exact⟨by omega,by omega⟩) ?_
     rcases hNN with⟨rfl,rfl⟩|⟨rfl,rfl⟩|⟨rfl,rfl⟩
     all_goals
      first|rw[show qh 0 1=0 by rw[←vC];rfl]|rw[show qh 1 1=1 by rw[←vC];rfl]|rw[show qh 2 1=2 by rw[←vC];rfl]
      refine gK ?_
      first|rw[show aw .i64 (bg (aw .i64 (eW 4 cZ)) 2)=q by simp(disch:=omega) only[iP,hmul,hW];omega]|rw[show aw .i64 (bg (aw .i64 (eW 4 cZ)) 1)=q by simp(disch:=omega) only[iP,hmul,hW];omega]|rw[show aw .i64 (bg (aw .i64 (eW 4 cZ)) 3)=q by simp(disch:=omega) only[iP,hmul,hW];omega]
      refine ao (by cbv) (yn ⟨by omega,by omega⟩ Ik) (fun h=>by first|rfl|cases h) ?_;refine gK ?_;refine ao (by cbv) (oZ ⟨by omega,by omega⟩ Pu) (fun h=>by first|rfl|cases h) ?_;refine gK ?_;refine ae (by rw[←dE,db,Ik,Pu];simp) ?_;rw[show dy t1 t2=t12 by rw[←dF,Fy];rfl];refine gK ?_;refine ae (by rw[←iR];simp) ?_;rw[show eO w 100=tt by rw[qu _ _ (by omega),CG]];refine gK ?_;refine ao (by cbv) (oZ ⟨by omega,by omega⟩ ht3) (fun h=>by first|rfl|cases h) ?_
      refine gK ?_;refine ae (by rw[←dE,db,Fy,Ik,Pu,ht3];simp) ?_;rw[show dy t12 t3=t0 by rw[←dF,ht0,Fy];rfl];refine gK ?_;refine aN ?_;rfl
   ·refine gK ?_;refine an (by cbv) (oX (x:=⟨Int.ofNat n,xt,xh⟩) (size:=20) (res:=true) ff mj (decide_eq_true Ij).symm) (fun h=>by first|rfl|cases h) ?_;refine gK ?_;refine ae bx ?_;rw[a6];obtain⟨w,hw⟩:∃w,w=2*(xt+1)+D:=⟨_,rfl⟩;rw[←hw]at CG;obtain⟨t12,Fy⟩:∃t,t=t1++t2:=⟨_,rfl⟩
    cases eh
    all_goals
     refine gK ?_;simp only[Bool.false_eq_true,if_false,if_true]at hD
     first|rw[show aw .i64 (bg (aw .i64 (eW 2 (aw .i64 (bg xt 1)))) 80)=w by simp(disch:=omega) only[iP,hmul,hW];omega]|rw[show aw .i64 (eW 2 (aw .i64 (bg xt 1)))=w by simp(disch:=omega) only[iP,hmul,hW];omega]
     refine ae (by rw[←Hj];exact⟨by omega,by omega⟩) ?_
     rcases hNN with⟨rfl,rfl⟩|⟨rfl,rfl⟩|⟨rfl,rfl⟩
     all_goals
      first|rw[show qh 0 1=0 by rw[←vC];rfl]|rw[show qh 1 1=1 by rw[←vC];rfl]|rw[show qh 2 1=2 by rw[←vC];rfl]
      refine gK ?_
      first|rw[show aw .i64 (bg (aw .i64 (eW 4 cZ)) 2)=q by simp(disch:=omega) only[iP,hmul,hW];omega]|rw[show aw .i64 (bg (aw .i64 (eW 4 cZ)) 1)=q by simp(disch:=omega) only[iP,hmul,hW];omega]|rw[show aw .i64 (bg (aw .i64 (eW 4 cZ)) 3)=q by simp(disch:=omega) only[iP,hmul,hW];omega]
      refine ao (by cbv) (yn ⟨by omega,by omega⟩ Ik) (fun h=>by first|rfl|cases h) ?_;refine gK ?_;refine ao (by cbv) (oZ ⟨by omega,by omega⟩ Pu) (fun h=>by first|rfl|cases h) ?_;refine gK ?_;refine ae (by rw[←dE,db,Ik,Pu];simp) ?_;rw[show dy t1 t2=t12 by rw[←dF,Fy];rfl];refine gK ?_;refine ae (by rw[←iR];simp) ?_;rw[show eO w 100=tt by rw[qu _ _ (by omega),CG]];refine gK ?_;refine ao (by cbv) (oZ ⟨by omega,by omega⟩ ht3) (fun h=>by first|rfl|cases h) ?_
      refine gK ?_;refine ae (by rw[←dE,db,Fy,Ik,Pu,ht3];simp) ?_;rw[show dy t12 t3=t0 by rw[←dF,ht0,Fy];rfl];refine gK ?_;refine aN ?_;rfl
 ·rw[if_pos h]at hr
  cases hr
  refine gK ?_;refine aN ?_;rfl
end Go.bW
end
