import Derived.Test.YtfaccbkibjkfjaaGreatDoorT11
import Derived.Test.YtfaccbkibjkfjaaGreatDoorT12
import Derived.Test.YtfaccbkibjkfjaaGreatDoorT41
import Derived.Test.YtfaccbkibjkfjaaGreatDoorT07
set_option linter.all false
set_option maxRecDepth 100000
set_option maxHeartbeats 1000000
section
open Go Go.Am Go.Proofs
attribute [local irreducible] Am.bl.holds bA fw bC dv
namespace Go.bW
variable {mx:Int}
open Classical
def yZ (b:Int):Prop:=b=39∨b=43∨b=58∨b=63
noncomputable def jg (c:List UInt8) (first:Bool):Nat→List UInt8
 |0=>[]
 |n+1=>jg c first n++((if yZ (at_ c n)∨(first=true∧n=0∧at_ c n=32)then [63]else [])++[c.getD n 0])
noncomputable def j9 (e:List (List UInt8)) (first:Bool):Nat→List UInt8
 |0=>[]
 |k+1=>j9 e first k++((if 0<k then [58]else [])++jg (e.getD k []) (first&&decide (k=0)) (e.getD k []).length)
noncomputable def oe (s:List (List (List UInt8))):Nat→List UInt8
 |0=>[]
 |i+1=>oe s i++((if 0<i then [43]else [])++j9 (s.getD i []) (decide (i=0)) (s.getD i []).length)
noncomputable def qD (s:List (List (List UInt8))):List UInt8:=oe s s.length++[39]
theorem kH {c:List UInt8} {f:Bool}:∀{n:Nat},(jg c f n).length≤2*n
 |0=>by simp[jg]
 |n+1=>by
  have:=kH (c:=c) (f:=f) (n:=n);simp only[jg,List.length_append];split<;>simp<;>omega
theorem rS {b:Int} {r:Bool} (hr:r=decide (yZ b)):pC mx 327 [.int .u8 b] (.bool r):=by
 refine pZ Oq ?_
 iterate 129 intro _
 intro aB aV aW bp bu ah aD;refine gK ?_
 repeat' (first|refine rQ ?_|(refine vy (fun hc=>?_) (fun hc=>?_)<;>(try simp at hc)<;>(try(exfalso;omega))))
 all_goals(refine aN ?_)
 all_goals first|(refine tr hr ?_;unfold yZ;omega)|(refine fa hr ?_;unfold yZ;omega)
theorem eD {c t:List UInt8} {first:Bool} (hl:c.length<2^32) (ht:t=jg c first c.length):pC mx 316 [.str c,.bool first] (.str t):=by
 cases first
 ·refine pZ Gp ?_
  iterate 90 intro _
  intro og lD oU dy _ dE dF _ _ _ _ _ ga _ _ _ _ _ _ gy fE gA
  iterate 9 intro _
  intro bg _ aw _ _ _ _ _ aB aV aW bp bu ah aD;refine gK ?_;refine bG [0,1,5,6] [] (fun v σ_=>σ_.put (some 5) (.pv (.str (jg c false v)))|>.put (some 6) (.pv (.int .i64 (Int.ofNat v)))) (c.length) (fun k=>True) ?_;intro v hv hk
  try dsimp only
  generalize cw:jg c false v=cur;refine dC ?_;refine bl.af (fun hd=>?_) (fun hd=>?_)
  ·have aY:v<c.length:=by rw[←aD,←aB]at hd;simp at hd;omega
   have jL:ga (Int.ofNat v) c:=by rw[←gy];simp;omega
   obtain⟨E2,BA⟩:∃b,b=at_ c v:=⟨_,rfl⟩
   have aa0:0≤E2∧E2<256:=by rw[BA];exact nZ _ _
   have GR:fE c (Int.ofNat v)=E2:=by rw[←gA,BA];rfl
   have gE:cur.length≤2*v:=by rw[←cw];exact kH
   have jM:aw .i64 (bg (Int.ofNat v) 1)=Int.ofNat (v+1):=by subst_vars;exact fZ (by omega)
   obtain⟨w,hw⟩:∃w,w=v+1:=⟨_,rfl⟩;rw[←hw]at jM;obtain⟨s1,bd⟩:∃x,x=[c.getD v 0]:=⟨_,rfl⟩
   have dD:lD c (Int.ofNat v) (Int.ofNat w)=s1:=by
    rw[←oU,hw,bd];simp only[xw,Int.toNat_natCast,Int.ofNat_eq_natCast,Nat.add_sub_cancel_left];rw[List.take_one,List.head?_drop];simp[List.getD_eq_getElem?_getD,aY]
   obtain⟨z,hz⟩:∃z,z=jg c false (v+1):=⟨_,rfl⟩
   have uE:(yZ E2∨(false=true∧v=0∧E2=32))→z=cur++[63]++s1:=fun h=>by
    rw[hz];simp only[jg];rw[cw,if_pos (by rw[←BA];simpa using h),bd];simp
   have v7:¬(yZ E2∨(false=true∧v=0∧E2=32))→z=cur++s1:=fun h=>by
    rw[hz];simp only[jg];rw[cw,if_neg (by rw[←BA];simpa using h),bd];simp
   refine dp ?_;refine ae jL ?_;rw[GR];refine gK ?_;refine bX (by cbv) (rS rfl) (fun h=>?_) (fun h=>?_)<;>simp only[decide_eq_true_eq,decide_eq_false_iff_not]at h
   ·obtain⟨c1,yD⟩:∃x,x=dy cur [63]:=⟨_,rfl⟩
    have Di:c1=cur++[63]:=by rw[yD,←dF];rfl
    refine gK ?_;refine ae (by rw[←dE,db];simp only[List.length_cons,List.length_nil];omega) ?_;rw[←yD];refine gK ?_;rw[jM];refine ae (by rw[←og];simp;omega) ?_;rw[dD];refine gK ?_;refine ae (by rw[←dE,db,Di,bd];simp only[List.length_append,List.length_cons,List.length_nil];omega) ?_;rw[show dy c1 s1=z by rw[←dF,fg,Di,uE (Or.inl h)]];refine gK ?_;refine ai ⟨aY,trivial,?_⟩;rw[jM,hw,←hz]
    cbv
   ·refine gK ?_;rw[jM];refine ae (by rw[←og];simp;omega) ?_;rw[dD];refine gK ?_;refine ae (by rw[←dE,db,bd];simp only[List.length_cons,List.length_nil];omega) ?_;rw[show dy cur s1=z by rw[←dF,fg,v7 (by rintro(h1|⟨h1,-⟩);exact h h1;cases h1)]];refine gK ?_;refine ai ⟨aY,trivial,?_⟩;rw[jM,hw,←hz]
    cbv
  ·have aY:v=c.length:=by rw[←aD,←aB]at hd;simp at hd;omega
   refine dp ?_;refine au rfl ?_;refine gK ?_;refine aN ?_;rw[ht,←cw,aY]
 ·refine pZ Gp ?_
  iterate 90 intro _
  intro og lD oU dy _ dE dF _ _ _ _ _ ga _ _ _ _ _ _ gy fE gA
  iterate 9 intro _
  intro bg _ aw _ _ _ _ _ aB aV aW bp bu ah aD;refine gK ?_;refine bG [0,1,5,6] [] (fun v σ_=>σ_.put (some 5) (.pv (.str (jg c true v)))|>.put (some 6) (.pv (.int .i64 (Int.ofNat v)))) (c.length) (fun k=>True) ?_;intro v hv hk
  try dsimp only
  generalize cw:jg c true v=cur;refine dC ?_;refine bl.af (fun hd=>?_) (fun hd=>?_)
  ·have aY:v<c.length:=by rw[←aD,←aB]at hd;simp at hd;omega
   have jL:ga (Int.ofNat v) c:=by rw[←gy];simp;omega
   obtain⟨E2,BA⟩:∃b,b=at_ c v:=⟨_,rfl⟩
   have aa0:0≤E2∧E2<256:=by rw[BA];exact nZ _ _
   have GR:fE c (Int.ofNat v)=E2:=by rw[←gA,BA];rfl
   have gE:cur.length≤2*v:=by rw[←cw];exact kH
   have jM:aw .i64 (bg (Int.ofNat v) 1)=Int.ofNat (v+1):=by subst_vars;exact fZ (by omega)
   obtain⟨w,hw⟩:∃w,w=v+1:=⟨_,rfl⟩;rw[←hw]at jM;obtain⟨s1,bd⟩:∃x,x=[c.getD v 0]:=⟨_,rfl⟩
   have dD:lD c (Int.ofNat v) (Int.ofNat w)=s1:=by
    rw[←oU,hw,bd];simp only[xw,Int.toNat_natCast,Int.ofNat_eq_natCast,Nat.add_sub_cancel_left];rw[List.take_one,List.head?_drop];simp[List.getD_eq_getElem?_getD,aY]
   obtain⟨z,hz⟩:∃z,z=jg c true (v+1):=⟨_,rfl⟩
   have uE:(yZ E2∨(true=true∧v=0∧E2=32))→z=cur++[63]++s1:=fun h=>by
    rw[hz];simp only[jg];rw[cw,if_pos (by rw[←BA];simpa using h),bd];simp
   have v7:¬(yZ E2∨(true=true∧v=0∧E2=32))→z=cur++s1:=fun h=>by
    rw[hz];simp only[jg];rw[cw,if_neg (by rw[←BA];simpa using h),bd];simp
   refine dp ?_;refine ae jL ?_;rw[GR];refine gK ?_;refine bX (by cbv) (rS rfl) (fun h=>?_) (fun h=>?_)<;>simp only[decide_eq_true_eq,decide_eq_false_iff_not]at h
   ·obtain⟨c1,yD⟩:∃x,x=dy cur [63]:=⟨_,rfl⟩
    have Di:c1=cur++[63]:=by rw[yD,←dF];rfl
    refine gK ?_;refine ae (by rw[←dE,db];simp only[List.length_cons,List.length_nil];omega) ?_;rw[←yD];refine gK ?_;rw[jM];refine ae (by rw[←og];simp;omega) ?_;rw[dD];refine gK ?_;refine ae (by rw[←dE,db,Di,bd];simp only[List.length_append,List.length_cons,List.length_nil];omega) ?_;rw[show dy c1 s1=z by rw[←dF,fg,Di,uE (Or.inl h)]];refine gK ?_;refine ai ⟨aY,trivial,?_⟩;rw[jM,hw,←hz]
    cbv
   ·refine gK ?_
    repeat' (first|refine rQ ?_|(refine vy (fun hc=>?_) (fun hc=>?_)<;>(try simp at hc)<;>(try(exfalso;omega))))
    ·refine ae jL ?_;rw[GR];refine gK ?_
     repeat' (first|refine rQ ?_|(refine vy (fun hc=>?_) (fun hc=>?_)<;>(try simp at hc)<;>(try(exfalso;omega))))
     ·obtain⟨c1,yD⟩:∃x,x=dy cur [63]:=⟨_,rfl⟩
      have Di:c1=cur++[63]:=by rw[yD,←dF];rfl
      refine ae (by rw[←dE,db];simp only[List.length_cons,List.length_nil];omega) ?_;rw[←yD];refine gK ?_;rw[jM];refine ae (by rw[←og];simp;omega) ?_;rw[dD];refine gK ?_;refine ae (by rw[←dE,db,Di,bd];simp only[List.length_append,List.length_cons,List.length_nil];omega) ?_;rw[show dy c1 s1=z by rw[←dF,fg,Di,uE (Or.inr ⟨rfl,by omega,by assumption⟩)]];refine gK ?_;refine ai ⟨aY,trivial,?_⟩;rw[jM,hw,←hz]
      cbv
     ·rw[jM];refine ae (by rw[←og];simp;omega) ?_;rw[dD];refine gK ?_;refine ae (by rw[←dE,db,bd];simp only[List.length_cons,List.length_nil];omega) ?_;rw[show dy cur s1=z by rw[←dF,fg,v7 (by rintro(h1|⟨-,-,h1⟩);exact h h1;omega)]];refine gK ?_;refine ai ⟨aY,trivial,?_⟩;rw[jM,hw,←hz]
      cbv
    ·rw[jM];refine ae (by rw[←og];simp;omega) ?_;rw[dD];refine gK ?_;refine ae (by rw[←dE,db,bd];simp only[List.length_cons,List.length_nil];omega) ?_;rw[show dy cur s1=z by rw[←dF,fg,v7 (by rintro(h1|⟨-,h1,-⟩);exact h h1;omega)]];refine gK ?_;refine ai ⟨aY,trivial,?_⟩;rw[jM,hw,←hz]
     cbv
  ·have aY:v=c.length:=by rw[←aD,←aB]at hd;simp at hd;omega
   refine dp ?_;refine au rfl ?_;refine gK ?_;refine aN ?_;rw[ht,←cw,aY]
end Go.bW
end
section
open Go Go.Am Go.Proofs
attribute [local irreducible] Am.bl.holds bA fw bC dv
namespace Go.bW
variable {mx:Int}
open Classical
theorem mG {e:List (List UInt8)} {f:Bool} (he:∀c∈e,c.length≤100):∀{n:Nat},(j9 e f n).length≤201*n
 |0=>by simp[j9]
 |n+1=>by
  have h1:=mG (e:=e) (f:=f) he (n:=n);have h2:=kH (c:=e.getD n []) (f:=(f&&decide (n=0))) (n:=(e.getD n []).length)
  have h3:(e.getD n []).length≤100:=by
   rw[List.getD_eq_getElem?_getD]
   cases h:e[n]? with
   |none=>simp
   |some c=>exact he c (List.mem_of_getElem? h)
  simp only[j9,List.length_append];split<;>simp only[List.length_cons,List.length_nil]<;>omega
theorem qZ {s:List (List (List UInt8))} (hs:∀e∈s,e.length≤10∧∀c∈e,c.length≤100):∀{n:Nat},(oe s n).length≤2011*n
 |0=>by simp[oe]
 |n+1=>by
  have h1:=qZ hs (n:=n)
  have h3:(s.getD n []).length≤10∧∀c∈s.getD n [],c.length≤100:=by
   rw[List.getD_eq_getElem?_getD]
   cases h:s[n]? with
   |none=>simp
   |some c=>exact hs c (List.mem_of_getElem? h)
  have h2:=mG (e:=s.getD n []) (f:=decide (n=0)) h3.2 (n:=(s.getD n []).length);simp only[oe,List.length_append];split<;>simp only[List.length_cons,List.length_nil]<;>omega
theorem uG {s:List (List (List UInt8))} (h:cj s):s.length≤30∧∀e∈s,e.length≤10∧∀c∈e,c.length≤100:=by
 refine⟨h.2.1,fun e he=>?_⟩;obtain⟨i,hi,rfl⟩:=List.getElem_of_mem he;refine⟨(h.2.2 i hi).2.1,fun c hc=>?_⟩;obtain⟨k,hk,rfl⟩:=List.getElem_of_mem hc;exact((h.2.2 i hi).2.2 k hk).1
noncomputable def Dj (pre:List UInt8) (e:List (List UInt8)) (f:Bool):Nat→List UInt8
 |0=>pre
 |k+1=>pre++j9 e f (k+1)
theorem ng {pre:List UInt8} {e:List (List UInt8)} {f:Bool}:∀{n:Nat},Dj pre e f n=pre++j9 e f n
 |0=>by simp[Dj,j9]
 |n+1=>rfl
theorem y1 {rows sp:List (List PV)} {es:List aaW} {t:List UInt8} (cq:rows=es.map hU) (hL:cj (es.map (·.1))) (ht:t=qD (es.map (·.1))):pC mx 284 [.sl rows sp] (.str t):=by
 have hlen:rows.length=es.length:=by simp[cq]
 obtain⟨S,hS⟩:∃S,S=es.map (·.1):=⟨_,rfl⟩;rw[←hS]at hL ht;obtain⟨hl30,DZ⟩:=uG hL
 have R7:S.length=es.length:=by simp[hS]
 refine pZ Ot ?_
 iterate 93 intro _
 intro dy _ dE dF
 iterate 25 intro _
 intro aO _ ak aI aU aL aP aB aV aW bp bu ah aD;refine gK ?_;refine bG [0,3,4] [] (fun v σ_=>σ_.put (some 3) (.pv (.str (oe S v)))|>.put (some 4) (.pv (.int .i64 (Int.ofNat v)))) (es.length) (fun k=>True) ?_;intro v hv hk
 try dsimp only
 generalize cw:oe S v=cur;refine dC ?_
 have gE:cur.length≤2011*v:=by rw[←cw];exact qZ DZ
 refine bl.af (fun hd=>?_) (fun hd=>?_)
 ·have aY:v<es.length:=by rw[←aD,←ah]at hd;simp at hd;omega
  obtain⟨⟨eS,lp⟩,bh⟩:∃x,es[v]=x:=⟨_,rfl⟩;obtain⟨oq,gm⟩:∃q,q=strs eS:=⟨_,rfl⟩
  have SE:oq.length=eS.length:=by simp[gm,strs]
  have bx:aL (Int.ofNat v) rows 1:=by rw[←aP,cq];exact aR (enc:=hU) aY rfl
  have a6:aI rows (Int.ofNat v)=[.sl oq lp]:=by rw[←aU,cq,aQ (enc:=hU) aY,bh,gm];rfl
  have hSv:S.getD v []=eS:=by rw[hS,List.getD_eq_getElem?_getD];simp[aY,bh]
  have hsa:eS.length≤10∧∀c∈eS,c.length≤100:=by rw[←hSv,List.getD_eq_getElem?_getD,List.getElem?_eq_getElem (by omega)];exact DZ _ (List.getElem_mem _)
  obtain⟨pre,O6⟩:∃pre,pre=cur++(if 0<v then [43]else []):=⟨_,rfl⟩
  have hprel:pre.length≤2011*v+1:=by rw[O6];split<;>simp<;>omega
  have tg:oe S (v+1)=pre++j9 eS (decide (v=0)) eS.length:=by simp only[oe];rw[cw,hSv,O6,List.append_assoc]
  obtain⟨z,hz⟩:∃z,z=oe S (v+1):=⟨_,rfl⟩;refine dp ?_;refine bl.af (fun h0=>?_) (fun h0=>?_)
  ·replace h0:=eT h0
   refine dp ?_;refine ae (by rw[←dE,db];simp only[List.length_cons,List.length_nil];omega) ?_;rw[show dy cur [43]=pre by rw[←dF,fg,O6,if_pos (by omega)]];refine gK ?_;obtain⟨i,rfl⟩:∃i,i=v:=⟨v,rfl⟩;refine bG [0,3,4,5] [] (fun v σ_=>σ_.put (some 3) (.pv (.str (Dj pre eS (decide (i=0)) v)))|>.put (some 5) (.pv (.int .i64 (Int.ofNat v)))) (eS.length) (fun k=>True) ?_;intro v hv hk
   try dsimp only
   generalize VL:Dj pre eS (decide (i=0)) v=cu;refine dC ?_
   have hcul:cu.length≤2011*i+1+201*v:=by
    have:=mG (e:=eS) (f:=decide (i=0)) hsa.2 (n:=v);rw[←VL,ng,List.length_append];omega
   refine ae bx ?_;rw[a6];refine gK ?_;refine bl.af (fun he=>?_) (fun he=>?_)
   ·have gu:v<eS.length:=by rw[←aD,←ah]at he;simp at he;omega
    obtain⟨qY,dq⟩:∃x,eS[v]=x:=⟨_,rfl⟩
    have dT:aL (Int.ofNat v) oq 1:=by rw[←aP,gm];exact aR (enc:=eK) gu rfl
    have cL:aI oq (Int.ofNat v)=[.str qY]:=by rw[←aU,gm,strs,aQ (enc:=eK) gu,dq];rfl
    have MQ:qY.length≤100:=by rw[←dq];exact hsa.2 _ (List.getElem_mem gu)
    have hgv:eS.getD v []=qY:=by rw[List.getD_eq_getElem?_getD];simp[gu,dq]
    obtain⟨fb,KW⟩:∃fb,fb=(decide (i=0)&&decide (v=0)):=⟨_,rfl⟩;obtain⟨out,jm⟩:∃out,out=jg qY fb qY.length:=⟨_,rfl⟩
    have aa1:out.length≤200:=by
     have:=kH (c:=qY) (f:=fb) (n:=qY.length);rw[jm];omega
    obtain⟨cp,oc⟩:∃cp,cp=cu++(if 0<v then [58]else []):=⟨_,rfl⟩
    have hcpl:cp.length≤2011*i+2+201*v:=by rw[oc];split<;>simp<;>omega
    obtain⟨y,hy⟩:∃y,y=Dj pre eS (decide (i=0)) (v+1):=⟨_,rfl⟩
    have eY:y=cp++out:=by rw[hy,jm,oc,←VL,KW,ng,ng];simp only[j9];rw[hgv];simp
    refine dp ?_;refine bl.af (fun h5=>?_) (fun h5=>?_)
    ·replace h5:=eT h5
     refine dp ?_;refine ae (by rw[←dE,db];simp only[List.length_cons,List.length_nil];omega) ?_;rw[show dy cu [58]=cp by rw[←dF,fg,oc,if_pos (by omega)]];refine gK ?_;refine ae bx ?_;rw[a6];refine gK ?_;refine ae dT ?_;rw[cL];refine gK ?_
     repeat' (first|refine rQ ?_|(refine vy (fun hc=>?_) (fun hc=>?_)<;>(try simp at hc)<;>(try(exfalso;omega))))
     all_goals
      first
       |(refine an (by cbv) (eD (first:=true) (by omega) (show out=_ by rw[jm,KW];congr 1;simp;omega)) (fun _=>rfl) ?_)
       |(refine an (by cbv) (eD (first:=false) (by omega) (show out=_ by rw[jm,KW];congr 1;simp;omega)) (fun _=>rfl) ?_)
      refine gK ?_;refine ae (by rw[←dE,db];omega) ?_;rw[show dy cp out=y by rw[←dF,fg,eY]];refine gK ?_;refine ai ⟨gu,trivial,?_⟩;rw[wS ak aO (v:=v) (by omega)];rw[←hy]
      cbv
    ·replace h5:=eT h5
     rw[show cu=cp by rw[oc,if_neg (by omega)];simp];refine dp ?_;refine ae bx ?_;rw[a6];refine gK ?_;refine ae dT ?_;rw[cL];refine gK ?_
     repeat' (first|refine rQ ?_|(refine vy (fun hc=>?_) (fun hc=>?_)<;>(try simp at hc)<;>(try(exfalso;omega))))
     all_goals
      first
       |(refine an (by cbv) (eD (first:=true) (by omega) (show out=_ by rw[jm,KW];congr 1;simp;omega)) (fun _=>rfl) ?_)
       |(refine an (by cbv) (eD (first:=false) (by omega) (show out=_ by rw[jm,KW];congr 1;simp;omega)) (fun _=>rfl) ?_)
      refine gK ?_;refine ae (by rw[←dE,db];omega) ?_;rw[show dy cp out=y by rw[←dF,fg,eY]];refine gK ?_;refine ai ⟨gu,trivial,?_⟩;rw[wS ak aO (v:=v) (by omega)];rw[←hy]
      cbv
   ·have gu:v=eS.length:=by rw[←aD,←ah]at he;simp at he;omega
    refine dp ?_;refine au rfl ?_;refine gK ?_;refine ai ⟨aY,trivial,?_⟩;rw[wS ak aO (v:=i) (by omega)];rw[show cu=z by rw[←VL,hz,tg,ng,gu],←hz]
    cbv
  ·replace h0:=eT h0
   rw[show cur=pre by rw[O6,if_neg (by omega)];simp];refine dp ?_;obtain⟨i,rfl⟩:∃i,i=v:=⟨v,rfl⟩;refine bG [0,3,4,5] [] (fun v σ_=>σ_.put (some 3) (.pv (.str (Dj pre eS (decide (i=0)) v)))|>.put (some 5) (.pv (.int .i64 (Int.ofNat v)))) (eS.length) (fun k=>True) ?_;intro v hv hk
   try dsimp only
   generalize VL:Dj pre eS (decide (i=0)) v=cu;refine dC ?_
   have hcul:cu.length≤2011*i+1+201*v:=by
    have:=mG (e:=eS) (f:=decide (i=0)) hsa.2 (n:=v);rw[←VL,ng,List.length_append];omega
   refine ae bx ?_;rw[a6];refine gK ?_;refine bl.af (fun he=>?_) (fun he=>?_)
   ·have gu:v<eS.length:=by rw[←aD,←ah]at he;simp at he;omega
    obtain⟨qY,dq⟩:∃x,eS[v]=x:=⟨_,rfl⟩
    have dT:aL (Int.ofNat v) oq 1:=by rw[←aP,gm];exact aR (enc:=eK) gu rfl
    have cL:aI oq (Int.ofNat v)=[.str qY]:=by rw[←aU,gm,strs,aQ (enc:=eK) gu,dq];rfl
    have MQ:qY.length≤100:=by rw[←dq];exact hsa.2 _ (List.getElem_mem gu)
    have hgv:eS.getD v []=qY:=by rw[List.getD_eq_getElem?_getD];simp[gu,dq]
    obtain⟨fb,KW⟩:∃fb,fb=(decide (i=0)&&decide (v=0)):=⟨_,rfl⟩;obtain⟨out,jm⟩:∃out,out=jg qY fb qY.length:=⟨_,rfl⟩
    have aa1:out.length≤200:=by
     have:=kH (c:=qY) (f:=fb) (n:=qY.length);rw[jm];omega
    obtain⟨cp,oc⟩:∃cp,cp=cu++(if 0<v then [58]else []):=⟨_,rfl⟩
    have hcpl:cp.length≤2011*i+2+201*v:=by rw[oc];split<;>simp<;>omega
    obtain⟨y,hy⟩:∃y,y=Dj pre eS (decide (i=0)) (v+1):=⟨_,rfl⟩
    have eY:y=cp++out:=by rw[hy,jm,oc,←VL,KW,ng,ng];simp only[j9];rw[hgv];simp
    refine dp ?_;refine bl.af (fun h5=>?_) (fun h5=>?_)
    ·replace h5:=eT h5
     refine dp ?_;refine ae (by rw[←dE,db];simp only[List.length_cons,List.length_nil];omega) ?_;rw[show dy cu [58]=cp by rw[←dF,fg,oc,if_pos (by omega)]];refine gK ?_;refine ae bx ?_;rw[a6];refine gK ?_;refine ae dT ?_;rw[cL];refine gK ?_
     repeat' (first|refine rQ ?_|(refine vy (fun hc=>?_) (fun hc=>?_)<;>(try simp at hc)<;>(try(exfalso;omega))))
     all_goals
      first
       |(refine an (by cbv) (eD (first:=true) (by omega) (show out=_ by rw[jm,KW];congr 1;simp;omega)) (fun _=>rfl) ?_)
       |(refine an (by cbv) (eD (first:=false) (by omega) (show out=_ by rw[jm,KW];congr 1;simp;omega)) (fun _=>rfl) ?_)
      refine gK ?_;refine ae (by rw[←dE,db];omega) ?_;rw[show dy cp out=y by rw[←dF,fg,eY]];refine gK ?_;refine ai ⟨gu,trivial,?_⟩;rw[wS ak aO (v:=v) (by omega)];rw[←hy]
      cbv
    ·replace h5:=eT h5
     rw[show cu=cp by rw[oc,if_neg (by omega)];simp];refine dp ?_;refine ae bx ?_;rw[a6];refine gK ?_;refine ae dT ?_;rw[cL];refine gK ?_
     repeat' (first|refine rQ ?_|(refine vy (fun hc=>?_) (fun hc=>?_)<;>(try simp at hc)<;>(try(exfalso;omega))))
     all_goals
      first
       |(refine an (by cbv) (eD (first:=true) (by omega) (show out=_ by rw[jm,KW];congr 1;simp;omega)) (fun _=>rfl) ?_)
       |(refine an (by cbv) (eD (first:=false) (by omega) (show out=_ by rw[jm,KW];congr 1;simp;omega)) (fun _=>rfl) ?_)
      refine gK ?_;refine ae (by rw[←dE,db];omega) ?_;rw[show dy cp out=y by rw[←dF,fg,eY]];refine gK ?_;refine ai ⟨gu,trivial,?_⟩;rw[wS ak aO (v:=v) (by omega)];rw[←hy]
      cbv
   ·have gu:v=eS.length:=by rw[←aD,←ah]at he;simp at he;omega
    refine dp ?_;refine au rfl ?_;refine gK ?_;refine ai ⟨aY,trivial,?_⟩;rw[wS ak aO (v:=i) (by omega)];rw[show cu=z by rw[←VL,hz,tg,ng,gu],←hz]
    cbv
 ·have aY:v=es.length:=by rw[←aD,←ah]at hd;simp at hd;omega
  refine dp ?_;refine au rfl ?_;refine gK ?_;refine ae (by rw[←dE,db];simp only[List.length_cons,List.length_nil];omega) ?_;rw[show dy cur [39]=t by rw[←dF,fg,ht,qD,←cw,aY,R7]];refine gK ?_;refine aN ?_;rfl
end Go.bW
end
section
open Go Go.Am Go.Proofs
attribute [local irreducible] Am.bl.holds bA fw bC dv
namespace Go.bW
variable {mx:Int}
open Classical
theorem nD {s:List UInt8} {res:Bool} (hl:s.length<2^32) (hr:res=decide (oP s)):pC mx 283 [.str s] (.bool res):=by
 refine pZ Oc ?_
 iterate 102 intro _
 intro ga _ _ _ _ _ _ gy fE gA
 iterate 10 intro _
 intro aO _ ak _ _ _ _ aB aV aW bp bu ah aD;refine gK ?_;refine bG [0,3] [] (fun v σ_=>σ_.put (some 3) (.pv (.int .i64 (Int.ofNat v)))) (s.length) (fun k=>(65≤at_ s k∧at_ s k≤90)) ?_;intro v hv hk;refine dC ?_;refine bl.af (fun hd=>?_) (fun hd=>?_)
 ·have aY:v<s.length:=by rw[←aD,←aB]at hd;simp at hd;omega
  have lG:ga (Int.ofNat v) s:=by rw[←gy];simp;omega
  obtain⟨my,iG⟩:∃b,b=at_ s v:=⟨_,rfl⟩
  have xO:0≤my∧my<256:=by rw[iG];exact nZ _ _
  have lH:fE s (Int.ofNat v)=my:=by rw[←gA,iG];rfl
  refine dp ?_;refine ae lG ?_;rw[lH];refine gK ?_
  repeat' (first|refine rQ ?_|(refine vy (fun hc=>?_) (fun hc=>?_)<;>(try simp at hc)<;>(try(exfalso;omega))))
  ·refine dm ?_;refine fa hr ?_;intro h;have:=h v aY;omega
  ·refine ae lG ?_;rw[lH];refine gK ?_
   repeat' (first|refine rQ ?_|(refine vy (fun hc=>?_) (fun hc=>?_)<;>(try simp at hc)<;>(try(exfalso;omega))))
   ·refine dm ?_;refine fa hr ?_;intro h;have:=h v aY;omega
   ·refine ai ⟨aY,by omega,?_⟩;rw[wS ak aO (v:=v) (by omega)]
    cbv
 ·have aY:v=s.length:=by rw[←aD,←aB]at hd;simp at hd;omega
  refine dp ?_;refine au rfl ?_;refine gK ?_;refine aN ?_;exact tr hr (fun i h=>hk i (by omega))
theorem Ip {s:List UInt8} {res:Bool} (hl:s.length<2^32) (hr:res=decide (eP s)):pC mx 205 [.str s] (.bool res):=by
 refine pZ Od ?_
 iterate 129 intro _
 intro aB aV aW bp bu ah aD;refine gK ?_;refine bl.af (fun h1=>?_) (fun h1=>?_)
 ·replace h1:=eT h1
  refine dp ?_;refine bX (by cbv) (nD hl rfl) (fun h=>?_) (fun h=>?_)<;>simp only[decide_eq_true_eq,decide_eq_false_iff_not]at h
  ·refine gK ?_
   repeat' (first|refine rQ ?_|(refine vy (fun hc=>?_) (fun hc=>?_)<;>(try simp at hc)<;>(try(exfalso;omega))))
   all_goals(refine aN ?_)
   all_goals first|exact tr hr ⟨by omega,h,by assumption,by assumption⟩|(refine fa hr ?_;rintro⟨-,-,h2,h3⟩;contradiction)
  ·refine gK ?_;refine aN ?_;exact fa hr (fun h'=>h h'.2.1)
 ·replace h1:=eT h1
  refine dp ?_;refine aN ?_;exact fa hr (fun h'=>by have:=h'.1;omega)
theorem E3 {s:List UInt8} {res:Bool} (hl:s.length<2^32) (hr:res=decide (kB s)):pC mx 207 [.str s] (.bool res):=by
 refine pZ Of ?_
 iterate 129 intro _
 intro aB aV aW bp bu ah aD;refine gK ?_;refine bl.af (fun h1=>?_) (fun h1=>?_)
 ·replace h1:=eT h1
  refine dp ?_;refine bX (by cbv) (nD hl rfl) (fun h=>?_) (fun h=>?_)<;>simp only[decide_eq_true_eq,decide_eq_false_iff_not]at h
  ·refine gK ?_;refine aN ?_;exact tr hr ⟨by omega,h⟩
  ·refine gK ?_;refine aN ?_;exact fa hr (fun h'=>h h'.2)
 ·replace h1:=eT h1
  refine dp ?_;refine aN ?_;exact fa hr (fun h'=>by have:=h'.1;omega)
theorem Iq {s:List UInt8} {res:Bool} (hl:s.length<2^32) (hr:res=decide (mr s)):pC mx 208 [.str s] (.bool res):=by
 refine pZ Og ?_
 iterate 90 intro _
 intro og lD oU
 iterate 9 intro _
 intro ga _ _ _ _ _ _ gy fE gA
 iterate 9 intro _
 intro bg _ aw _ _ _ _ _ aB aV aW bp bu ah aD;refine gK ?_;refine bG [0,3] [] (fun v σ_=>σ_.put (some 3) (.pv (.int .i64 (Int.ofNat v)))) (s.length) (fun k=>((65≤at_ s k∧at_ s k≤90)∨(48≤at_ s k∧at_ s k≤57))) ?_;intro v hv hk;refine dC ?_;refine bl.af (fun hd=>?_) (fun hd=>?_)
 ·have aY:v<s.length:=by rw[←aD,←aB]at hd;simp at hd;omega
  have lG:ga (Int.ofNat v) s:=by rw[←gy];simp;omega
  obtain⟨my,iG⟩:∃b,b=at_ s v:=⟨_,rfl⟩
  have xO:0≤my∧my<256:=by rw[iG];exact nZ _ _
  have lH:fE s (Int.ofNat v)=my:=by rw[←gA,iG];rfl
  have bad:¬((65≤my∧my≤90)∨(48≤my∧my≤57))→¬mr s:=fun h h'=>h (by rw[iG];exact h'.2.2 v aY)
  have jM:aw .i64 (bg (Int.ofNat v) 1)=Int.ofNat (v+1):=by subst_vars;exact fZ (by omega)
  obtain⟨w,hw⟩:∃w,w=v+1:=⟨_,rfl⟩;rw[←hw]at jM;obtain⟨s1,bd⟩:∃x,x=lD s (Int.ofNat v) (Int.ofNat w):=⟨_,rfl⟩
  have Nl:s1=[s.getD v 0]:=by
   rw[bd,←oU,hw];simp only[xw,Int.toNat_natCast,Int.ofNat_eq_natCast,Nat.add_sub_cancel_left];rw[List.take_one,List.head?_drop];simp[List.getD_eq_getElem?_getD,aY]
  have dQ:oP s1↔(65≤my∧my≤90):=by
   rw[Nl,iG];constructor
   ·intro h;exact h 0 (by simp)
   ·intro h i hi
    have:i=0:=by simpa using hi
    subst this;exact h
  have XG:s1.length<2^32:=by rw[Nl];simp
  refine dp ?_;rw[jM];refine ae (by rw[←og];simp;omega) ?_;rw[←bd];refine gK ?_;refine bX (by cbv) (nD XG rfl) (fun h=>?_) (fun h=>?_)<;>simp only[decide_eq_true_eq,decide_eq_false_iff_not]at h
  ·rw[dQ]at h;refine gK ?_;refine ai ⟨aY,by omega,?_⟩;rw[jM,hw]
   cbv
  ·rw[dQ]at h;refine gK ?_;refine ae lG ?_;rw[lH];refine gK ?_
   repeat' (first|refine rQ ?_|(refine vy (fun hc=>?_) (fun hc=>?_)<;>(try simp at hc)<;>(try(exfalso;omega))))
   ·refine dm ?_;exact fa hr (bad (by omega))
   ·refine ae lG ?_;rw[lH];refine gK ?_
    repeat' (first|refine rQ ?_|(refine vy (fun hc=>?_) (fun hc=>?_)<;>(try simp at hc)<;>(try(exfalso;omega))))
    ·refine dm ?_;exact fa hr (bad (by omega))
    ·refine ai ⟨aY,by omega,?_⟩;rw[jM,hw]
     cbv
 ·have aY:v=s.length:=by rw[←aD,←aB]at hd;simp at hd;omega
  refine dp ?_;refine au rfl ?_;refine gK ?_
  repeat' (first|refine rQ ?_|(refine vy (fun hc=>?_) (fun hc=>?_)<;>(try simp at hc)<;>(try(exfalso;omega))))
  all_goals(refine aN ?_)
  all_goals first|exact tr hr ⟨by first|omega|exact List.Dk (by assumption),by omega,fun i h=>hk i (by omega)⟩|(refine fa hr ?_;rintro⟨h1,h2,h3⟩;first|omega|(have:s.length=0:=(by rw[show s=[] by assumption];rfl);omega))
theorem z8 {rows sp:List (List PV)} {es:List aaW} {res:Bool} (cq:rows=es.map hU) (hl:es.length<2^32) (hle:∀e∈es,e.1.length<2^32∧∀c∈e.1,c.length<2^32) (hr:res=decide (cj (es.map (·.1)))):pC mx 206 [.sl rows sp] (.bool res):=by
 have hlen:rows.length=es.length:=by simp[cq]
 refine pZ Oe ?_
 iterate 102 intro _
 intro ga _ _ _ _ _ _ gy fE gA
 iterate 10 intro _
 intro aO _ ak aI aU aL aP aB aV aW bp bu ah aD;refine gK ?_
 repeat' (first|refine rQ ?_|(refine vy (fun hc=>?_) (fun hc=>?_)<;>(try simp at hc)<;>(try(exfalso;omega))))
 ·refine aN ?_;refine fa hr ?_;rintro⟨h1,-⟩;simp at h1
  have:rows.length=0:=by rw[hc];rfl
  omega
 ·refine aN ?_;refine fa hr ?_;rintro⟨-,h2,-⟩;simp at h2;omega
 have uD:1≤es.length∧es.length≤30:=by
  have:rows.length≠0:=by intro h;exact absurd (List.length_eq_zero_iff.1 h) (by assumption)
  omega
 refine bG [0,3] [] (fun v σ_=>σ_.put (some 3) (.pv (.int .i64 (Int.ofNat v)))) (es.length) (fun k=>(∀h:k<es.length,oa es[k].1)) ?_;intro v hv hk;refine dC ?_;refine bl.af (fun hd=>?_) (fun hd=>?_)
 ·have aY:v<es.length:=by rw[←aD,←ah]at hd;simp at hd;omega
  have bad:¬oa es[v].1→¬cj (es.map (·.1)):=fun h h'=>h (by have:=h'.2.2 v (by simpa using aY);simpa using this)
  have q0:=hle _ (List.getElem_mem aY);obtain⟨⟨eS,lp⟩,bh⟩:∃x,es[v]=x:=⟨_,rfl⟩;obtain⟨oq,gm⟩:∃q,q=strs eS:=⟨_,rfl⟩
  have SE:oq.length=eS.length:=by simp[gm,strs]
  have bx:aL (Int.ofNat v) rows 1:=by rw[←aP,cq];exact aR (enc:=hU) aY rfl
  have a6:aI rows (Int.ofNat v)=[.sl oq lp]:=by rw[←aU,cq,aQ (enc:=hU) aY,bh,gm];rfl
  rw[bh]at q0 bad;dsimp only at q0 bad;refine dp ?_;refine ae bx ?_;rw[a6];refine gK ?_;refine bl.af (fun h4=>?_) (fun h4=>?_)
  ·replace h4:=eT h4
   refine dp ?_;refine dm ?_;refine fa hr (bad ?_);rintro⟨h1,-⟩
   have:oq.length=0:=by rw[h4];rfl
   omega
  ·replace h4:=eT h4
   refine dp ?_;refine ae bx ?_;rw[a6];refine gK ?_;refine bl.af (fun h5=>?_) (fun h5=>?_)
   ·replace h5:=eT h5
    refine dp ?_;refine dm ?_;refine fa hr (bad ?_);rintro⟨-,h2,-⟩;omega
   ·replace h5:=eT h5
    have gE:1≤eS.length∧eS.length≤10:=by
     have:oq.length≠0:=by intro h;exact absurd (List.length_eq_zero_iff.1 h) h4
     omega
    refine dp ?_;obtain⟨i,rfl⟩:∃i,i=v:=⟨v,rfl⟩;refine bG [0,3,4] [] (fun v σ_=>σ_.put (some 4) (.pv (.int .i64 (Int.ofNat v)))) (eS.length) (fun k=>(∀h:k<eS.length,lW eS[k])) ?_;intro v hv hk;refine dC ?_;refine ae bx ?_;rw[a6];refine gK ?_;refine bl.af (fun he=>?_) (fun he=>?_)
    ·have DY:v<eS.length:=by rw[←aD,←ah]at he;simp at he;omega
     have E4:¬lW eS[v]→¬cj (es.map (·.1)):=fun h=>bad (fun h'=>h (h'.2.2 v DY))
     have hlc:=q0.2 _ (List.getElem_mem DY);obtain⟨qY,dq⟩:∃x,eS[v]=x:=⟨_,rfl⟩
     have dT:aL (Int.ofNat v) oq 1:=by rw[←aP,gm];exact aR (enc:=eK) DY rfl
     have cL:aI oq (Int.ofNat v)=[.str qY]:=by rw[←aU,gm,strs,aQ (enc:=eK) DY,dq];rfl
     rw[dq]at hlc E4;refine dp ?_;refine ae bx ?_;rw[a6];refine gK ?_;refine ae dT ?_;rw[cL];refine gK ?_;refine bl.af (fun h6=>?_) (fun h6=>?_)
     ·replace h6:=eT h6
      refine dp ?_;refine dS rfl (cO.ml rfl ?_);show eV _ _=_;refine zeT ?_;refine fa hr (E4 ?_);rintro⟨h1,-⟩;omega
     ·replace h6:=eT h6
      refine dp ?_;obtain⟨j,rfl⟩:∃j,j=v:=⟨v,rfl⟩;refine bG [0,3,4,5] [] (fun v σ_=>σ_.put (some 5) (.pv (.int .i64 (Int.ofNat v)))) (qY.length) (fun k=>(32≤at_ qY k∧at_ qY k≤126)) ?_;intro v hv hk;refine dC ?_;refine ae bx ?_;rw[a6];refine gK ?_;refine ae dT ?_;rw[cL];refine gK ?_;refine bl.af (fun hf=>?_) (fun hf=>?_)
      ·have hvs:v<qY.length:=by rw[←aD,←aB]at hf;simp at hf;omega
       have GS:ga (Int.ofNat v) qY:=by rw[←gy];simp;omega
       obtain⟨Dl,E5⟩:∃b,b=at_ qY v:=⟨_,rfl⟩
       have hlt_c_b:0≤Dl∧Dl<256:=by rw[E5];exact nZ _ _
       have GU:fE qY (Int.ofNat v)=Dl:=by rw[←gA,E5];rfl
       have aa2:¬(32≤Dl∧Dl≤126)→¬cj (es.map (·.1)):=fun h=>E4 (fun h'=>h (by rw[E5];exact h'.2 v hvs))
       refine dp ?_;refine ae bx ?_;rw[a6];refine gK ?_;refine ae dT ?_;rw[cL];refine gK ?_;refine ae GS ?_;rw[GU];refine gK ?_
       repeat' (first|refine rQ ?_|(refine vy (fun hc=>?_) (fun hc=>?_)<;>(try simp at hc)<;>(try(exfalso;omega))))
       ·refine dS rfl (cO.ml rfl (cO.ml rfl ?_));show eV _ _=_;refine zeT ?_;exact fa hr (aa2 (by omega))
       ·refine ae bx ?_;rw[a6];refine gK ?_;refine ae dT ?_;rw[cL];refine gK ?_;refine ae GS ?_;rw[GU];refine gK ?_
        repeat' (first|refine rQ ?_|(refine vy (fun hc=>?_) (fun hc=>?_)<;>(try simp at hc)<;>(try(exfalso;omega))))
        ·refine dS rfl (cO.ml rfl (cO.ml rfl ?_));show eV _ _=_;refine zeT ?_;exact fa hr (aa2 (by omega))
        ·refine ai ⟨hvs,by omega,?_⟩;rw[wS ak aO (v:=v) (by omega)]
         cbv
      ·have hvs:v=qY.length:=by rw[←aD,←aB]at hf;simp at hf;omega
       refine dp ?_;refine au rfl ?_;refine gK ?_;refine ai ⟨DY,fun _=>by rw[dq];exact⟨by omega,fun n hn=>hk n (by omega)⟩,?_⟩;rw[wS ak aO (v:=j) (by omega)]
       cbv
    ·have DY:v=eS.length:=by rw[←aD,←ah]at he;simp at he;omega
     refine dp ?_;refine au rfl ?_;refine gK ?_;refine ai ⟨aY,fun _=>by rw[bh];exact⟨by dsimp only;omega,by dsimp only;omega,fun k h=>hk k (by dsimp only at h;omega) h⟩,?_⟩;rw[wS ak aO (v:=i) (by omega)]
     cbv
 ·have aY:v=es.length:=by rw[←aD,←ah]at hd;simp at hd;omega
  refine dp ?_;refine au rfl ?_;refine gK ?_;refine aN ?_;refine tr hr ⟨by simpa using uD.1,by simpa using uD.2,fun i h=>?_⟩;simp at h ⊢;exact hk i (by omega) h
end Go.bW
end
section
open Go Go.Am Go.Proofs
attribute [local irreducible] Am.bl.holds bA fw bC dv
namespace Go.bW
variable {mx:Int}
open Classical
abbrev pE:=List aaW×List (List PV)
def mQ (x:pE):List PV:=[.sl (x.1.map hU) x.2]
def pE.val (x:pE):List (List (List UInt8)):=x.1.map (·.1)
noncomputable def fv (l:List (List (List (List UInt8)))):Nat→List UInt8
 |0=>[]
 |n+1=>fv l n++qD (l.getD n [])
noncomputable def Dm (l:List (List (List (List UInt8)))):List UInt8×Int:=
 if 5000<l.length then([],5)else if ∃i,∃h:i<l.length,¬cj l[i]then([],2)else if 65536<(fv l l.length).length then([],3)else(fv l l.length,0)
noncomputable def wi (l:List (List (List (List UInt8)))):Nat→List (List PV)
 |0=>[]
 |n+1=>aG.bytes (fv l (n+1))
theorem kI {l:List (List (List (List UInt8)))}:∀{n:Nat},wi l n=aG.bytes (fv l n)
 |0=>rfl
 |n+1=>rfl
theorem E6 {s:List (List (List UInt8))} (h:cj s):(qD s).length≤60331:=by
 obtain⟨h1,h2⟩:=uG h;have:=qZ h2 (n:=s.length);simp only[qD,List.length_append,List.length_cons,List.length_nil];omega
theorem oV {l:List (List (List (List UInt8)))} {n:Nat}:∀{m:Nat},n≤m→(fv l n).length≤(fv l m).length
 |0,h=>by
  obtain rfl:n=0:=by omega
  exact Nat.le_refl _
 |m+1,h=>by
  by_cases e:n=m+1
  ·subst e;exact Nat.le_refl _
  ·have:=oV (l:=l) (n:=n) (m:=m) (by omega);simp only[fv,List.length_append];omega
theorem x9 {rows sp:List (List PV)} {ls:List pE} {t:List UInt8} {e:Int} (cq:rows=ls.map mQ) (hl:ls.length<2^32) (hle:∀x∈ls,x.1.length<2^32∧∀y∈x.1,y.1.length<2^32∧∀c∈y.1,c.length<2^32) (ht:Dm (ls.map pE.val)=(t,e)):
  pC mx 211 [.sl rows sp] (.ep [.str t,.int .i64 e]):=by
 have hlen:rows.length=ls.length:=by simp[cq]
 obtain⟨L,O7⟩:∃L,L=ls.map pE.val:=⟨_,rfl⟩
 have hLl:L.length=ls.length:=by simp[O7]
 rw[←O7]at ht;unfold Dm at ht;refine pZ Ou ?_
 iterate 21 intro _
 intro we
 iterate 32 intro _
 intro O8
 iterate 42 intro _
 intro eg jt ej
 iterate 16 intro _
 intro bO bs bE _ _ _ aO _ ak aI aU aL aP aB aV aW bp bu ah aD;refine gK ?_;refine bl.af (fun h1=>?_) (fun h1=>?_)
 ·replace h1:=eT h1
  rw[if_pos (by omega)]at ht
  cases ht
  refine dp ?_;refine aN ?_;rfl
 ·replace h1:=eT h1
  rw[if_neg (by omega)]at ht;refine dp ?_;refine bG [0,4] [] (fun v σ_=>σ_.put (some 4) (.pv (.int .i64 (Int.ofNat v)))) (ls.length) (fun k=>(∀h:k<L.length,cj L[k])) ?_;intro v hv hk;refine dC ?_;refine bl.af (fun hd=>?_) (fun hd=>?_)
  ·have aY:v<ls.length:=by rw[←aD,←ah]at hd;simp at hd;omega
   have q0:=hle _ (List.getElem_mem aY)
   have D2:L[v]'(by omega)=(ls[v]).1.map (·.1):=by simp[O7,pE.val]
   obtain⟨⟨lp,Dn⟩,bh⟩:∃x,ls[v]=x:=⟨_,rfl⟩;obtain⟨oq,gm⟩:∃q,q=lp.map hU:=⟨_,rfl⟩
   have bx:aL (Int.ofNat v) rows 1:=by rw[←aP,cq];exact aR (enc:=mQ) aY rfl
   have a6:aI rows (Int.ofNat v)=[.sl oq Dn]:=by rw[←aU,cq,aQ (enc:=mQ) aY,bh,gm];rfl
   rw[bh]at q0 D2;refine dp ?_;refine ae bx ?_;rw[a6];refine gK ?_;refine bX (by cbv) (z8 gm q0.1 q0.2 rfl) (fun h=>?_) (fun h=>?_)<;>simp only[decide_eq_true_eq,decide_eq_false_iff_not]at h
   ·refine gK ?_;refine ai ⟨aY,fun _=>by rw[D2];exact h,?_⟩;rw[wS ak aO (v:=v) (by omega)]
    cbv
   ·rw[if_pos ⟨v,by omega,by rw[D2];exact h⟩]at ht
    cases ht
    refine gK ?_;refine dm ?_;rfl
  ·have aY:v=ls.length:=by rw[←aD,←ah]at hd;simp at hd;omega
   have bP:∀k,(h:k<L.length)→cj L[k]:=fun k h=>hk k (by omega) h
   rw[if_neg (by rintro⟨i,h,h2⟩;exact h2 (bP i h))]at ht;refine dp ?_;refine au rfl ?_;refine gK ?_;refine zT [0,5,6] (nn [5,5]) (fun v σ_=>(σ_.Kb 5 5 1).put (some 6) (.pv (.int .i64 (Int.ofNat v)))|>.aC 5 (.rows 1 (wi L v) 0)) (ls.length) (fun k=>True) (Fg.wc [0,5,6] (nn [5,5]) 5 5 1 rfl (by first|rfl|(cbv;done)) (by first|rfl|(cbv;done)) (by first|exact Nat.le_of_ble_eq_true rfl|(cbv;done)) (by first|(cbv;done)|(simp;cbv;done)|(simp;rfl))) ?_
   intro v hv hk
   try dsimp only
   generalize cw:wi L v=cur;refine dC ?_
   have GQ:cur.length=(fv L v).length:=by rw[←cw,kI];simp[aG]
   have hbig:65536<cur.length→65536<(fv L L.length).length:=fun h=>by
    have:=oV (l:=L) (n:=v) (m:=L.length) (by omega);omega
   have EF:65536<cur.length→t=[]∧e=3:=fun h=>by
    rw[if_pos (hbig h)]at ht
    cases ht
    exact⟨rfl,rfl⟩
   refine bl.af (fun ru=>?_) (fun ru=>?_)
   ·have gu:v<ls.length:=by rw[←aD,←ah]at ru;simp at ru;omega
    refine dp ?_;refine bl.af (fun h6=>?_) (fun h6=>?_)
    ·have h6':cur.length≤65536:=by rw[←bp,←ah]at h6;simp at h6;omega
     have D2:L[v]'(by omega)=(ls[v]).1.map (·.1):=by simp[O7,pE.val]
     have O9:=bP v (by omega);obtain⟨⟨lp,Dn⟩,bh⟩:∃x,ls[v]=x:=⟨_,rfl⟩;obtain⟨oq,gm⟩:∃q,q=lp.map hU:=⟨_,rfl⟩
     have bx:aL (Int.ofNat v) rows 1:=by rw[←aP,cq];exact aR (enc:=mQ) gu rfl
     have a6:aI rows (Int.ofNat v)=[.sl oq Dn]:=by rw[←aU,cq,aQ (enc:=mQ) gu,bh,gm];rfl
     rw[bh]at D2;rw[D2]at O9;obtain⟨T,hT⟩:∃T,T=qD (lp.map (·.1)):=⟨_,rfl⟩
     have hTl:T.length≤60331:=by rw[hT];exact E6 O9
     obtain⟨Tb,hTb⟩:∃x,x=we T:=⟨_,rfl⟩
     have VN:Tb=aG.bytes T:=by rw[hTb,←O8]
     have hTbl:Tb.length=T.length:=by rw[VN];simp[aG]
     obtain⟨z,hz⟩:∃z,z=wi L (v+1):=⟨_,rfl⟩
     have Gb:z=cur++Tb:=by
      rw[hz,←cw,kI,VN,hT];show aG.bytes (fv L (v+1))=_;simp only[fv];rw[List.getD_eq_getElem?_getD,List.getElem?_eq_getElem (by omega),Option.getD_some,D2];simp[aG];rw[kI];rfl
     have MQ:aS 1 cur:=by rw[←cw,kI];intro r hr;simp[aG]at hr;obtain⟨x,-,rfl⟩:=hr;rfl
     refine dp ?_;refine ae bx ?_;rw[a6];refine gK ?_;refine an (by cbv) (y1 gm O9 hT) (fun _=>rfl) ?_;refine gK ?_;refine ae ?_ ?_
     ·rw[←hTb,←bO,cU];refine⟨by omega,by omega,?_,MQ⟩;rw[VN];intro r hr;simp[aG]at hr;obtain⟨x,-,rfl⟩:=hr;exact⟨rfl,fun p hp=>by simp at hp;subst hp;rfl⟩
     rw[←hTb,show bs cur Tb=z by rw[←bE,bK,Gb]];refine gK ?_;refine ai ⟨gu,trivial,?_⟩;rw[wS ak aO (v:=v) (by omega)];rw[←hz]
     cbv
    ·have h6':65536<cur.length:=by rw[←bp,←ah]at h6;simp at h6;omega
     obtain⟨rfl,rfl⟩:=EF h6';refine dp ?_;refine au rfl ?_;refine gK ?_
     repeat' (first|refine rQ ?_|(refine vy (fun hc=>?_) (fun hc=>?_)<;>(try simp at hc)<;>(try(exfalso;omega))))
     refine aN ?_;rfl
   ·have gu:v=ls.length:=by rw[←aD,←ah]at ru;simp at ru;omega
    refine dp ?_;refine au rfl ?_;refine gK ?_
    repeat' (first|refine rQ ?_|(refine vy (fun hc=>?_) (fun hc=>?_)<;>(try simp at hc)<;>(try(exfalso;omega))))
    ·obtain⟨rfl,rfl⟩:=EF (by omega);refine aN ?_;rfl
    ·rw[if_neg (by rw[hLl,←gu];omega)]at ht;obtain⟨rfl,rfl⟩:=Prod.mk.inj ht;refine ae ?_ ?_
     ·rw[←jt,←cw,kI];intro r hr;simp[aG]at hr;obtain⟨x,-,rfl⟩:=hr;exact⟨_,rfl⟩
     obtain⟨u,hu⟩:∃u,u=eg cur:=⟨_,rfl⟩
     have hu':u=fv L L.length:=by
      rw[hu,←ej,←cw,kI,hLl,←gu];simp[aG,Function.comp_def]
     rw[←hu];refine gK ?_;refine aN ?_;rw[hu']
end Go.bW
end
section
open Go Go.Am Go.Proofs
attribute [local irreducible] Am.bl.holds bA fw bC dv
namespace Go.bW
variable {mx:Int}
open Classical
structure lq where
 tag:List UInt8
 data:List aaW
 sp:List (List PV)
def lq.enc (x:lq):List PV:=[.str x.tag,.sl (x.data.map hU) x.sp]
def lq.val (x:lq):Seg:=⟨x.tag,x.data.map (·.1)⟩
theorem qE {rows sp:List (List PV)} {ls:List lq} {kind ref:List UInt8} {res:Bool} (cq:rows=ls.map lq.enc) (hl:ls.length<2^32) (hk6:kind.length<2^32) (BB:ref.length<2^32) (hle:∀x∈ls,x.data≠[]∧x.tag.length<2^32∧x.data.length<2^31∧∀y∈x.data,y.1.length<2^32∧∀c∈y.1,c.length<2^32)
  (hr:res=decide (lj ⟨kind,ref,ls.map lq.val⟩)):pC mx 112 [.agg [.str kind,.str ref,.sl rows sp]] (.bool res):=by
 have hlen:rows.length=ls.length:=by simp[cq]
 refine pZ Oh ?_
 iterate 105 intro _
 intro gO
 iterate 10 intro _
 intro bO bs bE _ _ _ aO _ ak aI aU aL aP aB aV aW bp bu ah aD;refine gK ?_;refine bG [1,3] [none,some 1] (fun v σ_=>σ_.put (some 3) (.pv (.int .i64 (Int.ofNat v)))) (ls.length) (fun k=>(∀h:k<ls.length,eP ls[k].tag∧cj ([ls[k].tag]::ls[k].val.data))) ?_;intro v hv hk;refine dC ?_;refine bl.af (fun hd=>?_) (fun hd=>?_)
 ·have aY:v<ls.length:=by rw[←aD,←ah]at hd;simp at hd;omega
  have q0:=hle _ (List.getElem_mem aY)
  have bad:¬(eP ls[v].tag∧cj ([ls[v].tag]::ls[v].val.data))→¬lj ⟨kind,ref,ls.map lq.val⟩:=fun h h'=>h (by have:=h'.2.2 v (by simpa using aY);simpa[lq.val]using this)
  obtain⟨⟨Dp,ya,VO⟩,bh⟩:∃x,ls[v]=x:=⟨_,rfl⟩;rw[bh]at q0 bad;dsimp only[lq.val]at q0 bad;obtain⟨oq,gm⟩:∃q,q=ya.map hU:=⟨_,rfl⟩
  have bx:aL (Int.ofNat v) rows 2:=by rw[←aP,cq];exact aR (enc:=lq.enc) aY rfl
  have a6:aI rows (Int.ofNat v)=[.str Dp,.sl oq VO]:=by rw[←aU,cq,aQ (enc:=lq.enc) aY,bh,gm];rfl
  obtain⟨Q,hQ⟩:∃Q,Q=((([Dp],[]):aaW)::ya).map hU:=⟨_,rfl⟩;refine dp ?_;refine ae bx ?_;rw[a6];refine gK ?_;refine ae bx ?_;rw[a6];refine gK ?_
  have hqa:aS 1 oq:=by rw[gm];exact bj (enc:=hU) (fun _=>rfl) _
  have hqr:cr 1 oq:=by rw[gm];exact fh (enc:=hU) (fun _=>⟨rfl,by simp[hU]⟩) _
  have UT:oq.length=ya.length:=by simp[gm]
  refine ae ?_ ?_
  ·rw[←bO,←gO,cU,lN];refine⟨⟨by simp only[List.length_cons,List.length_nil];omega,by simp only[List.length_cons,List.length_nil];omega,hqr,fun r hr=>by simp at hr;subst hr;rfl⟩,Or.inr (fun h=>q0.1 (by rw[h]at UT;exact List.length_eq_zero_iff.1 UT.symm))⟩
  rw[show bs [[.sl [[.str Dp]] []]] oq=Q by rw[←bE,bK,hQ,gm];rfl];refine gK ?_;refine ae bx ?_;rw[a6];refine gK ?_;refine bX (by cbv) (Ip q0.2.1 rfl) (fun h=>?_) (fun h=>?_)<;>simp only[decide_eq_true_eq,decide_eq_false_iff_not]at h
  ·refine gK ?_
   refine bX (by cbv) (z8 hQ (by simp;omega) (by
    intro y hy
    rcases List.mem_cons.1 hy with rfl|hy
    ·exact⟨by simp,fun c hc=>by simp at hc;subst hc;exact q0.2.1⟩
    ·exact q0.2.2.2 y hy) rfl) (fun h'=>?_) (fun h'=>?_)<;>simp only[decide_eq_true_eq,decide_eq_false_iff_not]at h'
   ·refine gK ?_;refine ai ⟨aY,fun _=>by rw[bh];exact⟨h,h'⟩,?_⟩;rw[wS ak aO (v:=v) (by omega)]
    cbv
   ·refine gK ?_;refine dm ?_;exact fa hr (bad (fun x=>h' x.2))
  ·refine gK ?_;refine dm ?_;exact fa hr (bad (fun x=>h x.1))
 ·have aY:v=ls.length:=by rw[←aD,←ah]at hd;simp at hd;omega
  have bP:∀i,(h:i<ls.length)→eP ls[i].tag∧cj ([ls[i].tag]::ls[i].val.data):=fun i h=>hk i (by omega) h
  refine dp ?_;refine au rfl ?_;refine gK ?_;refine bX (by cbv) (E3 hk6 rfl) (fun h=>?_) (fun h=>?_)<;>simp only[decide_eq_true_eq,decide_eq_false_iff_not]at h
  ·refine gK ?_;refine bX (by cbv) (Iq BB rfl) (fun h'=>?_) (fun h'=>?_)<;>simp only[decide_eq_true_eq,decide_eq_false_iff_not]at h'
   ·refine gK ?_;refine aN ?_;exact tr hr ⟨h,h',fun i hi=>by simp at hi;have:=bP i hi;simpa[lq.val]using this⟩
   ·refine gK ?_;refine aN ?_;exact fa hr (fun x=>h' x.2.1)
  ·refine gK ?_;refine aN ?_;exact fa hr (fun x=>h x.1)
end Go.bW
end
section
open Go Go.Am Go.Proofs
attribute [local irreducible] Am.bl.holds bA fw bC dv
namespace Go.bW
variable {mx:Int}
open Classical
theorem uH {n:Nat}:digits n=if n<10 then [UInt8.ofNat (48+n)]else digits (n/10)++[UInt8.ofNat (48+n%10)]:=by
 rw[digits];split<;>rfl
def aa4 (n:Nat) (a:Nat×List UInt8):Prop:=(a.2=[]∧a.1=n)∨(a.2≠[]∧a.2.length≤n+1∧a.1+a.2.length≤n+1∧(0<a.1→digits n=digits a.1++a.2)∧(a.1=0→digits n=a.2))
theorem Ir {n:Nat} {t:List UInt8} (hn:n<2^40) (ht:t=digits n):pC mx 210 [.int .i64 (Int.ofNat n)] (.str t):=by
 refine pZ Oo ?_
 iterate 93 intro _
 intro dy _ dE dF eg jt ej _ iR _ eW j6 _ fS j0 _ _ _ _ eO iu _ _ _ _ _ b5 cQ bg aO aw ak _ _ _ _ aB aV aW bp bu ah aD
 have iP:∀x y,bg x y=x+y:=fun _ _=>by rw[←aO];rfl
 have dD:∀x y,b5 x y=x-y:=fun _ _=>by rw[←cQ];rfl
 have hmul:∀x y,eW x y=x*y:=fun _ _=>by rw[←j6];rfl
 have qt:∀x y,0≤x→fS x y=x/y:=fun _ _ h=>by rw[←j0];exact Int.tdiv_eq_ediv_of_nonneg h
 have qu:∀x y,0≤x→eO x y=x%y:=fun _ _ h=>by rw[←iu];exact Int.tmod_eq_emod_of_nonneg h
 have hW:∀x,-9223372036854775808≤x→x<9223372036854775808→aw .i64 x=x:=fun _ h1 h2=>by rw[←ak];exact dh h1 h2
 have D1:∀x,0≤x→x<256→aw .u8 x=x:=fun _ h1 h2=>by rw[←ak];exact KD h1 h2
 refine gK ?_;refine Kc (fun(a:Nat×List UInt8) σ_=>((σ_.tidy [0,3] []).put (some 0) (.pv (.int .i64 (Int.ofNat a.1)))).put (some 3) (.pv (.str a.2))) (aa4 n) (fun a=>a.1+if a.2=[]then 1 else 0) (n,[]) (Fg.b8 [0,3] [] rfl (by first|(cbv;done)|rfl)) (Or.inl ⟨rfl,rfl⟩) ?_;rintro⟨m,o⟩ hJ;dsimp only
 have hmn:m≤n∧o.length≤n+1:=by
  rcases hJ with⟨h1,h2⟩|⟨h1,h2,h3,-⟩
  ·dsimp only at h1 h2;subst h1 h2;simp
  ·dsimp only at h1 h2 h3;have:=List.length_pos_iff.2 h1;omega
 obtain⟨k,hk⟩:∃k,k=m/10:=⟨_,rfl⟩;obtain⟨d,hd⟩:∃d,d=(48:Int)+Int.ofNat (m%10):=⟨_,rfl⟩;obtain⟨s1,bd⟩:∃x,x=[UInt8.ofNat (48+m%10)]:=⟨_,rfl⟩
 have hr:eO (Int.ofNat m) 10=Int.ofNat (m%10):=by rw[qu _ _ (by simp)];simp
 have hq:aw .i64 (fS (Int.ofNat m) 10)=Int.ofNat k:=by rw[qt _ _ (by simp),hk,hW]<;>simp<;>omega
 have w1:aw .u8 (aw .i64 (bg 48 (eO (Int.ofNat m) 10)))=d:=by rw[hr,iP,hd,hW,D1]<;>simp<;>omega
 have next:(o=[]∨0<m)→aa4 n (k,s1++o)∧k+(if s1++o=[]then 1 else 0)<m+(if o=[]then 1 else 0):=by
  intro h
  have dW:s1++o≠[]:=by rw[bd];simp
  have aa5:0<k→digits m=digits k++s1:=fun h=>by rw[uH (n:=m),if_neg (by omega),hk,bd]
  have aa6:k=0→digits m=s1:=fun h=>by rw[uH (n:=m),if_pos (by omega),bd,Nat.mod_eq_of_lt (by omega)]
  refine⟨Or.inr ⟨dW,?_⟩,?_⟩
  ·rcases hJ with⟨h1,h2⟩|⟨h1,h2,h3,h4,h5⟩
   ·dsimp only at h1 h2;subst h1 h2;simp only[List.append_nil];refine⟨by rw[bd];simp,by rw[bd];simp;omega,aa5,aa6⟩
   ·dsimp only at h1 h2 h3 h4 h5
    have hm:0<m:=by rcases h with h|h;exact absurd h h1;exact h
    refine⟨by rw[bd];simp;omega,by rw[bd];simp;omega,fun h=>?_,fun h=>?_⟩
    ·rw[h4 hm,aa5 h,List.append_assoc]
    ·rw[h4 hm,aa6 h]
  ·rw[if_neg dW]
   rcases h with h|h
   ·rw[if_pos h];omega
   ·split<;>omega
 refine dC ?_;refine bl.af (fun h1=>?_) (fun h1=>?_)
 ·replace h1:=eT h1
  refine dp ?_;refine ae (by rw[←iR];simp) ?_;refine gK ?_;rw[w1];refine ae (by rw[←jt];intro r hr;exact⟨d,by simpa using hr⟩) ?_;rw[show eg [[.int .u8 d]]=s1 by rw[←ej,bd];simp only[aG,hd,List.map_cons,List.map_nil];congr 2];refine gK ?_;refine ae (by rw[←dE,db,bd];simp only[List.length_cons,List.length_nil];omega) ?_;obtain⟨z,hz⟩:∃z,z=dy s1 o:=⟨_,rfl⟩
  have Mk:z=s1++o:=by rw[hz,←dF];rfl
  rw[←hz];refine gK ?_;refine ae (by rw[←iR];simp) ?_;rw[hq];refine gK ?_;refine ai ⟨(k,z),?_,?_,?_⟩
  ·rw[Mk];exact(next (Or.inl h1)).1
  ·rw[Mk];exact(next (Or.inl h1)).2
  ·exact Fg.b8 [0,3] [] rfl (by cbv)
 ·replace h1:=eT h1
  refine dp ?_;refine bl.af (fun h2=>?_) (fun h2=>?_)
  ·replace h2:=eT h2
   refine dp ?_;refine ae (by rw[←iR];simp) ?_;refine gK ?_;rw[w1];refine ae (by rw[←jt];intro r hr;exact⟨d,by simpa using hr⟩) ?_;rw[show eg [[.int .u8 d]]=s1 by rw[←ej,bd];simp only[aG,hd,List.map_cons,List.map_nil];congr 2];refine gK ?_;refine ae (by rw[←dE,db,bd];simp only[List.length_cons,List.length_nil];omega) ?_;obtain⟨z,hz⟩:∃z,z=dy s1 o:=⟨_,rfl⟩
   have Mk:z=s1++o:=by rw[hz,←dF];rfl
   rw[←hz];refine gK ?_;refine ae (by rw[←iR];simp) ?_;rw[hq];refine gK ?_;refine ai ⟨(k,z),?_,?_,?_⟩
   ·rw[Mk];exact(next (Or.inr (by omega))).1
   ·rw[Mk];exact(next (Or.inr (by omega))).2
   ·exact Fg.b8 [0,3] [] rfl (by cbv)
  ·replace h2:=eT h2
   refine dp ?_;refine au rfl ?_;refine gK ?_;refine aN ?_
   rcases hJ with⟨h3,-⟩|⟨-,-,-,-,h5⟩
   ·exact absurd h3 h1
   ·rw[ht,h5 (by dsimp only;omega)]
end Go.bW
end
section
open Go Go.Am Go.Proofs
attribute [local irreducible] Am.bl.holds bA fw bC dv
namespace Go.bW
variable {mx:Int}
open Classical
def BC (z0 D:List (List PV)) (n:Nat):Nat→List (List PV)
 |0=>z0
 |v+1=>D.drop (n-(v+1))
def Dq (i0:Int) (n:Nat):Nat→Int
 |0=>i0
 |v+1=>Int.ofNat n-1-Int.ofNat (v+1)
theorem y2 {D sp:List (List PV)} {l:List (List UInt8)} {x:List UInt8} (hD:D=(l++[x]).map mu) (hx:x≠[]) (hl:l.length<2^20):pC mx 209 [.sl D sp] (.sl D []):=by
 obtain⟨n,hn⟩:∃n,n=l.length:=⟨_,rfl⟩;rw[←hn]at hl
 have hlen:D.length=n+1:=by simp[hD,hn]
 have SF:aS 1 D:=by rw[hD];exact bj (enc:=mu) (fun _=>rfl) _
 have KX:cr 1 D:=by rw[hD];exact fh (enc:=mu) (fun _=>⟨rfl,by simp[mu]⟩) _
 refine pZ On ?_
 iterate 103 intro _
 intro eW j6 gO fS j0 _ _ _ _ eO iu _ cv bO bs bE b5 cQ bg aO aw ak aI aU aL aP aB aV aW bp bu ah aD
 have iP:∀x y,bg x y=x+y:=fun _ _=>by rw[←aO];rfl
 have dD:∀x y,b5 x y=x-y:=fun _ _=>by rw[←cQ];rfl
 have hmul:∀x y,eW x y=x*y:=fun _ _=>by rw[←j6];rfl
 have qt:∀x y,0≤x→fS x y=x/y:=fun _ _ h=>by rw[←j0];exact Int.tdiv_eq_ediv_of_nonneg h
 have qu:∀x y,0≤x→eO x y=x%y:=fun _ _ h=>by rw[←iu];exact Int.tmod_eq_emod_of_nonneg h
 have hW:∀x,-9223372036854775808≤x→x<9223372036854775808→aw .i64 x=x:=fun _ h1 h2=>by rw[←ak];exact dh h1 h2
 have D1:∀x,0≤x→x<256→aw .u8 x=x:=fun _ h1 h2=>by rw[←ak];exact KD h1 h2
 have s7:aw .i64 (b5 (cv D) 1)=Int.ofNat n:=by rw[dD,hW]<;>rw[←ah]<;>simp[hlen]<;>omega
 have Pa:aL (Int.ofNat n) D 1:=by rw[←aP,hD,hn];exact aR (enc:=mu) (by simp) rfl
 have GV:aI D (Int.ofNat n)=[.sl [[.str x]] []]:=by rw[←aU,hD,hn,aQ (enc:=mu) (by simp)];simp[mu,eK]
 have KY:∀y:List UInt8,cv [[.str y]]=1:=fun y=>by rw[←ah];rfl
 have hm1:aw .i64 (b5 1 1)=0:=by rw[dD,hW]<;>omega
 have hm0:aw .i64 (b5 0 1)= -1:=by rw[dD,hW]<;>omega
 have qF:∀y:List UInt8,aL 0 [[.str y]] 1:=fun y=>by rw[←aP];simp[aG]
 have lr:∀y:List UInt8,aI [[.str y]] 0=[.str y]:=fun y=>by rw[←aU];rfl
 have h00:cv []=0:=by rw[←ah];rfl
 obtain⟨i0,Xz⟩:∃i0,i0=Int.ofNat n-1:=⟨_,rfl⟩
 have hwi:aw .i64 (b5 (Int.ofNat n) 1)=i0:=by rw[dD,hW,Xz]<;>simp<;>omega
 obtain⟨z0,X8⟩:∃z0,z0=D.drop n:=⟨_,rfl⟩
 have I9:[[PV.sl [[.str x]] []]]=z0:=by
  rw[X8,hD,hn,List.map_append,List.drop_append_of_le_length (by simp),List.drop_of_length_le (by simp)];rfl
 refine gK ?_;rw[s7];refine gL ?_;refine dC ?_;refine bl.af (fun h1=>?_) (fun h1=>?_)
 ·refine dp ?_;refine ae Pa ?_;rw[GV];refine gK ?_;rw[KY,hm1];refine gL ?_;refine dC ?_;refine zhT ?_;refine dp ?_;rw[h00];refine zhF ?_;refine dp ?_;refine zhT ?_;refine dp ?_;refine ae Pa ?_;rw[GV];refine gK ?_;refine ae (qF x) ?_;rw[lr];refine gK ?_;refine ai ?_;rw[hm0];refine gL ?_;refine dC ?_;refine zhF ?_;refine dp ?_;refine au rfl ?_;refine gK ?_;rw[KY];refine zhF ?_;refine dp ?_;rw[KY];refine zhF ?_
  refine dp ?_;refine ae (qF x) ?_;rw[lr];refine gK ?_;refine bl.af (fun _=>?_) (fun hc=>by exfalso;rw[←aW,←aV]at hc;simp at hc;exact hx hc);refine dp ?_;refine ai ?_;rw[hwi,I9];refine qf (fun v σ_=>(((σ_.tidy [0,3,4,5] []).put (some 3) (.pv (.sl (BC z0 D n v) [])))).put (some 5) (.pv (.int .i64 (Dq i0 n v)))) n (fun k=>True) (Fg.trans (Fg.full (d:=3) (rows:=z0) rfl) (Fg.b8 [0,3,4,5] [] rfl (by first|(cbv;done)|rfl))) ?_
  intro v hv hk
  have GW:BC z0 D n v=D.drop (n-v):=by cases v with|zero=>exact X8|succ v=>rfl
  have Pb:Dq i0 n v=Int.ofNat n-1-Int.ofNat v:=by cases v with|zero=>rw[Xz];simp[Dq,Xz]|succ v=>rfl
  generalize cw:BC z0 D n v=cur at GW;generalize hix:Dq i0 n v=ix at Pb;refine dC ?_;refine bl.af (fun h2=>?_) (fun h2=>?_)
  ·replace h2:=eT h2
   have rP:v<n:=by simp at Pb;omega
   obtain⟨j,hj⟩:∃j,j=n-1-v:=⟨_,rfl⟩
   obtain rfl:ix=Int.ofNat j:=by rw[Pb];simp;omega
   have vP:j<l.length:=by omega
   obtain⟨y,hy⟩:∃y,y=l[j]:=⟨_,rfl⟩
   have aa7:aL (Int.ofNat j) D 1:=by rw[←aP,hD];exact aR (enc:=mu) (by simp;omega) rfl
   have SG:aI D (Int.ofNat j)=[.sl [[.str y]] []]:=by rw[←aU,hD,aQ (enc:=mu) (by simp;omega),List.getElem_append_left vP,←hy];rfl
   have hDj:D[j]'(by omega)=[.sl [[.str y]] []]:=by
    have:D[j]? =some [.sl [[.str y]] []]:=by rw[hD,List.getElem?_map,List.getElem?_append_left vP,List.getElem?_eq_getElem vP,←hy];rfl
    rw[List.getElem?_eq_getElem (by omega)]at this;exact Option.some.inj this
   obtain⟨z,hz⟩:∃z,z=BC z0 D n (v+1):=⟨_,rfl⟩
   have XC:z=[.sl [[.str y]] []]::cur:=by
    rw[hz,GW];show D.drop (n-(v+1))=_;rw[show n-(v+1)=j by omega,show n-v=j+1 by omega,List.drop_eq_getElem_cons (by omega),hDj]
   obtain⟨i1,hi1⟩:∃i1,i1=Dq i0 n (v+1):=⟨_,rfl⟩
   have hwj:aw .i64 (b5 (Int.ofNat j) 1)=i1:=by
    rw[dD,hW,hi1]
    ·show _=Int.ofNat n-1-Int.ofNat (v+1);simp;omega
    ·simp;omega
    ·simp;omega
   refine dp ?_;refine ae aa7 ?_;rw[SG];refine gK ?_;rw[KY,hm1];refine gL ?_;refine dC ?_;refine zhT ?_;refine dp ?_;rw[h00];refine zhF ?_;refine dp ?_;refine zhT ?_;refine dp ?_;refine ae aa7 ?_;rw[SG];refine gK ?_;refine ae (qF y) ?_;rw[lr];refine gK ?_;refine ai ?_;rw[hm0];refine gL ?_;refine dC ?_;refine zhF ?_;refine dp ?_;refine au rfl ?_;refine gK ?_;rw[KY];refine zhF ?_;refine dp ?_;refine ae ?_ ?_
   ·rw[←bO,←gO,cU,lN,GW];refine⟨⟨by simp only[List.length_cons,List.length_nil,List.length_drop];omega,by simp only[List.length_cons,List.length_nil,List.length_drop];omega,fun r hr=>KX r (List.mem_of_mem_drop hr),fun r hr=>by simp at hr;subst hr;rfl⟩,Or.inr (fun h=>by have:=congrArg List.length h;simp only[List.length_drop,List.length_nil]at this;omega)⟩
   rw[show bs [[.sl [[.str y]] []]] cur=z by rw[←bE,bK,XC];rfl];refine gK ?_;refine ai ⟨rP,trivial,?_⟩;rw[hwj,←hz,←hi1];refine Fg.trans (Fg.ze (id:=0) (sz:=1) (ver:=0) (rs:=z) rfl) ?_;exact Fg.b8 [0,3,4,5] [] rfl (by cbv)
  ·replace h2:=eT h2
   have rP:v=n:=by simp at Pb;omega
   refine dp ?_;refine au rfl ?_;refine gK ?_;refine aN ?_;rw[GW,rP];simp
 ·exfalso;rw[←bp]at h1;simp at h1
end Go.bW
end
