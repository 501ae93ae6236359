import Derived.Test.YtjclmfaodngbfaaGreatDoorT30
import Derived.Test.YtjclmfaodngbfaaGreatDoorT14
import Derived.Test.YtjclmfaodngbfaaGreatDoorT24
import Derived.Test.YtjclmfaodngbfaaGreatDoorT10
import Derived.Test.YtjclmfaodngbfaaGreatDoorT09
set_option linter.all false
set_option maxRecDepth 100000
set_option maxHeartbeats 1000000
namespace Go.bt
open Go Go.Am Go.Proofs
open Classical
attribute [local irreducible] Am.bp.holds bH fw bP ek
variable {mx:Int}
def KG(b r:Int)(d:Bool)(t:Int):aL:=⟨b,r,d,t,0,0,0,0,[],[],0,0,0⟩
def SB:List aL:=[KG 0 0 false 2,KG 0 1 false 2,KG 0 0 true 3,KG 0 1 true 3,KG 1 1 true 4]
def SC:List bz:=[⟨0,[0,1],[]⟩]
def nM:List aH:=[⟨7,⟨0,0,0⟩⟩,⟨12,⟨3,0,1⟩⟩,⟨13,⟨3,0,2⟩⟩,⟨120,⟨3,1,2⟩⟩]
def KQ:List (List UInt8):=[[98,97,121,32,48],[114,114,32,46,46,46,46,46,46,46,46,46,46,46,46,48,32,46,46,46,46,46,46,46,46,46,46,46,46,49],[100,50,32,46,46,46,46,46,46,47,46,46,46,46,46,46,32,46,46,46,46,46,46,47,46,46,46,46,46,46],[100,49,32,46,46,46,46,46,46,47,46,46,46,46,46,46,32,46,46,46,46,46,46,47,46,46,46,49,50,48],[100,48,32,46,46,46,46,46,46,47,46,46,46,46,46,46,32,46,46,46,46,49,50,47,46,46,46,46,49,51],[99,99,32,45,45,45,45,45,45,45,45,45,45,45,45,45,32,45,45,45,45,45,45,45,45,45,45,45,45,45],[104,49,32,46,46,46,46,46,46,47,46,46,46,46,46,46,32,46,46,46,46,46,46,47,46,46,46,46,46,46],[104,48,32,61,61,46,46,46,46,46,55,61,61,61,61,61,32,46,46,46,46,46,46,47,46,46,46,46,46,46]]
def NW:List (List UInt8):=[[98,97,121,32,49],[114,114,32,46,46,46,46,46,46,46,46,46,46,46,46,49],[100,51,32,46,46,46,46,46,46,47,46,46,46,46,46,46],[100,50,32,46,46,46,46,46,46,47,46,46,46,46,46,46],[100,49,32,46,46,46,46,46,46,47,46,46,46,46,46,46],[100,48,32,46,46,46,46,46,46,47,46,46,46,46,46,46],[99,99,32,58,58,58,58,58,58,58,58,58,58,58,58,58]]
theorem abM:aA SB SC:=by unfold aA fX rb In Je iM qA;unfold In;decide
theorem KR:ar SB SC nM 0=KQ:=by decide+kernel
theorem Rk:ar SB SC nM 1=NW:=by decide+kernel
theorem tc:ak SB SC nM:=by refine jw abM ?_ ?_;{intro x a;simp only[nM,List.mem_cons,List.not_mem_nil,or_false]at a;unfold b9 sizeOf;rcases a with rfl|rfl|rfl|rfl<;>simp[SB,KG]};unfold nM zV pj;simp
theorem OH:gP SB SC nM 0=(KQ,0):=by unfold gP;rw[if_neg (by simpa using tc),if_neg (by rw[fG];simp[SB,KG]),KR]
theorem OI:gP SB SC nM 1=(NW,0):=by unfold gP;rw[if_neg (by simpa using tc),if_neg (by rw[fG];simp[SB,KG]),Rk]
theorem KY:qC SB SC KQ=(0,nM,0):=by have h:=GV tc (bay:=0) (by rw[fG];simp[SB,KG]);rw[KR]at h;rw[h];congr 2;unfold zU;rw[List.filter_eq_self];intro x a;simp only[nM,List.mem_cons,List.not_mem_nil,or_false]at a;rw[decide_eq_true_eq];unfold JR;rcases a with rfl|rfl|rfl|rfl<;>simp[SB,KG]
def tEx:Mj
 |40=>some (abe,[.cell 0 (some 13)],11)
 |41=>some (SE,[.cell 8 (some 4)],15)
 |_=>none
theorem Rl:∀f a b c,tEx f=some (a,b,c)->∃accs,gF Tryz.prog (GG mx) accs f=some (a,b,c):=by intro f a b c h;unfold tEx at h;split at h;{cases h;exact⟨[],Vy⟩};{cases h;exact⟨[],Po⟩};cases h
theorem Fu{C V S T:List (List PV)}(b:C=SB.map aL.enc)(c:V=SC.map bz.enc)(d:S=nM.map aH.enc)(a:T=aS KQ): pC mx 8 [] (.eN [.agg [.sl C [],.sl V [],.int .i64 0,.int .i64 0,.int .i64 0,.int .i64 0,.sl [] [],.sl [] [],.sl [] [],.int .i64 0,.int .i64 0,.int .i64 0,.int .i64 0],.sl S [],.sl T []]):=by refine pT Rl SF ?_;(iterate 129 intro _);intro zI aU aV bC bA ag aC hT;refine bl hT ?_;refine aX ?_;rw[b,c,d,a];rfl
theorem KZ:pC mx 12 [] (.bool true):=by obtain⟨C,i⟩:∃x,x=SB.map aL.enc:=⟨_,rfl⟩;obtain⟨V,j⟩:∃x,x=SC.map bz.enc:=⟨_,rfl⟩;obtain⟨S,a⟩:∃x,x=nM.map aH.enc:=⟨_,rfl⟩;obtain⟨T,hT⟩:∃x,x=aS KQ:=⟨_,rfl⟩;obtain⟨v,k⟩:∃x,x=aS NW:=⟨_,rfl⟩;have w:=oz (mx:=mx) (csp:=[]) (vsp:=[]) (r:=[]) (rsp:=[]) (f:=[]) (fsp:=[]) (t:=[]) (tsp:=[]) (l1:=0) (l2:=0) (l3:=0) (l4:=0) (m1:=0) (m2:=0) (m3:=0) (m4:=0) (sp:=[]) (T:=T) (e:=0) (bay:=0) i j (by decide) (by decide) (by decide) (by decide) a (by decide) (by rw[OH,hT]) (by rw[OH]);have y:=oz (mx:=mx) (csp:=[]) (vsp:=[]) (r:=[]) (rsp:=[]) (f:=[]) (fsp:=[]) (t:=[]) (tsp:=[]) (l1:=0) (l2:=0) (l3:=0) (l4:=0) (m1:=0) (m2:=0) (m3:=0) (m4:=0) (sp:=[]) (T:=v) (e:=0) (bay:=1) i j (by decide) (by decide) (by decide) (by decide) a (by decide) (by rw[OI,k]) (by rw[OI]);have z:=NR (mx:=mx) (csp:=[]) (vsp:=[]) (r:=[]) (rsp:=[]) (f:=[]) (fsp:=[]) (t:=[]) (tsp:=[]) (l1:=0) (l2:=0) (l3:=0) (l4:=0) (m1:=0) (m2:=0) (m3:=0) (m4:=0) (b:=0) (R:=S) (e:=0) i j (by decide) (by decide) (by decide) (by decide) hT (by decide) (by decide) (by rw[KY]) (by rw[KY,a]) (by rw[KY]);refine pZ Kd ?_;intro _ _ _ _ _ p q;(iterate 114 intro _);intro s A u B _ _ _ _ zI aU aV bC bA ag aC;refine gK ?_;refine pO (Fu i j a hT) ?_;refine pO w ?_;refine pO y ?_;refine pO z ?_;rw[show q (p (u .i64 (s (u .i64 (s 0 0)) 0)) 0)=false by rw[<-aV,<-bA,<-B,<-A];decide+kernel];refine aY ?_;refine pO (zj hT hT (by decide) (decide_eq_true rfl).symm) ?_;rw[show q (p 0 0)=false by rw[<-aV,<-bA];rfl];refine aY ?_;refine pO (zr a a (by decide) (decide_eq_true rfl).symm) ?_;refine pO (zj k (by first|rfl|exact k) (b:=NW) (by decide) (decide_eq_true rfl).symm) ?_;refine aX ?_;rfl
end Go.bt
