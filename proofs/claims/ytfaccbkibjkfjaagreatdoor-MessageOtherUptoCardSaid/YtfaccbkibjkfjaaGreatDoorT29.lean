import Derived.Shelf.LaysM
import Derived.Shelf.Strconv.AtoiAll
import Derived.Shelf.Strconv.Clone
import Derived.Shelf.Strings.Replace
import Derived.Test.YtfaccbkibjkfjaaGreatDoorT14
import Derived.Test.YtfaccbkibjkfjaaGreatDoorT17
import Derived.Test.YtfaccbkibjkfjaaGreatDoorT16
import Derived.Test.YtfaccbkibjkfjaaGreatDoorT13
import Derived.Test.YtfaccbkibjkfjaaGreatDoorT10
set_option linter.all false
set_option maxRecDepth 100000
set_option maxHeartbeats 1000000
section
open Go Go.Proofs
namespace Go.Proofs
open Go.Shelf Go.RowKit
theorem Tryz.KF:Builder.Extra Tryz.prog Tryz.ub:={
 sizeBuilder:=by kernel_rfl
 liesBuilder:=by kernel_rfl
 t5:=Tryz.sA.t5
 a5:=Tryz.sA.a5
 z5:=Tryz.sA.z5
 v5:=Tryz.sA.v5
 infoByte:=by kernel_rfl
 cellsByte:=by kernel_rfl
 sizeByte:=by kernel_rfl
 neB5:=by decide
 }
theorem Tryz.strconv_Atoi_ok (s:ByteArray) (H2:s.size≤9223372036854775806) (v:Int) (h:Lib.atoiAll s.data.toList=.ok v) (w:World):
  Calls Tryz.prog 88 #[.string s] w fun e w'=>e=.returned (.tuple #[.int .i64 v,.nilIface])∧(w'=w∨∃t,w'=Lib.bytesWorld w (Tryz.sy.t 5) t):=Any.strconv_Atoi_ok Tryz.Kq s H2 v h w
theorem Tryz.stringslite_Clone (s:ByteArray) (w:World) (Ef:s.size≤281474976710656):
  Calls Tryz.prog 277 #[.string s] w fun e w'=>e=.returned (.string s)∧Below w.heap.size w w':=Any.stringslite_Clone Tryz.Kr s w Ef
theorem Tryz.strings_Replace (s old new:ByteArray) (n:Int) (m:Int) (w:World)
  (hs:s.size<4294967281) (hm:w.cell? ⟨3,0,none⟩=some (.int .i64 m)) (h1:1≤old.size) (hlen:s.size+Lib.countB s old*new.size≤140737488355328):
  Calls Tryz.prog 41 #[.string s,.string old,.string new,.int .i64 n] w fun e w'=>
   e=.returned (.string ⟨(Lib.replace s.data.toList old.data.toList new.data.toList n).toArray⟩)∧Below w.heap.size w w':=Any.strings_Replace Tryz.sA Tryz.KF s old new n m w hs hm h1 hlen
end Go.Proofs
end
section
open Go Go.Am Go.Proofs Go.bt
namespace Go.bt
open Go.RowKit
variable {mx:Int}
theorem VV {p:Prop} {i:Decidable p} (h:p):true=@decide p i:=by cases i with|isTrue _=>rfl|isFalse hn=>exact absurd h hn
theorem abK (v:Value) (w:World):(callFunc 88 #[v]).run Tryz.prog w=.ok (.enter 88 #[v]) w:=by kernel_rfl
theorem VW (v:Value) (w:World):(callFunc 277 #[v]).run Tryz.prog w=.ok (.enter 277 #[v]) w:=by kernel_rfl
theorem abL (a b c d:Value) (w:World):(callFunc 41 #[a,b,c,d]).run Tryz.prog w=.ok (.enter 41 #[a,b,c,d]) w:=by kernel_rfl
theorem jU {s:List UInt8} {v:Int} (hs:s.length≤1000) (h:Lib.atoiAll s=.ok v):pC mx 88 [.str s] (.eN [.int .i64 v,.j8]):=by
 intro S w vs hS hG hvs;simp only[aM,aD]at hvs;obtain⟨u,l,rfl,rfl,rfl⟩:=hvs;unfold dN;rw[show([Value.string ⟨s.toArray⟩]:List Value).toArray=#[.string ⟨s.toArray⟩] from rfl,abK];simp only;refine(Tryz.strconv_Atoi_ok ⟨s.toArray⟩ (by simp[ByteArray.size];omega) v (by simpa using h) w).mono ?_;rintro e w' ⟨rfl,hw⟩;refine⟨_,rfl,?_,?_⟩
 ·rcases hw with rfl|⟨t,rfl⟩
  ·exact Below.refl _ _
  ·exact Lib.bytesWorld_below _ _ _
 ·simp only[aD,aM];exact⟨[.int .i64 v,.nilIface],rfl,_,_,rfl,rfl,_,_,rfl,rfl,rfl⟩
theorem jV {s:List UInt8} (hs:s.length≤1000):pC mx 277 [.str s] (.str s):=by
 intro S w vs hS hG hvs;simp only[aM,aD]at hvs;obtain⟨u,l,rfl,rfl,rfl⟩:=hvs;unfold dN;rw[show([Value.string ⟨s.toArray⟩]:List Value).toArray=#[.string ⟨s.toArray⟩] from rfl,VW];simp only;refine(Tryz.stringslite_Clone ⟨s.toArray⟩ w (by simp[ByteArray.size];omega)).mono ?_;rintro e w' ⟨rfl,hw⟩;exact⟨_,rfl,hw,by simp only[aD]⟩
theorem jG {s a b r:List UInt8} {n:Int} (hs:s.length≤1000) (h1:1≤a.length) (hlen:s.length+Lib.countB ⟨s.toArray⟩ ⟨a.toArray⟩*b.length≤140737488355328) (h:Lib.replace s a b n=r):pC mx 41 [.str s,.str a,.str b,.int .i64 n] (.str r):=by
 intro S w vs hS hG hvs;simp only[aM,aD]at hvs;obtain⟨u,l,rfl,rfl,u2,l2,rfl,rfl,u3,l3,rfl,rfl,u4,l4,rfl,rfl,rfl⟩:=hvs;unfold dN;rw[show([Value.string ⟨s.toArray⟩,.string ⟨a.toArray⟩,.string ⟨b.toArray⟩,.int .i64 n]:List Value).toArray=#[.string ⟨s.toArray⟩,.string ⟨a.toArray⟩,.string ⟨b.toArray⟩,.int .i64 n] from rfl,abL];simp only
 have hm:w.cell? ⟨3,0,none⟩=some (.int .i64 mx):=by
  obtain⟨h1,c,h2,h3,h4⟩:=hG 3 [.int .i64 mx] rfl;simp only[dm,aD]at h3;obtain⟨⟨v,hv,rfl⟩,-⟩:=h3;unfold At at h2
  unfold World.cell?
  split at h2
  ·rename_i c' _ _ he;simp only[qaa]at h2;subst h2;simp[he,hv]
  ·cases h2
 refine(Tryz.strings_Replace ⟨s.toArray⟩ ⟨a.toArray⟩ ⟨b.toArray⟩ n mx w (by simp[ByteArray.size];omega) hm (by simpa[ByteArray.size]using h1) (by simpa[ByteArray.size]using hlen)).mono ?_;rintro e w' ⟨rfl,hw⟩;exact⟨_,rfl,hw,by simp only[aD];rw[←h]⟩
def KG (b r:Int) (d:Bool) (t:Int):aL:=⟨b,r,d,t,0,0,0,0,[],[],0,0,0⟩
def SB:List aL:=[KG 0 0 false 2,KG 0 1 false 2,KG 0 0 true 3,KG 0 1 true 3,KG 1 1 true 4]
def SC:List bz:=[⟨0,[0,1],[]⟩]
def fJ:PV:=.agg [.sl [[.int .i64 0,.int .i64 0,.bool false,.int .i64 2,.int .i64 0,.int .i64 0,.int .i64 0,.int .i64 0,.sl [] [],.int .i64 0,.int .i64 0,.int .i64 0],[.int .i64 0,.int .i64 1,.bool false,.int .i64 2,.int .i64 0,.int .i64 0,.int .i64 0,.int .i64 0,.sl [] [],.int .i64 0,.int .i64 0,.int .i64 0],[.int .i64 0,.int .i64 0,.bool true,.int .i64 3,.int .i64 0,.int .i64 0,.int .i64 0,.int .i64 0,.sl [] [],.int .i64 0,.int .i64 0,.int .i64 0],[.int .i64 0,.int .i64 1,.bool true,.int .i64 3,.int .i64 0,.int .i64 0,.int .i64 0,.int .i64 0,.sl [] [],.int .i64 0,.int .i64 0,.int .i64 0],[.int .i64 1,.int .i64 1,.bool true,.int .i64 4,.int .i64 0,.int .i64 0,.int .i64 0,.int .i64 0,.sl [] [],.int .i64 0,.int .i64 0,.int .i64 0]] [],.sl [[.int .i64 0,.sl [[.int .i64 0],[.int .i64 1]] []]] [],.int .i64 0,.int .i64 0,.int .i64 0,.int .i64 0,.sl [] [],.sl [] [],.sl [] [],.int .i64 0,.int .i64 0,.int .i64 0,.int .i64 0]
theorem abM:fo SB SC:=by
 unfold fo fX rb In qz iM qA;refine⟨by decide,by decide,?_⟩;unfold In
 decide
theorem Hv:pC mx 141 [fJ] (.bool true):=
 Aj (cl:=SB) (vl:=SC) rfl rfl (by decide) (by decide) (by decide) (by decide) (VV abM)
def Au (c:Int):bw:=⟨5,[67,83,81,85,51,48,53,52,51,56,51],40,true,9000,0,2,c,false⟩
theorem CB:iL (Au 3):=by
 unfold iL Au;refine⟨by decide,.inr ?_,by decide,by decide,by decide,by decide⟩;unfold hU ra
 decide
theorem Hw:pC mx 140 [.agg (Au 3).enc] (.bool true):=D9 rfl (VV CB)
theorem CD:iL (Au 0):=by
 unfold iL Au;refine⟨by decide,.inr ?_,by decide,by decide,by decide,by decide⟩;unfold hU ra
 decide
theorem Hx:pC mx 140 [.agg (Au 0).enc] (.bool true):=D9 rfl (VV CD)
def wX:List UInt8:=[72,69,68,43,82,49,43,66,65,89,80,76,78,39,86,79,89,43,49,43,68,69,72,65,77,39,76,79,67,43,48,48,50,48,48,56,50,39,69,81,68,43,53,43,67,83,81,85,51,48,53,52,51,56,51,43,52,53,71,49,39,77,69,65,43,57,48,48,48,39,82,70,70,43,48,43,50,39,68,71,83,43,51,39,69,78,68,43,56,43,82,49,39]
def lx0:PV:=.eN [.sl [[.sl [[.sl [[.str [72,69,68]]] []],[.sl [[.str [82,49]]] []],[.sl [[.str [66,65,89,80,76,78]]] []]] []],[.sl [[.sl [[.str [86,79,89]]] []],[.sl [[.str [49]]] []],[.sl [[.str [68,69,72,65,77]]] []]] []],[.sl [[.sl [[.str [76,79,67]]] []],[.sl [[.str [48,48,50,48,48,56,50]]] []]] []],[.sl [[.sl [[.str [69,81,68]]] []],[.sl [[.str [53]]] []],[.sl [[.str [67,83,81,85,51,48,53,52,51,56,51]]] []],[.sl [[.str [52,53,71,49]]] []]] []],[.sl [[.sl [[.str [77,69,65]]] []],[.sl [[.str [57,48,48,48]]] []]] []],[.sl [[.sl [[.str [82,70,70]]] []],[.sl [[.str [48]]] []],[.sl [[.str [50]]] []]] []],[.sl [[.sl [[.str [68,71,83]]] []],[.sl [[.str [51]]] []]] []],[.sl [[.sl [[.str [69,78,68]]] []],[.sl [[.str [56]]] []],[.sl [[.str [82,49]]] []]] []]] [],.int .i64 0,.int .i64 0]
def sg0:PV:=.eN [.sl [[.str [66,65,89,80,76,78],.str [82,49],.sl [[.str [86,79,89],.sl [[.sl [[.str [49]]] []],[.sl [[.str [68,69,72,65,77]]] []]] []],[.str [76,79,67],.sl [[.sl [[.str [48,48,50,48,48,56,50]]] []]] []],[.str [69,81,68],.sl [[.sl [[.str [53]]] []],[.sl [[.str [67,83,81,85,51,48,53,52,51,56,51]]] []],[.sl [[.str [52,53,71,49]]] []]] []],[.str [77,69,65],.sl [[.sl [[.str [57,48,48,48]]] []]] []],[.str [82,70,70],.sl [[.sl [[.str [48]]] []],[.sl [[.str [50]]] []]] []],[.str [68,71,83],.sl [[.sl [[.str [51]]] []]] []]] []]] [],.int .i64 0,.int .i64 0]
def ms0:PV:=.eN [.str [82,49],.agg [.int .i64 1,.str [68,69,72,65,77],.sl [[.int .i64 5,.str [67,83,81,85,51,48,53,52,51,56,51],.int .u8 40,.bool true,.int .i64 9000,.int .i64 0,.int .i64 2,.int .u8 3,.bool false]] [],.sl [[.int .i64 5,.int .i64 2,.int .i64 0,.int .u8 0]] []],.int .i64 0]
def Ld:List UInt8:=[72,69,68,43,82,49,43,66,65,89,80,76,78,39,86,79,89,43,49,43,68,69,72,65,77,39,76,79,67,43,48,48,50,48,48,56,50,39,69,81,68,43,53,43,67,83,81,85,51,48,53,52,51,56,51,43,52,53,71,49,39,77,69,65,43,57,48,48,48,39,82,70,70,43,48,43,50,39,69,78,68,43,55,43,82,49,39]
def lx1:PV:=.eN [.sl [[.sl [[.sl [[.str [72,69,68]]] []],[.sl [[.str [82,49]]] []],[.sl [[.str [66,65,89,80,76,78]]] []]] []],[.sl [[.sl [[.str [86,79,89]]] []],[.sl [[.str [49]]] []],[.sl [[.str [68,69,72,65,77]]] []]] []],[.sl [[.sl [[.str [76,79,67]]] []],[.sl [[.str [48,48,50,48,48,56,50]]] []]] []],[.sl [[.sl [[.str [69,81,68]]] []],[.sl [[.str [53]]] []],[.sl [[.str [67,83,81,85,51,48,53,52,51,56,51]]] []],[.sl [[.str [52,53,71,49]]] []]] []],[.sl [[.sl [[.str [77,69,65]]] []],[.sl [[.str [57,48,48,48]]] []]] []],[.sl [[.sl [[.str [82,70,70]]] []],[.sl [[.str [48]]] []],[.sl [[.str [50]]] []]] []],[.sl [[.sl [[.str [69,78,68]]] []],[.sl [[.str [55]]] []],[.sl [[.str [82,49]]] []]] []]] [],.int .i64 0,.int .i64 0]
def sg1:PV:=.eN [.sl [[.str [66,65,89,80,76,78],.str [82,49],.sl [[.str [86,79,89],.sl [[.sl [[.str [49]]] []],[.sl [[.str [68,69,72,65,77]]] []]] []],[.str [76,79,67],.sl [[.sl [[.str [48,48,50,48,48,56,50]]] []]] []],[.str [69,81,68],.sl [[.sl [[.str [53]]] []],[.sl [[.str [67,83,81,85,51,48,53,52,51,56,51]]] []],[.sl [[.str [52,53,71,49]]] []]] []],[.str [77,69,65],.sl [[.sl [[.str [57,48,48,48]]] []]] []],[.str [82,70,70],.sl [[.sl [[.str [48]]] []],[.sl [[.str [50]]] []]] []]] []]] [],.int .i64 0,.int .i64 0]
def ms1:PV:=.eN [.str [82,49],.agg [.int .i64 1,.str [68,69,72,65,77],.sl [[.int .i64 5,.str [67,83,81,85,51,48,53,52,51,56,51],.int .u8 40,.bool true,.int .i64 9000,.int .i64 0,.int .i64 2,.int .u8 0,.bool false]] [],.sl [[.int .i64 5,.int .i64 2,.int .i64 0,.int .u8 0]] []],.int .i64 0]
def Le:List UInt8:=[72,69,68,43,82,49,43,66,65,89,80,76,78,39,86,79,89,43,49,43,68,69,72,65,77,39,76,79,67,43,48,48,50,48,48,56,52,39,69,81,68,43,53,43,67,83,81,85,51,48,53,52,51,56,51,43,52,53,71,49,39,77,69,65,43,57,48,48,48,39,82,70,70,43,48,43,50,39,68,71,83,43,51,39,69,78,68,43,56,43,82,49,39]
def lx2:PV:=.eN [.sl [[.sl [[.sl [[.str [72,69,68]]] []],[.sl [[.str [82,49]]] []],[.sl [[.str [66,65,89,80,76,78]]] []]] []],[.sl [[.sl [[.str [86,79,89]]] []],[.sl [[.str [49]]] []],[.sl [[.str [68,69,72,65,77]]] []]] []],[.sl [[.sl [[.str [76,79,67]]] []],[.sl [[.str [48,48,50,48,48,56,52]]] []]] []],[.sl [[.sl [[.str [69,81,68]]] []],[.sl [[.str [53]]] []],[.sl [[.str [67,83,81,85,51,48,53,52,51,56,51]]] []],[.sl [[.str [52,53,71,49]]] []]] []],[.sl [[.sl [[.str [77,69,65]]] []],[.sl [[.str [57,48,48,48]]] []]] []],[.sl [[.sl [[.str [82,70,70]]] []],[.sl [[.str [48]]] []],[.sl [[.str [50]]] []]] []],[.sl [[.sl [[.str [68,71,83]]] []],[.sl [[.str [51]]] []]] []],[.sl [[.sl [[.str [69,78,68]]] []],[.sl [[.str [56]]] []],[.sl [[.str [82,49]]] []]] []]] [],.int .i64 0,.int .i64 0]
def sg2:PV:=.eN [.sl [[.str [66,65,89,80,76,78],.str [82,49],.sl [[.str [86,79,89],.sl [[.sl [[.str [49]]] []],[.sl [[.str [68,69,72,65,77]]] []]] []],[.str [76,79,67],.sl [[.sl [[.str [48,48,50,48,48,56,52]]] []]] []],[.str [69,81,68],.sl [[.sl [[.str [53]]] []],[.sl [[.str [67,83,81,85,51,48,53,52,51,56,51]]] []],[.sl [[.str [52,53,71,49]]] []]] []],[.str [77,69,65],.sl [[.sl [[.str [57,48,48,48]]] []]] []],[.str [82,70,70],.sl [[.sl [[.str [48]]] []],[.sl [[.str [50]]] []]] []],[.str [68,71,83],.sl [[.sl [[.str [51]]] []]] []]] []]] [],.int .i64 0,.int .i64 0]
def ms2:PV:=.eN [.str [],.agg [.int .i64 0,.str [],.sl [] [],.sl [] []],.int .i64 393]
def Lf:List UInt8:=[72,69,68,43,82,49,43,66,65,89,80,76,78,39,86,79,89,43,49,43,68,69,72,65,77,39,76,79,67,43,48,48,50,48,48,56,50,39,69,81,68,43,53,43,67,83,81,85,51,48,53,52,51,56,51,43,52,53,71,49,39,77,69,65,43,48,57,48,48,48,39,82,70,70,43,48,43,50,39,68,71,83,43,51,39,69,78,68,43,56,43,82,49,39]
def lx3:PV:=.eN [.sl [[.sl [[.sl [[.str [72,69,68]]] []],[.sl [[.str [82,49]]] []],[.sl [[.str [66,65,89,80,76,78]]] []]] []],[.sl [[.sl [[.str [86,79,89]]] []],[.sl [[.str [49]]] []],[.sl [[.str [68,69,72,65,77]]] []]] []],[.sl [[.sl [[.str [76,79,67]]] []],[.sl [[.str [48,48,50,48,48,56,50]]] []]] []],[.sl [[.sl [[.str [69,81,68]]] []],[.sl [[.str [53]]] []],[.sl [[.str [67,83,81,85,51,48,53,52,51,56,51]]] []],[.sl [[.str [52,53,71,49]]] []]] []],[.sl [[.sl [[.str [77,69,65]]] []],[.sl [[.str [48,57,48,48,48]]] []]] []],[.sl [[.sl [[.str [82,70,70]]] []],[.sl [[.str [48]]] []],[.sl [[.str [50]]] []]] []],[.sl [[.sl [[.str [68,71,83]]] []],[.sl [[.str [51]]] []]] []],[.sl [[.sl [[.str [69,78,68]]] []],[.sl [[.str [56]]] []],[.sl [[.str [82,49]]] []]] []]] [],.int .i64 0,.int .i64 0]
def sg3:PV:=.eN [.sl [[.str [66,65,89,80,76,78],.str [82,49],.sl [[.str [86,79,89],.sl [[.sl [[.str [49]]] []],[.sl [[.str [68,69,72,65,77]]] []]] []],[.str [76,79,67],.sl [[.sl [[.str [48,48,50,48,48,56,50]]] []]] []],[.str [69,81,68],.sl [[.sl [[.str [53]]] []],[.sl [[.str [67,83,81,85,51,48,53,52,51,56,51]]] []],[.sl [[.str [52,53,71,49]]] []]] []],[.str [77,69,65],.sl [[.sl [[.str [48,57,48,48,48]]] []]] []],[.str [82,70,70],.sl [[.sl [[.str [48]]] []],[.sl [[.str [50]]] []]] []],[.str [68,71,83],.sl [[.sl [[.str [51]]] []]] []]] []]] [],.int .i64 0,.int .i64 0]
def ms3:PV:=.eN [.str [],.agg [.int .i64 0,.str [],.sl [] [],.sl [] []],.int .i64 393]
def Lg:List UInt8:=[72,69,68,43,82,49,43,76,79,65,68,76,83,39,86,79,89,43,49,43,68,69,72,65,77,39,76,79,67,43,48,48,50,48,48,56,50,39,69,81,68,43,53,43,67,83,81,85,51,48,53,52,51,56,51,43,52,53,71,49,39,77,69,65,43,57,48,48,48,39,82,70,70,43,48,43,50,39,68,71,83,43,51,39,69,78,68,43,56,43,82,49,39]
def lx4:PV:=.eN [.sl [[.sl [[.sl [[.str [72,69,68]]] []],[.sl [[.str [82,49]]] []],[.sl [[.str [76,79,65,68,76,83]]] []]] []],[.sl [[.sl [[.str [86,79,89]]] []],[.sl [[.str [49]]] []],[.sl [[.str [68,69,72,65,77]]] []]] []],[.sl [[.sl [[.str [76,79,67]]] []],[.sl [[.str [48,48,50,48,48,56,50]]] []]] []],[.sl [[.sl [[.str [69,81,68]]] []],[.sl [[.str [53]]] []],[.sl [[.str [67,83,81,85,51,48,53,52,51,56,51]]] []],[.sl [[.str [52,53,71,49]]] []]] []],[.sl [[.sl [[.str [77,69,65]]] []],[.sl [[.str [57,48,48,48]]] []]] []],[.sl [[.sl [[.str [82,70,70]]] []],[.sl [[.str [48]]] []],[.sl [[.str [50]]] []]] []],[.sl [[.sl [[.str [68,71,83]]] []],[.sl [[.str [51]]] []]] []],[.sl [[.sl [[.str [69,78,68]]] []],[.sl [[.str [56]]] []],[.sl [[.str [82,49]]] []]] []]] [],.int .i64 0,.int .i64 0]
def sg4:PV:=.eN [.sl [[.str [76,79,65,68,76,83],.str [82,49],.sl [[.str [86,79,89],.sl [[.sl [[.str [49]]] []],[.sl [[.str [68,69,72,65,77]]] []]] []],[.str [76,79,67],.sl [[.sl [[.str [48,48,50,48,48,56,50]]] []]] []],[.str [69,81,68],.sl [[.sl [[.str [53]]] []],[.sl [[.str [67,83,81,85,51,48,53,52,51,56,51]]] []],[.sl [[.str [52,53,71,49]]] []]] []],[.str [77,69,65],.sl [[.sl [[.str [57,48,48,48]]] []]] []],[.str [82,70,70],.sl [[.sl [[.str [48]]] []],[.sl [[.str [50]]] []]] []],[.str [68,71,83],.sl [[.sl [[.str [51]]] []]] []]] []]] [],.int .i64 0,.int .i64 0]
def ms4:PV:=.eN [.str [],.agg [.int .i64 0,.str [],.sl [] [],.sl [] []],.int .i64 392]
def lK:List (Nat×List PV×PV):=[(32,[.int .i64 0],.str [48]),
 (32,[.int .i64 1],.str [49]),
 (32,[.int .i64 2],.str [50]),
 (32,[.int .i64 3],.str [51]),
 (32,[.int .i64 5],.str [53]),
 (32,[.int .i64 7],.str [55]),
 (32,[.int .i64 8],.str [56]),
 (32,[.int .i64 9000],.str [57,48,48,48]),
 (88,[.str [48]],.eN [.int .i64 0,.j8]),
 (88,[.str [49]],.eN [.int .i64 1,.j8]),
 (88,[.str [50]],.eN [.int .i64 2,.j8]),
 (88,[.str [51]],.eN [.int .i64 3,.j8]),
 (88,[.str [53]],.eN [.int .i64 5,.j8]),
 (88,[.str [57,48,48,48]],.eN [.int .i64 9000,.j8]),
 (88,[.str [48,57,48,48,48]],.eN [.int .i64 9000,.j8]),
 (277,[.str [86,79,89]],.str [86,79,89]),
 (277,[.str [76,79,67]],.str [76,79,67]),
 (277,[.str [69,81,68]],.str [69,81,68]),
 (277,[.str [77,69,65]],.str [77,69,65]),
 (277,[.str [82,70,70]],.str [82,70,70]),
 (277,[.str [68,71,83]],.str [68,71,83]),
 (140,[.agg (Au 3).enc],.bool true),
 (140,[.agg (Au 0).enc],.bool true),
 (141,[fJ],.bool true)]
theorem gD:eX Tryz.prog (GG mx) lK:=
 aE (mg (n:=0) (by decide) (by simp[digits])) (
 aE (mg (n:=1) (by decide) (by simp[digits])) (
 aE (mg (n:=2) (by decide) (by simp[digits])) (
 aE (mg (n:=3) (by decide) (by simp[digits])) (
 aE (mg (n:=5) (by decide) (by simp[digits])) (
 aE (mg (n:=7) (by decide) (by simp[digits])) (
 aE (mg (n:=8) (by decide) (by simp[digits])) (
 aE (mg (n:=9000) (by decide) (by simp[digits])) (
 aE (jU (by decide) (by rfl)) (
 aE (jU (by decide) (by rfl)) (
 aE (jU (by decide) (by rfl)) (
 aE (jU (by decide) (by rfl)) (
 aE (jU (by decide) (by rfl)) (
 aE (jU (by decide) (by rfl)) (
 aE (jU (by decide) (by rfl)) (
 aE (jV (by decide)) (
 aE (jV (by decide)) (
 aE (jV (by decide)) (
 aE (jV (by decide)) (
 aE (jV (by decide)) (
 aE (jV (by decide)) (
 aE (Hw) (
 aE (Hx) (
 aE (Hv) (pR))))))))))))))))))))))))
end Go.bt
end
