import Derived.Test.YtfaccbkibjkfjaaGreatDoorT13
import Derived.Test.YtfaccbkibjkfjaaGreatDoorT16
import Derived.Test.YtfaccbkibjkfjaaGreatDoorT12
set_option linter.all false
set_option maxRecDepth 100000
set_option maxHeartbeats 1000000
namespace Go.Proofs
open Go Go.Proofs
open Go.Shelf Go.RowKit
theorem Tryz.YL:Builder.Extra Tryz.prog Tryz.ub:={sizeBuilder:=k_,liesBuilder:=k_,t5:=Tryz.sA.t5,a5:=Tryz.sA.a5,z5:=Tryz.sA.z5,v5:=Tryz.sA.v5,infoByte:=k_,cellsByte:=k_,sizeByte:=k_,neB5:=d_}
theorem Tryz.strconv_Atoi_ok(s:ByteArray)(a:s.size<=9223372036854775806)(v:Int)(h:Lib.atoiAll s.data.toList=.ok v)(w:World): Calls Tryz.prog 88 #[.string s] w fun e w'=>e=.returned (.tuple #[.i v,.nilIface])/\(w'=w\/∃t,w'=Lib.bytesWorld w (Tryz.sy.t 5) t):=Any.strconv_Atoi_ok Tryz.Kq s a v h w
theorem Tryz.stringslite_Clone(s:ByteArray)(w:World)(a:s.size<=281474976710656): Calls Tryz.prog 277 #[.string s] w fun e w'=>e=.returned (.string s)/\Below w.heap.size w w':=Any.stringslite_Clone Tryz.Kr s w a
theorem Tryz.strings_Replace(s a new:ByteArray)(n:Int)(m:Int)(w:World)(hs:s.size<4294967281)(c:w.cell? ⟨3,0,none⟩=some (.i m))(h1:1<=a.size)(b:s.size+Lib.countB s a*new.size<=140737488355328): Calls Tryz.prog 41 #[.string s,.string a,.string new,.i n] w fun e w'=>e=.returned (.string ⟨(Lib.replace s.data.toList a.data.toList new.data.toList n).toArray⟩)/\Below w.heap.size w w':=Any.strings_Replace Tryz.sA Tryz.YL s a new n m w hs c h1 b
end Go.Proofs
namespace Go.aA
open Go Go.Am Go.Proofs Go.aA
open Go.RowKit
variable {s:B_} {mx:Int}
theorem abK(v:Value)(w:World):(callFunc 88 #[v]).run Tryz.prog w=.ok (.enter 88 #[v]) w:=k_
theorem VW(v:Value)(w:World):(callFunc 277 #[v]).run Tryz.prog w=.ok (.enter 277 #[v]) w:=k_
theorem abL(a b c d:Value)(w:World):(callFunc 41 #[a,b,c,d]).run Tryz.prog w=.ok (.enter 41 #[a,b,c,d]) w:=k_
theorem jU{v:Int}(hs:s.length<=1000)(h:Lib.atoiAll s=.ok v):pC mx 88 [.str s] (.eN [.i v,.j8]):=by intro S w b c d hvs;simp only[aM,aD]at hvs;obtain⟨u,l,rfl,rfl,rfl⟩:=hvs;unfold dN;rw[show([Value.string ⟨s.toArray⟩]:List Value).toArray=#[.string ⟨s.toArray⟩] from rfl,abK];simp only;refine(Tryz.strconv_Atoi_ok ⟨s.toArray⟩ (by simp[ByteArray.size];omega) v (by simpa using h) w).mono ?_;rintro e w' ⟨rfl,a⟩;refine⟨_,rfl,?_,?_⟩;{rcases a with rfl|⟨t,rfl⟩;{exact Below.refl _ _};exact Lib.bytesWorld_below _ _ _};simp only[aD,aM];exact⟨[.i v,.nilIface],rfl,_,_,rfl,rfl,_,_,rfl,rfl,rfl⟩
theorem jV(hs:s.length<=1000):pC mx 277 [.str s] (.str s):=by intro S w b c d hvs;simp only[aM,aD]at hvs;obtain⟨u,l,rfl,rfl,rfl⟩:=hvs;unfold dN;rw[show([Value.string ⟨s.toArray⟩]:List Value).toArray=#[.string ⟨s.toArray⟩] from rfl,VW];simp only;refine(Tryz.stringslite_Clone ⟨s.toArray⟩ w (by simp[ByteArray.size];omega)).mono ?_;rintro e w' ⟨rfl,a⟩;exact⟨_,rfl,a,by simp only[aD]⟩
theorem jG{a b r:B_}{n:Int}(hs:s.length<=1000)(h1:1<=a.length)(d:s.length+Lib.countB ⟨s.toArray⟩ ⟨a.toArray⟩*b.length<=140737488355328)(h:Lib.replace s a b n=r):pC mx 41 [.str s,.str a,.str b,.i n] (.str r):=by intro S w p q i hvs;simp only[aM,aD]at hvs;obtain⟨u,l,rfl,rfl,t,x,rfl,rfl,y,z,rfl,rfl,A,B,rfl,rfl,rfl⟩:=hvs;unfold dN;rw[show([Value.string ⟨s.toArray⟩,.string ⟨a.toArray⟩,.string ⟨b.toArray⟩,.i n]:List Value).toArray=#[.string ⟨s.toArray⟩,.string ⟨a.toArray⟩,.string ⟨b.toArray⟩,.i n] from rfl,abL];simp only;have j:w.cell? ⟨3,0,none⟩=some (.i mx):=by{obtain⟨h1,c,f,g,C⟩:=i 3 [.i mx] rfl;simp only[dm,aD]at g;obtain⟨⟨v,k,rfl⟩,-⟩:=g;unfold At at f;unfold World.cell?;split at f;{rename_i D _ _ m;simp only[qaa]at f;subst f;simp[m,k]};cases f};refine(Tryz.strings_Replace ⟨s.toArray⟩ ⟨a.toArray⟩ ⟨b.toArray⟩ n mx w (by simp[ByteArray.size];omega) j (by simpa[ByteArray.size]using h1) (by simpa[ByteArray.size]using d)).mono ?_;rintro e w' ⟨rfl,o⟩;exact⟨_,rfl,o,by simp only[aD];rw[<-h]⟩
def KG(b r:Int)(d:Bool)(t:Int):aL:=⟨b,r,d,t,0,0,0,0,[],[],0,0,0⟩
def SB:List aL:=[KG 0 0 false 2,KG 0 1 false 2,KG 0 0 true 3,KG 0 1 true 3,KG 1 1 true 4]
def SC:List bz:=[⟨0,[0,1],[]⟩]
def fJ:PV:=.agg [.sl [[.i 0,.i 0,.bool false,.i 2,.i 0,.i 0,.i 0,.i 0,.sl [] [],.i 0,.i 0,.i 0],[.i 0,.i 1,.bool false,.i 2,.i 0,.i 0,.i 0,.i 0,.sl [] [],.i 0,.i 0,.i 0],[.i 0,.i 0,.bool true,.i 3,.i 0,.i 0,.i 0,.i 0,.sl [] [],.i 0,.i 0,.i 0],[.i 0,.i 1,.bool true,.i 3,.i 0,.i 0,.i 0,.i 0,.sl [] [],.i 0,.i 0,.i 0],[.i 1,.i 1,.bool true,.i 4,.i 0,.i 0,.i 0,.i 0,.sl [] [],.i 0,.i 0,.i 0]] [],.sl [[.i 0,.sl [[.i 0],[.i 1]] []]] [],.i 0,.i 0,.i 0,.i 0,.sl [] [],.sl [] [],.sl [] [],.i 0,.i 0,.i 0,.i 0]
theorem abM:fo SB SC:=by unfold fo fX rb In Je iM qA;refine⟨d_,d_,?_⟩;unfold In;decide
def Au(c:Int):bw:=⟨5,[67,83,81,85,51,48,53,52,51,56,51],40,true,9000,0,2,c,false⟩
theorem CB:iL (Au 3):=by unfold iL Au;refine⟨d_,.inr ?_,d_,d_,d_,d_⟩;unfold hU ra;decide
theorem CD:iL (Au 0):=by unfold iL Au;refine⟨d_,.inr ?_,d_,d_,d_,d_⟩;unfold hU ra;decide
def wX:B_:=[72,69,68,43,82,49,43,66,65,89,80,76,78,39,86,79,89,43,49,43,68,69,72,65,77,39,76,79,67,43,48,48,50,48,48,56,50,39,69,81,68,43,53,43,67,83,81,85,51,48,53,52,51,56,51,43,52,53,71,49,39,77,69,65,43,57,48,48,48,39,82,70,70,43,48,43,50,39,68,71,83,43,51,39,69,78,68,43,56,43,82,49,39]
def Ld:B_:=[72,69,68,43,82,49,43,66,65,89,80,76,78,39,86,79,89,43,49,43,68,69,72,65,77,39,76,79,67,43,48,48,50,48,48,56,50,39,69,81,68,43,53,43,67,83,81,85,51,48,53,52,51,56,51,43,52,53,71,49,39,77,69,65,43,57,48,48,48,39,82,70,70,43,48,43,50,39,69,78,68,43,55,43,82,49,39]
def Le:B_:=[72,69,68,43,82,49,43,66,65,89,80,76,78,39,86,79,89,43,49,43,68,69,72,65,77,39,76,79,67,43,48,48,50,48,48,56,52,39,69,81,68,43,53,43,67,83,81,85,51,48,53,52,51,56,51,43,52,53,71,49,39,77,69,65,43,57,48,48,48,39,82,70,70,43,48,43,50,39,68,71,83,43,51,39,69,78,68,43,56,43,82,49,39]
def Lf:B_:=[72,69,68,43,82,49,43,66,65,89,80,76,78,39,86,79,89,43,49,43,68,69,72,65,77,39,76,79,67,43,48,48,50,48,48,56,50,39,69,81,68,43,53,43,67,83,81,85,51,48,53,52,51,56,51,43,52,53,71,49,39,77,69,65,43,48,57,48,48,48,39,82,70,70,43,48,43,50,39,68,71,83,43,51,39,69,78,68,43,56,43,82,49,39]
def Lg:B_:=[72,69,68,43,82,49,43,76,79,65,68,76,83,39,86,79,89,43,49,43,68,69,72,65,77,39,76,79,67,43,48,48,50,48,48,56,50,39,69,81,68,43,53,43,67,83,81,85,51,48,53,52,51,56,51,43,52,53,71,49,39,77,69,65,43,57,48,48,48,39,82,70,70,43,48,43,50,39,68,71,83,43,51,39,69,78,68,43,56,43,82,49,39]
end Go.aA
