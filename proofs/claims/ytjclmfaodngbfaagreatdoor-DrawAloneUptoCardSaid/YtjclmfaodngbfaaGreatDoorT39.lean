import Derived.Test.YtjclmfaodngbfaaGreatDoorT34
import Derived.Test.YtjclmfaodngbfaaGreatDoorT14
import Derived.Test.YtjclmfaodngbfaaGreatDoorT08
set_option linter.all false
set_option maxRecDepth 100000
set_option maxHeartbeats 1000000
namespace Go.bt
open Go Go.Am Go.Proofs
variable {G:Nat->Option (List PV)} {K:AV->St->Prop} {st:St}
theorem FA{P:Program}{f:FuncId}{c:List AV}{id sz ver:Nat}{rs:List (List PV)}(h:Hf P G f c st (fun r s=>r=.c8 id ver/\aj s.mem id=some (.rows sz rs ver)/\K (.pv (.sl rs [])) (s.aq id (.eO rs ver)))):Hf P G f c st K:=by intro w0 own0 hvs S0 γ S a w vs k l m n;refine dN.mono (fun v w' o=>?_) (h w0 own0 hvs S0 γ S a w vs k l m n);obtain⟨r,st',γ',S',⟨rfl,hm,p⟩,g1,g2,e,g⟩:=o;obtain⟨q,t,u,x,y⟩:=dW.freeze e hm;refine⟨_,_,_,q,p,fun b d=>t b (g1 b d),fun b d=>?_,x,?_⟩;{rcases u b d with d|⟨i,z⟩;{exact g2 b d};exact .inr (e.own i b z).2};simp only[lF]at g ⊢;have j:=y _ _ g;simp only[Ref,St.aq,uQ (bT hm),if_true]at j;exact j.2 trivial
theorem PB(a b c:Value)(w:World):(callFunc 20 #[a,b,c]).run Tryz.prog w=.ok (.enter 20 #[a,b,c]) w:=by kernel_rfl
theorem zA{id a:Nat}{L:List aH}{d f:Int}{i:Nat}(h:aj st.mem id=some (.rows 4 (L.map aH.enc) a))(k:d=(i:Int))(l:f=((i+1:Nat):Int))(y:i<L.length)(m:K (.c8 id (a+1)) (st.aq id (.rows 4 ((L.take i++L.drop (i+1)).map aH.enc) (a+1)))):Hf Tryz.prog G 20 [.c8 id a,.pv (.int .i64 d),.pv (.int .i64 f)] st K:=by have z:(L.map aH.enc).length=L.length:=by{simp};refine Hr (j:=i+1) h (fun r n p g=>?_) k l (by omega) (by omega) (fun w b c o q s hl t=>?_) (by simpa[List.map_take,List.map_drop]using m);{obtain⟨x,-,rfl⟩:=List.mem_map.1 n;simp only[aH.enc,List.mem_cons,List.not_mem_nil,or_false]at g;rcases g with rfl|rfl|rfl|rfl<;>rfl};unfold dN;rw[PB];refine(Rr b c (L.map aH.enc).length i (i+1) (by omega) (by omega) o w q s hl t).mono ?_;rintro e w' ⟨rfl,u,v,rfl⟩;exact⟨_,rfl,rfl,u,v,rfl⟩
end Go.bt
