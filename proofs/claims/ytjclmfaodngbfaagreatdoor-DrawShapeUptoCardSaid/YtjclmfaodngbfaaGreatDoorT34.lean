import Derived.WalkKit
import Derived.Laws.Concat
import Derived.Laws.Cover4
import Derived.Test.YtjclmfaodngbfaaGreatDoorT15
import Derived.Test.YtjclmfaodngbfaaGreatDoorT16
import Derived.Test.YtjclmfaodngbfaaGreatDoorT23
import Derived.Test.YtjclmfaodngbfaaGreatDoorT09
import Derived.Test.YtjclmfaodngbfaaGreatDoorT07
import Derived.Test.YtjclmfaodngbfaaGreatDoorT14
set_option linter.all false
set_option maxRecDepth 100000
set_option maxHeartbeats 1000000
namespace Go.bt
section
open Go Go.Am Go.Proofs
open Go.RowKit
variable {s:List UInt8} {mx:Int}
theorem SM(a b:Value)(w:World):(callFunc 34 #[a,b]).run Tryz.prog w=.ok (.enter 34 #[a,b]) w:=by kernel_rfl
theorem SN(a:Value)(w:World):(callFunc 35 #[a]).run Tryz.prog w=.ok (.enter 35 #[a]) w:=by kernel_rfl
theorem SZ(a b c:Value)(w:World):(callFunc 36 #[a,b,c]).run Tryz.prog w=.ok (.enter 36 #[a,b,c]) w:=by kernel_rfl
theorem P6{p:List UInt8}{b:Bool}(a:b=Lib.hasPrefix s p):pC mx 34 [.str s,.str p] (.bool b):=by subst a;intro S w c d f hvs;obtain⟨u,l,rfl,rfl,g,h,rfl,rfl,rfl⟩:=hvs;unfold dN;rw[show([Value.string ⟨s.toArray⟩,.string ⟨p.toArray⟩]:List Value).toArray=#[.string ⟨s.toArray⟩,.string ⟨p.toArray⟩] from rfl,SM];refine(Tryz.strings_HasPrefix ⟨s.toArray⟩ ⟨p.toArray⟩ w).mono ?_;rintro e w' ⟨rfl,rfl⟩;exact⟨_,rfl,Below.refl _ _,by simp[aD]⟩
theorem wk{c:UInt8}(i:c≠32):∀{n:Nat} {s:List UInt8},s.length<=n->Lib.replaceK [c] [32] (s.count c) s=blank c s
|n,s,f=>by by_cases b:c∈s;{obtain⟨a,r,rfl,d⟩:=List.eq_append_cons_of_mem b;cases n with|zero=>simp at f|succ n=>have h:=wk i (n:=n) (s:=r) (by simp at f;omega);have j:Lib.index (a++c::r) [c]=(a.length:Int):=by{rw[Lib.index_one];clear h f b;induction a with|nil=>simp[Lib.indexByte]|cons x a g=>have k:¬x=c:=fun e=>d (by rw[e];exact List.mem_cons_self ..);simp only[List.cons_append,Lib.indexByte,List.length_cons];rw[g (fun b=>d (List.mem_cons_of_mem _ b))];simp[k]};rw[List.count_append,List.count_eq_zero.2 d,List.count_cons_self,Nat.zero_add,Lib.replaceK_hit [c] [32] _ _ _ j,xo,CN d];simp only[List.length_singleton];rw[List.take_left,show a.length+1=(a++[c]).length by simp,show a++c::r=(a++[c])++r by simp,List.drop_left,h];simp[blank]};rw[List.count_eq_zero.2 b,Lib.replaceK,CN b]
theorem GV{t:List UInt8}{c:UInt8}(a:c≠32)(i:s.length<2^30)(b:t=blank c s):pC mx 36 [.str s,.str [c],.str [32]] (.str t):=by subst b;intro S w j k d hvs;obtain⟨u,l,rfl,rfl,m,n,rfl,rfl,o,p,rfl,rfl,rfl⟩:=hvs;unfold dN;rw[show([Value.string ⟨s.toArray⟩,.string ⟨#[c]⟩,.string ⟨#[32]⟩]:List Value).toArray=#[.string ⟨s.toArray⟩,.string ⟨#[c]⟩,.string ⟨#[32]⟩] from rfl,SZ];have f:Lib.countB ⟨s.toArray⟩ ⟨#[c]⟩=s.count c:=by{show Lib.countB ⟨s.toArray⟩ ⟨[c].toArray⟩=s.count c;grind[Lib.count_one]};have q:s.count c<=s.length:=List.count_le_length;refine(Tryz.strings_ReplaceAll ⟨s.toArray⟩ ⟨#[c]⟩ ⟨#[32]⟩ mx w (by show s.toArray.size<_;simp;omega) (ahU d) (by show 1<=1;omega) (by rw[f];show s.toArray.size+s.count c*1<=_;simp;omega)).mono ?_;rintro e w' ⟨rfl,g⟩;have h:Lib.replaceAll s [c] [32]=blank c s:=by{unfold Lib.replaceAll Lib.replace;rw[if_neg (by simpa using a)];unfold Lib.replaceNum;rw[if_pos (.inl (by decide)),Lib.count_one];exact wk a (Nat.le_refl _)};refine⟨_,rfl,g,?_⟩;simp only[aD];show Value.string ⟨(Lib.replaceAll s [c] [32]).toArray⟩=_;rw[h]
theorem Tn:g0=Lib.asciiSpaceTab.map (PV.int .u8):=by rfl
theorem R5:Tryz.prog.globalNamed "strings.asciiSpace" =some 0:=by kernel_rfl
theorem Qd{F:List (List PV)}(t:s.length<2^30)(k:∀b∈s,b.toNat<128)(m:F=a7 (Lib.fields s)):pC mx 35 [.str s] (.sl F []):=by subst m;intro S w v x n hvs;obtain⟨u,l,rfl,rfl,rfl⟩:=hvs;have o:Lib.TabIs Tryz.prog w "strings.asciiSpace" .u8 Lib.asciiSpaceTab:=by{unfold Lib.TabIs World.var?;rw[R5];obtain⟨y,c,p,d,f⟩:=n 0 g0 rfl;unfold ah at p;have A:c=(Lib.asciiSpaceTab.map fun z=>Value.int .u8 z).toArray:=by{rw[Tn]at d f;rw[List.length_map]at f;apply Array.ext_getElem?;intro i;rcases Nat.lt_or_ge i Lib.asciiSpaceTab.length with g|g;{have:=yQ d i g;simp_all};simp_all};grind};unfold dN;rw[show([Value.string ⟨s.toArray⟩]:List Value).toArray=#[.string ⟨s.toArray⟩] from rfl,SN];refine(Tryz.strings_Fields ⟨s.toArray⟩ w (by show s.toArray.size<_;simp;omega) (fun j b h=>k b (List.mem_of_getElem? h)) o).mono ?_;rintro e w' ⟨rfl,rfl⟩;refine⟨_,rfl,(Below.refl _ _).alloc (Nat.le_refl _) _,?_⟩;obtain⟨P,q⟩:∃P,P=Lib.fields s:=⟨_,rfl⟩;show aD _ _ (.sl (a7 (Lib.fields s)) []) (.slice (some ⟨w.heap.size,0,none⟩) (Lib.fields s).length (Lib.fields s).length);rw[<-q];refine⟨_,_,by rw[a7,List.length_map],by simp[a7],.inr ⟨w.heap.size,0,_,1,rfl,.inr ⟨Nat.le_refl _,by simp⟩,ez,fun r a=>by unfold a7 at a;grind,(fun r a=>by cases a),?_,trivial⟩⟩;unfold a7;refine bM.lV (sz:=1) (fun r a=>by grind) fun j h=>?_;simp_all[dm,aD]
end
section
open Go Go.Am Go.Proofs Go.RowKit
variable {mx:Int}
theorem D3{r:Nat}(h:r<10):Utf8.encode (48+(r:Int))=⟨#[UInt8.ofNat (48+r)]⟩:=by have key:∀r:Fin 10,(Utf8.encode (48+((r.1:Nat):Int))).data=#[UInt8.ofNat (48+r.1)]:=by{decide+kernel};have:=key ⟨r,h⟩;cases a:Utf8.encode (48+(r:Int))with|mk d=>rw[a]at this;rw[<-this]
theorem OD(k:Nat):∀(n:Nat) (x:Int) (w:World) (T:List UInt8),x=(n:Int)->n<=k->n<1099511627776->T=digits n->Calls Tryz.prog 39 #[.int .i64 x] w fun e w'=>e=.returned (.string ⟨T.toArray⟩)/\w'=w:=by induction k with|zero=>intro n x w T d h i hT;obtain rfl:n=0:=by{omega};obtain rfl:x=0:=d;go_enter Tryz.func39,Tryz.ntmps39;go_wp2_with fail;go_ret;refine⟨?_,rfl⟩;show Ending.returned (Value.string (Utf8.encode 48))=_;rw[show(48:Int)=48+((0:Nat):Int) from rfl,D3 (by decide),hT,digits,dif_pos (by decide)]|succ k f=>intro n x w T d h i hT;by_cases z:x<10;{clear f;have j:n<10:=by{omega};go_enter Tryz.func39,Tryz.ntmps39;go_wp2_with fail;go_ret;refine⟨?_,rfl⟩;show Ending.returned (Value.string (Utf8.encode (48+(n:Int))))=_;rw[D3 j,hT,digits,dif_pos j]};obtain⟨q,r,m,A⟩:∃q r:Nat,r<10/\n=10*q+r:=⟨n/10,n%10,by omega,by omega⟩;obtain⟨D,c⟩:∃D,D=digits q:=⟨_,rfl⟩;have g:=fun y o=>f q y w D o (by omega) (by omega) c;clear f;have s:x/10=(q:Int):=by{omega};have B:x%10=(r:Int):=by{omega};have C:0<=x:=by{omega};have E:x<1099511627776:=by{omega};have t:D.length<=13:=by{rw[c];exact tW (by decide) (by omega)};have u:(⟨D.toArray⟩:ByteArray).size<=20:=by{show D.toArray.size<=20;simp;omega};have l:Value.string (⟨D.toArray⟩++Utf8.encode (48+(r:Int)))=Value.string ⟨T.toArray⟩:=by{rw[D3 m,hT,digits,dif_neg (by omega),show n/10=q by omega,show n%10=r by omega,<-c];congr 1};have F:∀w,(Op.stringOp .add ⟨D.toArray⟩ (Utf8.encode (48+(r:Int)))).run Tryz.prog w=.ok (.string (⟨D.toArray⟩++Utf8.encode (48+(r:Int)))) w:=fun w=>run_string_add_sum w _ _ (by have:=encode_size_le (48+(r:Int));omega);have a:Ending.returned (Value.string (⟨D.toArray⟩++Utf8.encode (48+(r:Int))))=Ending.returned (Value.string ⟨T.toArray⟩):=congrArg Ending.returned l;obtain⟨v,b⟩:∃p:Prop,p=(Ending.returned (Value.string (⟨D.toArray⟩++Utf8.encode (48+(r:Int))))=Ending.returned (Value.string ⟨T.toArray⟩)):=⟨_,rfl⟩;rw[<-b]at a;clear d i h hT c l;go_enter Tryz.func39,Tryz.ntmps39;go_wp2_with (go_at_call 39;refine(g _ (by first|rfl|exact s|omega)).mono ?_;rintro e w' ⟨rfl,rfl⟩);go_ret;exact⟨b▸a,rfl⟩
theorem TL(a:Value)(w:World):(callFunc 39 #[a]).run Tryz.prog w=.ok (.enter 39 #[a]) w:=by kernel_rfl
theorem Ru{n:Nat}{t:List UInt8}(a:n<1099511627776)(b:t=digits n):pC mx 39 [.int .i64 (Int.ofNat n)] (.str t):=by intro S w c d f hvs;obtain⟨u,l,rfl,rfl,rfl⟩:=hvs;unfold dN;rw[show([Value.int .i64 (Int.ofNat n)]:List Value).toArray=#[.int .i64 (Int.ofNat n)] from rfl,TL];refine(OD n n _ w t rfl (Nat.le_refl _) a b).mono ?_;rintro e w' ⟨rfl,rfl⟩;exact⟨_,rfl,Below.refl _ _,by simp[aD]⟩
end
open Go Go.Am
open Classical
variable {a:List UInt8} {c:UInt8} {cl:List aL} {l:List aH} {n:Nat} {s:List UInt8}
def Fc(s:List UInt8):Prop:=∀b∈s,32<=b.toNat/\b.toNat<128
theorem Fc.app{b:List UInt8}(c:Fc a)(d:Fc b):Fc (a++b):=fun x e=>by rcases List.mem_append.1 e with h|h;exact c x h;exact d x h
theorem uO(h:32<=c.toNat/\c.toNat<128):Fc (List.replicate n c):=fun x a=>by rw[(List.mem_replicate.1 a).2];exact h
theorem BB:Fc (digits n):=fun b a=>by have:=yC n b a;omega
theorem G0{n:Int}:Fc (six n):=(uO (by decide)).app BB
theorem Lh{n:Int}:Fc (jB n):=by unfold jB;split;exact G0;exact uO (by decide)
theorem rZ(h:s.all (fun b=>decide (32<=b.toNat/\b.toNat<128))=true):Fc s:=fun b a=>by simpa using List.all_eq_true.1 h b a
theorem RU{c t:Int}:Fc (iu l c t):=by unfold iu;split;{exact((rZ (by decide)).app G0).app (rZ (by decide))};exact(Lh.app (rZ (by decide))).app Lh
theorem Rz{b row t:Int}{a:Bool}:Fc (qK cl l b row t a):=by unfold qK;split;{exact uO (by decide)};split;{exact uO (by decide)};split;{exact uO (by decide)};exact RU
theorem pP:∀{f:List (List UInt8)},(∀x∈f,Fc x)->Fc (ir 32 f)
|[],_=>fun b c=>by simp[ir]at c
|[a],h=>by simpa[ir]using h a (by simp)
|a::b::r,h=>by have d:=pP (f:=b::r) fun x g=>h x (List.mem_cons_of_mem _ g);rw[ir];{exact(h a (by simp)).app (Fc.app (a:=[32]) (rZ (by decide)) d)};intro e;cases e
theorem GZ{f:List (List UInt8)}(h:Fc a)(c:∀x∈f,Fc x):Fc (gi a f):=pP fun x b=>by rcases List.mem_cons.1 b with rfl|b;{exact h};exact c x b
theorem RE{vl:List bz}{d:Int}:∀x∈aA cl vl l d,Fc x:=fun x b=>by have f:∀c,∀x∈dI cl l d c,Fc x:=fun c x b=>by{obtain⟨t,-,rfl⟩:=List.mem_map.1 b;refine GZ ?_ fun y e=>?_;{refine Fc.app (a:=[if c=true then 100 else 104]) (rZ ?_) BB;cases c<;>decide};obtain⟨row,-,rfl⟩:=List.mem_map.1 e;exact Rz};unfold aA at b;rcases List.mem_append.1 b with b|b;{rcases List.mem_append.1 b with b|b;{rcases List.mem_append.1 b with b|b;{simp only[List.mem_cons,List.not_mem_nil,or_false]at b;rcases b with rfl|rfl;{exact(rZ (by decide)).app BB};refine GZ (rZ (by decide)) fun y e=>?_;obtain⟨row,-,rfl⟩:=List.mem_map.1 e;exact(uO (by decide)).app G0};exact f _ x b};rw[List.mem_singleton]at b;subst b;refine GZ (rZ (by decide)) fun y e=>?_;obtain⟨row,-,rfl⟩:=List.mem_map.1 e;split<;>exact uO (by decide)};exact f _ x b
theorem nO(h:Fc s):Fc (blank c s):=fun b a=>by unfold blank at a;obtain⟨x,d,rfl⟩:=List.mem_map.1 a;split;{decide};exact h x d
theorem RV{b:UInt8}(h:32<=b.toNat)(a:Lib.isSp b=true):b=32:=by unfold Lib.isSp at a;simp only[Bool.or_eq_true,beq_iff_eq]at a;rcases a with((((a|a)|a)|a)|a)|a<;>first|exact a|(rw[a]at h;exact absurd h (by decide))
theorem Hb{D:List (List UInt8)}(a:D≠[])(h:∀x∈D,Fc x):Lib.fields (blank 61 (blank 47 (ir 32 D)))=D.flatMap e8:=by rw[CE fun b c d=>RV (nO (nO (pP h)) b c).1 d];exact sB a
theorem RF:(nr s).length<=s.length+1:=by have h:∀s:List UInt8,(bc 32 s).length<=s.length+1:=fun s=>by{induction s with|nil=>simp[bc]|cons x r a=>unfold bc;split;{simp;omega};split;{simp};rename_i h t b;rw[b]at a;simp at a ⊢;omega};exact Nat.le_trans (List.length_filter_le _ _) (h s)
end Go.bt
