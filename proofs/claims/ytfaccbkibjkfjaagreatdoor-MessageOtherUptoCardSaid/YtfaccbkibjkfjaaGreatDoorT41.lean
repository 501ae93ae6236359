import Derived.Test.YtfaccbkibjkfjaaGreatDoorT29
import Derived.Test.YtfaccbkibjkfjaaGreatDoorT10
set_option linter.all false
set_option maxRecDepth 100000
set_option maxHeartbeats 1000000
section
open Go Go.Am Go.Proofs Go.bt
namespace Go.bt
variable {mx:Int}
def KY:List (Nat×List PV×PV):=[(259,[.str [39,43,58,63],.int .u8 48],.int .i64 (-1)),
 (259,[.str [39,43,58,63],.int .u8 49],.int .i64 (-1)),
 (259,[.str [39,43,58,63],.int .u8 50],.int .i64 (-1)),
 (259,[.str [39,43,58,63],.int .u8 51],.int .i64 (-1)),
 (259,[.str [39,43,58,63],.int .u8 52],.int .i64 (-1)),
 (259,[.str [39,43,58,63],.int .u8 53],.int .i64 (-1)),
 (259,[.str [39,43,58,63],.int .u8 56],.int .i64 (-1)),
 (259,[.str [39,43,58,63],.int .u8 57],.int .i64 (-1)),
 (259,[.str [39,43,58,63],.int .u8 65],.int .i64 (-1)),
 (259,[.str [39,43,58,63],.int .u8 66],.int .i64 (-1)),
 (259,[.str [39,43,58,63],.int .u8 67],.int .i64 (-1)),
 (259,[.str [39,43,58,63],.int .u8 68],.int .i64 (-1)),
 (259,[.str [39,43,58,63],.int .u8 69],.int .i64 (-1)),
 (259,[.str [39,43,58,63],.int .u8 70],.int .i64 (-1)),
 (259,[.str [39,43,58,63],.int .u8 71],.int .i64 (-1)),
 (259,[.str [39,43,58,63],.int .u8 72],.int .i64 (-1)),
 (259,[.str [39,43,58,63],.int .u8 76],.int .i64 (-1)),
 (259,[.str [39,43,58,63],.int .u8 77],.int .i64 (-1)),
 (259,[.str [39,43,58,63],.int .u8 78],.int .i64 (-1)),
 (259,[.str [39,43,58,63],.int .u8 79],.int .i64 (-1)),
 (259,[.str [39,43,58,63],.int .u8 80],.int .i64 (-1)),
 (259,[.str [39,43,58,63],.int .u8 81],.int .i64 (-1)),
 (259,[.str [39,43,58,63],.int .u8 82],.int .i64 (-1)),
 (259,[.str [39,43,58,63],.int .u8 83],.int .i64 (-1)),
 (259,[.str [39,43,58,63],.int .u8 85],.int .i64 (-1)),
 (259,[.str [39,43,58,63],.int .u8 86],.int .i64 (-1)),
 (259,[.str [39,43,58,63],.int .u8 89],.int .i64 (-1))]
theorem HE:eX Tryz.prog (GG mx) KY:=
 aE (fZ (by decide)) (
 aE (fZ (by decide)) (
 aE (fZ (by decide)) (
 aE (fZ (by decide)) (
 aE (fZ (by decide)) (
 aE (fZ (by decide)) (
 aE (fZ (by decide)) (
 aE (fZ (by decide)) (
 aE (fZ (by decide)) (
 aE (fZ (by decide)) (
 aE (fZ (by decide)) (
 aE (fZ (by decide)) (
 aE (fZ (by decide)) (
 aE (fZ (by decide)) (
 aE (fZ (by decide)) (
 aE (fZ (by decide)) (
 aE (fZ (by decide)) (
 aE (fZ (by decide)) (
 aE (fZ (by decide)) (
 aE (fZ (by decide)) (
 aE (fZ (by decide)) (
 aE (fZ (by decide)) (
 aE (fZ (by decide)) (
 aE (fZ (by decide)) (
 aE (fZ (by decide)) (
 aE (fZ (by decide)) (
 aE (fZ (by decide)) (pR)))))))))))))))))))))))))))
def Ax:PV:=.agg [.int .i64 1,.str [68,69,72,65,77],.sl [(Au 3).enc] [],.sl [[.int .i64 5,.int .i64 2,.int .i64 0,.int .u8 0]] []]
def aca:PV→PV
 |.eN (x::_)=>x
 |x=>x
def fstR:PV→PV
 |.sl (r::_) _=>.agg r
 |x=>x
def Wj:PV:=aca lx0
def Gn:PV:=aca sg0
def Y3:PV:=fstR Gn
theorem acb:(jB ⟨Tn,fun _ _=>none,gx,fun _=>false,iO⟩ 1000000 [.code Vx] (Am.start 11 [])).data [(.cell 0 (some 13))]=some fJ:=by kernel_rfl
theorem sh27:pC mx 27 [] fJ:=
 cI (E:=⟨Tn,fun _ _=>none,gx,fun _=>false,iO⟩) mixed (eM mixed cO) (fun _ _ _ h=>by cases h) bY Ke rfl 1000000 acb
def Lh:FuncId→Bool:=xI [99,90,999999,1000086,2000000,3000169,3000085]
def SH:FuncId→Bool:=xI [96,97,86,39,37,27,36,85,169,38]
end Go.bt
end
