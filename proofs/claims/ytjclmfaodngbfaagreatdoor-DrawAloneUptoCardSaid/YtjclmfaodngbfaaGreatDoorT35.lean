import Derived.Lib.Overlaps
import Derived.Shelf.Spec.SlicesInsert
import Derived.Shelf.RegionOpenPlain
import Derived.WalkKit
import Derived.Deep.LoopGhost
import Derived.Deep.RegionLaw
import Derived.Lib.Walk
import Derived.Lib.SliceRun
import Derived.Deep.MidRow
import Derived.Lib.AppendZeros
import Derived.Shelf.Slices.ReverseS
import Derived.Test.YtjclmfaodngbfaaGreatDoorT34
import Derived.Test.YtjclmfaodngbfaaGreatDoorT03
import Derived.Test.YtjclmfaodngbfaaGreatDoorT12
set_option linter.all false
set_option maxRecDepth 100000
set_option maxHeartbeats 1000000
namespace Go.bt
open Go Go.Am Go.Proofs Go.Shelf Go.RowKit Go.Lib
theorem nR(w:World)(cells:Array Value)(e:TypeId)(k:Nat):(w.alloc (.cells cells e)).cell? ⟨w.heap.size,k,none⟩=cells[k]?:=by unfold World.cell? World.alloc;simp
structure dE(b o:Nat)(w w':World):Prop where
 os:w'.os=w.os
 tape:w'.tape=w.tape
 output:w'.output=w.output
 size:w'.heap.size=w.heap.size
 other:∀k,k≠b->w'.heap[k]? =w.heap[k]?
 Lg:∀c e,DJ w b c e->∃c',DJ w' b c' e/\c'.size=c.size
 low:∀k,k<o->w'.cell? ⟨b,k,none⟩=w.cell? ⟨b,k,none⟩
 AP:∀a,w'.frozen? a=w.frozen? a
theorem dE.trans{b o:Nat}{w w' f:World}(h:dE b o w w')(k:dE b o w' f):dE b o w f:=⟨k.os.trans h.os,k.tape.trans h.tape,k.output.trans h.output,k.size.trans h.size,fun i d=>(k.other i d).trans (h.other i d),fun c e g=>by obtain⟨j,l,m⟩:=h.Lg c e g;obtain⟨n,p,q⟩:=k.Lg j e l;exact⟨n,p,q.trans m⟩,fun i d=>(k.low i d).trans (h.low i d),fun a=>(k.AP a).trans (h.AP a)⟩
end Go.bt
