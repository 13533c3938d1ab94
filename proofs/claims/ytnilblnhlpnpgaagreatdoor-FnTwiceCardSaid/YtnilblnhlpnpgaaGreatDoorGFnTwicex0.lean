-- Printed by gen.py and its programs for this claim.
import Derived.Test.YtnilblnhlpnpgaaGreatDoorProg
import Derived.Below
import Derived.Deep.Draws
import Derived.Deep.AppendLies
import Derived.Maps.AppendAt
import Derived.OwnWalk
import Derived.Laws.BytesArg
import Derived.Laws.MakeOwn
import Derived.Laws.OwnMore
import Derived.Deep.OwnRows
import Derived.Tactics
import Derived.Lib.ConvBytes
import Derived.Laws.Slices
import Derived.WalkKit
import Derived.KernelRfl
import Derived.RowKit3
import Derived.Deep.LoopGhost
import Derived.Deep.QuietTactic
import Derived.BigQuiet
import Derived.WideLaws
import Derived.Deep.DeepCutAuto
import Derived.Deep.CutBlock
import Derived.Deep.RegionHeld3
import Derived.Laws.Rows
import Derived.Lib.AppendStr
import Derived.ArgAppend
import Derived.Laws.IdiomCopy
import Derived.OrdersHeld
import Derived.Laws.BitsLemmas
import Derived.RowKit
import Derived.Test.YtnilblnhlpnpgaaGreatDoorVFnTwice
import Derived.Laws.RangeAny
import Derived.Lib.IndexAny
import Derived.Lib.Builder
import Derived.WalkMore
import Derived.Maps.OwnOps
import Derived.Maps.Views
import Derived.StringKeys
import Derived.Test.YtnilblnhlpnpgaaGreatDoorZFnTwice
namespace Go.Proofs.YtnilblnhlpnpgaaGreatDoor.GFnTwice
open Go.RowKit Go.Proofs.YtnilblnhlpnpgaaGreatDoorW.PrintWords Go.Proofs.YtnilblnhlpnpgaaGreatDoorW.PrintLast Go.Proofs.YtnilblnhlpnpgaaGreatDoorW.PrintMore Go.Proofs.YtnilblnhlpnpgaaGreatDoorW.Zs
attribute [local go_sem] max2_int min2_int max_two min_two max_three min_three max_four min_four
set_option linter.unusedVariables false
set_option linter.unusedSimpArgs false
def errW:Option Int→Value
 |none=> .nilIface
 |some c=> .iface 0 (.int .i64 c)
theorem errW_none:errW none= .nilIface:=rfl
theorem errW_some (c:Int):errW (some c)= .iface 0 (.int .i64 c):=rfl
theorem info3:(Tryz.prog.info? 3).map (fun i=>(i.zero,i.size,i.bytes))=some (some (.int .i64 0),1,8):=by kernel_rfl
theorem info5:(Tryz.prog.info? 5).map (fun i=>(i.zero,i.size,i.bytes))=some (some (.int .u8 0),1,1):=by kernel_rfl
theorem info9:(Tryz.prog.info? 9).map (fun i=>(i.zero,i.size,i.bytes))=some (some (.string ⟨#[]⟩),1,16):=by kernel_rfl
theorem info82:(Tryz.prog.info? 82).map (fun i=>(i.zero,i.size,i.bytes))=some (some (.agg #[(.string ⟨#[]⟩),(.string ⟨#[]⟩)]),2,32):=by kernel_rfl
structure S82 where
 f0:ByteArray
 f1:ByteArray
def z82:S82:=⟨(⟨#[]⟩:ByteArray),(⟨#[]⟩:ByteArray)⟩
def k82:Kd S82:=Kd.iso (Kd.pair Kd.string Kd.string) (fun x:S82=>(x.f0,x.f1))
theorem k82_open {w:World} {x:S82} {cs:List Value} (h:k82.K w x cs):cs= [.string x.f0,.string x.f1]:=by
 obtain⟨_,_,rfl,rfl,rfl⟩:=h;exact rfl
theorem k82_openM {w:World} {base:Nat} {ok:Nat→Prop} {x:S82} {cs:List Value} (h:k82.M w base ok x cs):cs= [.string x.f0,.string x.f1]:=by
 obtain⟨_,_,rfl,rfl,rfl⟩:=h;exact rfl
theorem k82_mk (w:World) (x:S82):k82.K w x [.string x.f0,.string x.f1]:=⟨[.string x.f0],[.string x.f1],rfl,rfl,rfl⟩
theorem k82_mkM (w:World) (base:Nat) (ok:Nat→Prop) (x:S82):k82.M w base ok x [.string x.f0,.string x.f1]:=⟨[.string x.f0],[.string x.f1],rfl,rfl,rfl⟩
def rd_T82 (xs:List S82) (i:Int):S82:=xs.getD i.toNat z82
abbrev El82 (w:World) (A:Addr) (x:S82):Prop:=w.cell? A=some (.string x.f0)∧w.cell? ⟨A.block,A.off+1,none⟩=some (.string x.f1)
theorem El82.up {w W:World} {A:Addr} {x:S82} (h:Below w.heap.size w W) (c:El82 w A x):El82 W A x:=⟨(h.cell (World.block_lt_of_cell? w _ c.1)).trans c.1,(h.cell (World.block_lt_of_cell? w _ c.2)).trans c.2⟩
theorem at_T82 {w:World} {A:Option Addr} {n:Nat} {xs:List S82} (h:Kd.C k82 w A n xs) (i:Int) (h0:0≤i) (h1:i<n): ∃ad,A=some ad∧El82 w (ad.add (i.toNat*2)) (rd_T82 xs i):=by
 obtain⟨ad,c,e,_,hK,hc0⟩:=Kd.C_get h z82 i h0 h1;have hc: ∀j u,c[j]?=some u→w.cell? (ad.add (i.toNat*2+j))=some u:=hc0;obtain rfl:=k82_open hK;exact⟨ad,e,hc 0 _ rfl,by rw[←add_field _ _ 1 (by omega)];exact hc 1 _ rfl⟩
end Go.Proofs.YtnilblnhlpnpgaaGreatDoor.GFnTwice
