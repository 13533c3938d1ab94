-- Printed by gen.py and its programs for this claim.
import Derived.Test.YteojcbbifacpnaaGreatDoorProg
import Derived.Below
import Derived.Deep.Draws
import Derived.Deep.AppendLies
import Derived.Maps.AppendAt
import Derived.OwnWalk
import Derived.Laws.BytesArg
import Derived.Laws.MakeOwn
import Derived.Laws.OwnMore
import Derived.Deep.OwnRows
import Derived.Tactics
import Derived.Lib.ConvBytes
import Derived.Laws.Slices
import Derived.WalkKit
import Derived.KernelRfl
import Derived.RowKit3
import Derived.Deep.LoopGhost
import Derived.Deep.QuietTactic
import Derived.BigQuiet
import Derived.WideLaws
import Derived.Deep.DeepCutAuto
import Derived.Deep.CutBlock
import Derived.Deep.RegionHeld3
import Derived.Laws.Rows
import Derived.Lib.AppendStr
import Derived.ArgAppend
import Derived.Laws.IdiomCopy
import Derived.OrdersHeld
import Derived.Laws.BitsLemmas
import Derived.RowKit
import Derived.Test.YteojcbbifacpnaaGreatDoorVFnExactClosest
import Derived.Laws.RangeAny
import Derived.Lib.IndexAny
import Derived.Lib.Builder
import Derived.WalkMore
import Derived.Test.YteojcbbifacpnaaGreatDoorZFnExactClosest
namespace Go.Proofs.YteojcbbifacpnaaGreatDoor.GFnExactClosest
open Go.RowKit Go.Proofs.YteojcbbifacpnaaGreatDoorW.PrintWords Go.Proofs.YteojcbbifacpnaaGreatDoorW.PrintLast Go.Proofs.YteojcbbifacpnaaGreatDoorW.PrintMore Go.Proofs.YteojcbbifacpnaaGreatDoorW.Zs
attribute [local go_sem] max2_int min2_int max_two min_two max_three min_three max_four min_four
set_option linter.unusedVariables false
set_option linter.unusedSimpArgs false
def errW:Option Int→Value
 |none=> .nilIface
 |some c=> .iface 0 (.int .i64 c)
theorem errW_none:errW none= .nilIface:=rfl
theorem errW_some (c:Int):errW (some c)= .iface 0 (.int .i64 c):=rfl
theorem info3:(Tryz.prog.info? 3).map (fun i=>(i.zero,i.size,i.bytes))=some (some (.int .i64 0),1,8):=by kernel_rfl
theorem info5:(Tryz.prog.info? 5).map (fun i=>(i.zero,i.size,i.bytes))=some (some (.int .u8 0),1,1):=by kernel_rfl
theorem info9:(Tryz.prog.info? 9).map (fun i=>(i.zero,i.size,i.bytes))=some (some (.string ⟨#[]⟩),1,16):=by kernel_rfl
theorem info26:(Tryz.prog.info? 26).map (fun i=>(i.zero,i.size,i.bytes))=some (some (.agg #[(.string ⟨#[]⟩),(.int .i64 0),(.int .i64 0),(.string ⟨#[]⟩),(.int .i64 0),(.string ⟨#[]⟩),(.bool false),(.int .i64 0),(.int .i64 0),(.int .i64 0)]),10,104):=by kernel_rfl
structure S23 where
 f0:ByteArray
 f1:Int
 f2:Int
 f3:ByteArray
 f4:Int
 f5:ByteArray
 f6:Bool
 f7:Int
 f8:Int
 f9:Int
def z23:S23:=⟨(⟨#[]⟩:ByteArray),(0:Int),(0:Int),(⟨#[]⟩:ByteArray),(0:Int),(⟨#[]⟩:ByteArray),false,(0:Int),(0:Int),(0:Int)⟩
def k23:Kd S23:=Kd.iso (Kd.pair Kd.string (Kd.pair (Kd.int .i64) (Kd.pair (Kd.int .i64) (Kd.pair Kd.string (Kd.pair (Kd.int .i64) (Kd.pair Kd.string (Kd.pair Kd.bool (Kd.pair (Kd.int .i64) (Kd.pair (Kd.int .i64) (Kd.int .i64)))))))))) (fun x:S23=>(x.f0,x.f1,x.f2,x.f3,x.f4,x.f5,x.f6,x.f7,x.f8,x.f9))
theorem k23_open {w:World} {x:S23} {cs:List Value} (h:k23.K w x cs):cs= [.string x.f0,.int .i64 x.f1,.int .i64 x.f2,.string x.f3,.int .i64 x.f4,.string x.f5,.bool x.f6,.int .i64 x.f7,.int .i64 x.f8,.int .i64 x.f9]:=by
 obtain⟨_,_,rfl,rfl,⟨_,_,rfl,rfl,⟨_,_,rfl,rfl,⟨_,_,rfl,rfl,⟨_,_,rfl,rfl,⟨_,_,rfl,rfl,⟨_,_,rfl,rfl,⟨_,_,rfl,rfl,⟨_,_,rfl,rfl,rfl⟩⟩⟩⟩⟩⟩⟩⟩⟩:=h;exact rfl
theorem k23_openM {w:World} {base:Nat} {ok:Nat→Prop} {x:S23} {cs:List Value} (h:k23.M w base ok x cs):cs= [.string x.f0,.int .i64 x.f1,.int .i64 x.f2,.string x.f3,.int .i64 x.f4,.string x.f5,.bool x.f6,.int .i64 x.f7,.int .i64 x.f8,.int .i64 x.f9]:=by
 obtain⟨_,_,rfl,rfl,⟨_,_,rfl,rfl,⟨_,_,rfl,rfl,⟨_,_,rfl,rfl,⟨_,_,rfl,rfl,⟨_,_,rfl,rfl,⟨_,_,rfl,rfl,⟨_,_,rfl,rfl,⟨_,_,rfl,rfl,rfl⟩⟩⟩⟩⟩⟩⟩⟩⟩:=h;exact rfl
theorem k23_mk (w:World) (x:S23):k23.K w x [.string x.f0,.int .i64 x.f1,.int .i64 x.f2,.string x.f3,.int .i64 x.f4,.string x.f5,.bool x.f6,.int .i64 x.f7,.int .i64 x.f8,.int .i64 x.f9]:=⟨[.string x.f0],[.int .i64 x.f1,.int .i64 x.f2,.string x.f3,.int .i64 x.f4,.string x.f5,.bool x.f6,.int .i64 x.f7,.int .i64 x.f8,.int .i64 x.f9],rfl,rfl,⟨[.int .i64 x.f1],[.int .i64 x.f2,.string x.f3,.int .i64 x.f4,.string x.f5,.bool x.f6,.int .i64 x.f7,.int .i64 x.f8,.int .i64 x.f9],rfl,rfl,⟨[.int .i64 x.f2],[.string x.f3,.int .i64 x.f4,.string x.f5,.bool x.f6,.int .i64 x.f7,.int .i64 x.f8,.int .i64 x.f9],rfl,rfl,⟨[.string x.f3],[.int .i64 x.f4,.string x.f5,.bool x.f6,.int .i64 x.f7,.int .i64 x.f8,.int .i64 x.f9],rfl,rfl,⟨[.int .i64 x.f4],[.string x.f5,.bool x.f6,.int .i64 x.f7,.int .i64 x.f8,.int .i64 x.f9],rfl,rfl,⟨[.string x.f5],[.bool x.f6,.int .i64 x.f7,.int .i64 x.f8,.int .i64 x.f9],rfl,rfl,⟨[.bool x.f6],[.int .i64 x.f7,.int .i64 x.f8,.int .i64 x.f9],rfl,rfl,⟨[.int .i64 x.f7],[.int .i64 x.f8,.int .i64 x.f9],rfl,rfl,⟨[.int .i64 x.f8],[.int .i64 x.f9],rfl,rfl,rfl⟩⟩⟩⟩⟩⟩⟩⟩⟩
theorem k23_mkM (w:World) (base:Nat) (ok:Nat→Prop) (x:S23):k23.M w base ok x [.string x.f0,.int .i64 x.f1,.int .i64 x.f2,.string x.f3,.int .i64 x.f4,.string x.f5,.bool x.f6,.int .i64 x.f7,.int .i64 x.f8,.int .i64 x.f9]:=⟨[.string x.f0],[.int .i64 x.f1,.int .i64 x.f2,.string x.f3,.int .i64 x.f4,.string x.f5,.bool x.f6,.int .i64 x.f7,.int .i64 x.f8,.int .i64 x.f9],rfl,rfl,⟨[.int .i64 x.f1],[.int .i64 x.f2,.string x.f3,.int .i64 x.f4,.string x.f5,.bool x.f6,.int .i64 x.f7,.int .i64 x.f8,.int .i64 x.f9],rfl,rfl,⟨[.int .i64 x.f2],[.string x.f3,.int .i64 x.f4,.string x.f5,.bool x.f6,.int .i64 x.f7,.int .i64 x.f8,.int .i64 x.f9],rfl,rfl,⟨[.string x.f3],[.int .i64 x.f4,.string x.f5,.bool x.f6,.int .i64 x.f7,.int .i64 x.f8,.int .i64 x.f9],rfl,rfl,⟨[.int .i64 x.f4],[.string x.f5,.bool x.f6,.int .i64 x.f7,.int .i64 x.f8,.int .i64 x.f9],rfl,rfl,⟨[.string x.f5],[.bool x.f6,.int .i64 x.f7,.int .i64 x.f8,.int .i64 x.f9],rfl,rfl,⟨[.bool x.f6],[.int .i64 x.f7,.int .i64 x.f8,.int .i64 x.f9],rfl,rfl,⟨[.int .i64 x.f7],[.int .i64 x.f8,.int .i64 x.f9],rfl,rfl,⟨[.int .i64 x.f8],[.int .i64 x.f9],rfl,rfl,rfl⟩⟩⟩⟩⟩⟩⟩⟩⟩
def rd_T23 (xs:List S23) (i:Int):S23:=xs.getD i.toNat z23
abbrev El23 (w:World) (A:Addr) (x:S23):Prop:=w.cell? A=some (.string x.f0)∧w.cell? ⟨A.block,A.off+1,none⟩=some (.int .i64 x.f1)∧w.cell? ⟨A.block,A.off+2,none⟩=some (.int .i64 x.f2)∧w.cell? ⟨A.block,A.off+3,none⟩=some (.string x.f3)∧w.cell? ⟨A.block,A.off+4,none⟩=some (.int .i64 x.f4)∧w.cell? ⟨A.block,A.off+5,none⟩=some (.string x.f5)∧w.cell? ⟨A.block,A.off+6,none⟩=some (.bool x.f6)∧w.cell? ⟨A.block,A.off+7,none⟩=some (.int .i64 x.f7)∧w.cell? ⟨A.block,A.off+8,none⟩=some (.int .i64 x.f8)∧w.cell? ⟨A.block,A.off+9,none⟩=some (.int .i64 x.f9)
theorem El23.up {w W:World} {A:Addr} {x:S23} (h:Below w.heap.size w W) (c:El23 w A x):El23 W A x:=⟨(h.cell (World.block_lt_of_cell? w _ c.1)).trans c.1,(h.cell (World.block_lt_of_cell? w _ c.2.1)).trans c.2.1,(h.cell (World.block_lt_of_cell? w _ c.2.2.1)).trans c.2.2.1,(h.cell (World.block_lt_of_cell? w _ c.2.2.2.1)).trans c.2.2.2.1,(h.cell (World.block_lt_of_cell? w _ c.2.2.2.2.1)).trans c.2.2.2.2.1,(h.cell (World.block_lt_of_cell? w _ c.2.2.2.2.2.1)).trans c.2.2.2.2.2.1,(h.cell (World.block_lt_of_cell? w _ c.2.2.2.2.2.2.1)).trans c.2.2.2.2.2.2.1,(h.cell (World.block_lt_of_cell? w _ c.2.2.2.2.2.2.2.1)).trans c.2.2.2.2.2.2.2.1,(h.cell (World.block_lt_of_cell? w _ c.2.2.2.2.2.2.2.2.1)).trans c.2.2.2.2.2.2.2.2.1,(h.cell (World.block_lt_of_cell? w _ c.2.2.2.2.2.2.2.2.2)).trans c.2.2.2.2.2.2.2.2.2⟩
theorem at_T23 {w:World} {A:Option Addr} {n:Nat} {xs:List S23} (h:Kd.C k23 w A n xs) (i:Int) (h0:0≤i) (h1:i<n): ∃ad,A=some ad∧El23 w (ad.add (i.toNat*10)) (rd_T23 xs i):=by
 obtain⟨ad,c,e,_,hK,hc0⟩:=Kd.C_get h z23 i h0 h1;have hc: ∀j u,c[j]?=some u→w.cell? (ad.add (i.toNat*10+j))=some u:=hc0;obtain rfl:=k23_open hK;exact⟨ad,e,hc 0 _ rfl,by rw[←add_field _ _ 1 (by omega)];exact hc 1 _ rfl,by rw[←add_field _ _ 2 (by omega)];exact hc 2 _ rfl,by rw[←add_field _ _ 3 (by omega)];exact hc 3 _ rfl,by rw[←add_field _ _ 4 (by omega)];exact hc 4 _ rfl,by rw[←add_field _ _ 5 (by omega)];exact hc 5 _ rfl,by rw[←add_field _ _ 6 (by omega)];exact hc 6 _ rfl,by rw[←add_field _ _ 7 (by omega)];exact hc 7 _ rfl,by rw[←add_field _ _ 8 (by omega)];exact hc 8 _ rfl,by rw[←add_field _ _ 9 (by omega)];exact hc 9 _ rfl⟩
structure S26 where
 f0:ByteArray
 f1:Int
 f2:Int
 f3:ByteArray
 f4:Int
 f5:ByteArray
 f6:Bool
 f7:Int
 f8:Int
 f9:Int
def z26:S26:=⟨(⟨#[]⟩:ByteArray),(0:Int),(0:Int),(⟨#[]⟩:ByteArray),(0:Int),(⟨#[]⟩:ByteArray),false,(0:Int),(0:Int),(0:Int)⟩
def k26:Kd S26:=Kd.iso (Kd.pair Kd.string (Kd.pair (Kd.int .i64) (Kd.pair (Kd.int .i64) (Kd.pair Kd.string (Kd.pair (Kd.int .i64) (Kd.pair Kd.string (Kd.pair Kd.bool (Kd.pair (Kd.int .i64) (Kd.pair (Kd.int .i64) (Kd.int .i64)))))))))) (fun x:S26=>(x.f0,x.f1,x.f2,x.f3,x.f4,x.f5,x.f6,x.f7,x.f8,x.f9))
theorem k26_open {w:World} {x:S26} {cs:List Value} (h:k26.K w x cs):cs= [.string x.f0,.int .i64 x.f1,.int .i64 x.f2,.string x.f3,.int .i64 x.f4,.string x.f5,.bool x.f6,.int .i64 x.f7,.int .i64 x.f8,.int .i64 x.f9]:=by
 obtain⟨_,_,rfl,rfl,⟨_,_,rfl,rfl,⟨_,_,rfl,rfl,⟨_,_,rfl,rfl,⟨_,_,rfl,rfl,⟨_,_,rfl,rfl,⟨_,_,rfl,rfl,⟨_,_,rfl,rfl,⟨_,_,rfl,rfl,rfl⟩⟩⟩⟩⟩⟩⟩⟩⟩:=h;exact rfl
theorem k26_openM {w:World} {base:Nat} {ok:Nat→Prop} {x:S26} {cs:List Value} (h:k26.M w base ok x cs):cs= [.string x.f0,.int .i64 x.f1,.int .i64 x.f2,.string x.f3,.int .i64 x.f4,.string x.f5,.bool x.f6,.int .i64 x.f7,.int .i64 x.f8,.int .i64 x.f9]:=by
 obtain⟨_,_,rfl,rfl,⟨_,_,rfl,rfl,⟨_,_,rfl,rfl,⟨_,_,rfl,rfl,⟨_,_,rfl,rfl,⟨_,_,rfl,rfl,⟨_,_,rfl,rfl,⟨_,_,rfl,rfl,⟨_,_,rfl,rfl,rfl⟩⟩⟩⟩⟩⟩⟩⟩⟩:=h;exact rfl
theorem k26_mk (w:World) (x:S26):k26.K w x [.string x.f0,.int .i64 x.f1,.int .i64 x.f2,.string x.f3,.int .i64 x.f4,.string x.f5,.bool x.f6,.int .i64 x.f7,.int .i64 x.f8,.int .i64 x.f9]:=⟨[.string x.f0],[.int .i64 x.f1,.int .i64 x.f2,.string x.f3,.int .i64 x.f4,.string x.f5,.bool x.f6,.int .i64 x.f7,.int .i64 x.f8,.int .i64 x.f9],rfl,rfl,⟨[.int .i64 x.f1],[.int .i64 x.f2,.string x.f3,.int .i64 x.f4,.string x.f5,.bool x.f6,.int .i64 x.f7,.int .i64 x.f8,.int .i64 x.f9],rfl,rfl,⟨[.int .i64 x.f2],[.string x.f3,.int .i64 x.f4,.string x.f5,.bool x.f6,.int .i64 x.f7,.int .i64 x.f8,.int .i64 x.f9],rfl,rfl,⟨[.string x.f3],[.int .i64 x.f4,.string x.f5,.bool x.f6,.int .i64 x.f7,.int .i64 x.f8,.int .i64 x.f9],rfl,rfl,⟨[.int .i64 x.f4],[.string x.f5,.bool x.f6,.int .i64 x.f7,.int .i64 x.f8,.int .i64 x.f9],rfl,rfl,⟨[.string x.f5],[.bool x.f6,.int .i64 x.f7,.int .i64 x.f8,.int .i64 x.f9],rfl,rfl,⟨[.bool x.f6],[.int .i64 x.f7,.int .i64 x.f8,.int .i64 x.f9],rfl,rfl,⟨[.int .i64 x.f7],[.int .i64 x.f8,.int .i64 x.f9],rfl,rfl,⟨[.int .i64 x.f8],[.int .i64 x.f9],rfl,rfl,rfl⟩⟩⟩⟩⟩⟩⟩⟩⟩
theorem k26_mkM (w:World) (base:Nat) (ok:Nat→Prop) (x:S26):k26.M w base ok x [.string x.f0,.int .i64 x.f1,.int .i64 x.f2,.string x.f3,.int .i64 x.f4,.string x.f5,.bool x.f6,.int .i64 x.f7,.int .i64 x.f8,.int .i64 x.f9]:=⟨[.string x.f0],[.int .i64 x.f1,.int .i64 x.f2,.string x.f3,.int .i64 x.f4,.string x.f5,.bool x.f6,.int .i64 x.f7,.int .i64 x.f8,.int .i64 x.f9],rfl,rfl,⟨[.int .i64 x.f1],[.int .i64 x.f2,.string x.f3,.int .i64 x.f4,.string x.f5,.bool x.f6,.int .i64 x.f7,.int .i64 x.f8,.int .i64 x.f9],rfl,rfl,⟨[.int .i64 x.f2],[.string x.f3,.int .i64 x.f4,.string x.f5,.bool x.f6,.int .i64 x.f7,.int .i64 x.f8,.int .i64 x.f9],rfl,rfl,⟨[.string x.f3],[.int .i64 x.f4,.string x.f5,.bool x.f6,.int .i64 x.f7,.int .i64 x.f8,.int .i64 x.f9],rfl,rfl,⟨[.int .i64 x.f4],[.string x.f5,.bool x.f6,.int .i64 x.f7,.int .i64 x.f8,.int .i64 x.f9],rfl,rfl,⟨[.string x.f5],[.bool x.f6,.int .i64 x.f7,.int .i64 x.f8,.int .i64 x.f9],rfl,rfl,⟨[.bool x.f6],[.int .i64 x.f7,.int .i64 x.f8,.int .i64 x.f9],rfl,rfl,⟨[.int .i64 x.f7],[.int .i64 x.f8,.int .i64 x.f9],rfl,rfl,⟨[.int .i64 x.f8],[.int .i64 x.f9],rfl,rfl,rfl⟩⟩⟩⟩⟩⟩⟩⟩⟩
def rd_T26 (xs:List S26) (i:Int):S26:=xs.getD i.toNat z26
abbrev El26 (w:World) (A:Addr) (x:S26):Prop:=w.cell? A=some (.string x.f0)∧w.cell? ⟨A.block,A.off+1,none⟩=some (.int .i64 x.f1)∧w.cell? ⟨A.block,A.off+2,none⟩=some (.int .i64 x.f2)∧w.cell? ⟨A.block,A.off+3,none⟩=some (.string x.f3)∧w.cell? ⟨A.block,A.off+4,none⟩=some (.int .i64 x.f4)∧w.cell? ⟨A.block,A.off+5,none⟩=some (.string x.f5)∧w.cell? ⟨A.block,A.off+6,none⟩=some (.bool x.f6)∧w.cell? ⟨A.block,A.off+7,none⟩=some (.int .i64 x.f7)∧w.cell? ⟨A.block,A.off+8,none⟩=some (.int .i64 x.f8)∧w.cell? ⟨A.block,A.off+9,none⟩=some (.int .i64 x.f9)
theorem El26.up {w W:World} {A:Addr} {x:S26} (h:Below w.heap.size w W) (c:El26 w A x):El26 W A x:=⟨(h.cell (World.block_lt_of_cell? w _ c.1)).trans c.1,(h.cell (World.block_lt_of_cell? w _ c.2.1)).trans c.2.1,(h.cell (World.block_lt_of_cell? w _ c.2.2.1)).trans c.2.2.1,(h.cell (World.block_lt_of_cell? w _ c.2.2.2.1)).trans c.2.2.2.1,(h.cell (World.block_lt_of_cell? w _ c.2.2.2.2.1)).trans c.2.2.2.2.1,(h.cell (World.block_lt_of_cell? w _ c.2.2.2.2.2.1)).trans c.2.2.2.2.2.1,(h.cell (World.block_lt_of_cell? w _ c.2.2.2.2.2.2.1)).trans c.2.2.2.2.2.2.1,(h.cell (World.block_lt_of_cell? w _ c.2.2.2.2.2.2.2.1)).trans c.2.2.2.2.2.2.2.1,(h.cell (World.block_lt_of_cell? w _ c.2.2.2.2.2.2.2.2.1)).trans c.2.2.2.2.2.2.2.2.1,(h.cell (World.block_lt_of_cell? w _ c.2.2.2.2.2.2.2.2.2)).trans c.2.2.2.2.2.2.2.2.2⟩
theorem at_T26 {w:World} {A:Option Addr} {n:Nat} {xs:List S26} (h:Kd.C k26 w A n xs) (i:Int) (h0:0≤i) (h1:i<n): ∃ad,A=some ad∧El26 w (ad.add (i.toNat*10)) (rd_T26 xs i):=by
 obtain⟨ad,c,e,_,hK,hc0⟩:=Kd.C_get h z26 i h0 h1;have hc: ∀j u,c[j]?=some u→w.cell? (ad.add (i.toNat*10+j))=some u:=hc0;obtain rfl:=k26_open hK;exact⟨ad,e,hc 0 _ rfl,by rw[←add_field _ _ 1 (by omega)];exact hc 1 _ rfl,by rw[←add_field _ _ 2 (by omega)];exact hc 2 _ rfl,by rw[←add_field _ _ 3 (by omega)];exact hc 3 _ rfl,by rw[←add_field _ _ 4 (by omega)];exact hc 4 _ rfl,by rw[←add_field _ _ 5 (by omega)];exact hc 5 _ rfl,by rw[←add_field _ _ 6 (by omega)];exact hc 6 _ rfl,by rw[←add_field _ _ 7 (by omega)];exact hc 7 _ rfl,by rw[←add_field _ _ 8 (by omega)];exact hc 8 _ rfl,by rw[←add_field _ _ 9 (by omega)];exact hc 9 _ rfl⟩
end Go.Proofs.YteojcbbifacpnaaGreatDoor.GFnExactClosest
