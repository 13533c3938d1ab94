-- Printed by gen.py and its programs for this claim.
import Derived.Test.YtnilblnhlpnpgaaGreatDoorGFnTwicex0
import Derived.Test.YtnilblnhlpnpgaaGreatDoorGFnTwicex2
import Derived.Test.YtnilblnhlpnpgaaGreatDoorGFnTwicex3
import Derived.Test.YtnilblnhlpnpgaaGreatDoorGFnTwicex4
import Derived.Test.YtnilblnhlpnpgaaGreatDoorZFnTwice
namespace Go.Proofs.YtnilblnhlpnpgaaGreatDoor.GFnTwice
open Go.RowKit Go.Proofs.YtnilblnhlpnpgaaGreatDoorW.PrintWords Go.Proofs.YtnilblnhlpnpgaaGreatDoorW.PrintLast Go.Proofs.YtnilblnhlpnpgaaGreatDoorW.PrintMore Go.Proofs.YtnilblnhlpnpgaaGreatDoorW.Zs
set_option maxHeartbeats 40000000
set_option maxRecDepth 100000
attribute [local go_sem] max2_int min2_int max_two min_two max_three min_three max_four min_four
set_option linter.unusedVariables false
set_option linter.unusedSimpArgs false
def impl_writeHead_first (a0 a1:ByteArray) (a2:Int) (a3:ByteArray):ByteArray:=if a0.toList=([]:List UInt8)then(⟨#[72,84,84,80,47,49,46,49,32]⟩:ByteArray)++(⟨(Lib.itoa a2).toArray⟩:ByteArray)++(⟨#[32]⟩:ByteArray)++a3++(⟨#[13,10]⟩:ByteArray)else a0++(⟨#[32]⟩:ByteArray)++a1++(⟨#[32,72,84,84,80,47,49,46,49]⟩:ByteArray)++(⟨#[13,10]⟩:ByteArray)
def impl_writeHead_fld (x:S82):ByteArray:=x.f0++(⟨#[58,32]⟩:ByteArray)++x.f1++(⟨#[13,10]⟩:ByteArray)
def impl_writeHead_flds (l:List S82):List UInt8:=l.flatMap fun x=>(impl_writeHead_fld x).data.toList
def impl_writeHead_says (a0 a6:ByteArray) (a4:Bool):Bool:=if a0.toList=([]:List UInt8)then !a4 else !decide (a6.toList=([]:List UInt8))
def impl_writeHead_cl (a0 a6:ByteArray) (a4:Bool):List UInt8:=if impl_writeHead_says a0 a6 a4=true then((⟨#[67,111,110,116,101,110,116,45,76,101,110,103,116,104,58,32]⟩:ByteArray)++(⟨(Lib.itoa (a6.size:Int)).toArray⟩:ByteArray)++(⟨#[13,10]⟩:ByteArray)).data.toList else []
theorem impl_writeHead_snoc (l:List S82) (j:Nat) (h:j<l.length):impl_writeHead_flds (l.take (j+1))=impl_writeHead_flds (l.take j)++(impl_writeHead_fld (rd_T82 l (j:Int))).data.toList:=by
 rw[List.take_succ_eq_append_getElem h];simp only[impl_writeHead_flds,List.flatMap_append,rd_T82,List.getD,Int.toNat_natCast,List.getElem?_eq_getElem h]
 simp
theorem impl_writeHead_le (l:List S82) (j:Nat):(impl_writeHead_flds (l.take j)).length≤(impl_writeHead_flds l).length:=by
 have:impl_writeHead_flds l=impl_writeHead_flds (l.take j)++impl_writeHead_flds (l.drop j):=by rw[impl_writeHead_flds,impl_writeHead_flds,impl_writeHead_flds,←List.flatMap_append,List.take_append_drop]
 rw[this];simp
theorem impl_writeHead_bytes (s:ByteArray):Lib.strCells s=Lib.byteCells s.data.toList:=by simp[Lib.strCells,Lib.byteCells]
theorem impl_writeHead_app (a b:List UInt8):Lib.byteCells (a++b)=Lib.byteCells a++Lib.byteCells b:=by simp[Lib.byteCells]
theorem impl_writeHead_itoa (n:Int) (h0: -9223372036854775808≤n) (h1:n≤9223372036854775807):strconv_Itoa.f n=some (⟨(Lib.itoa n).toArray⟩:ByteArray):=by unfold strconv_Itoa.f;rw[if_pos ⟨h0,h1⟩]
def impl_writeHead.small (a0 a1:ByteArray) (a2:Int) (a3:ByteArray) (l5:List S82) (a6:ByteArray):Prop:=a0.size≤1099511627776∧a1.size≤1099511627776∧a3.size≤1099511627776∧a6.size≤1099511627776∧ -9223372036854775808≤a2∧a2≤9223372036854775807∧l5.length≤1099511627776∧(impl_writeHead_flds l5).length≤1099511627776∧(Lib.itoa a2).length≤1099511627776∧(Lib.itoa (a6.size:Int)).length≤1099511627776
instance (a0 a1:ByteArray) (a2:Int) (a3:ByteArray) (l5:List S82) (a6:ByteArray):Decidable (impl_writeHead.small a0 a1 a2 a3 l5 a6):=by unfold impl_writeHead.small;infer_instance
def impl_writeHead.f (a0_0 a0_1:ByteArray) (a0_2:Int) (a0_3:ByteArray) (a0_4:Bool) (l0_5:List (S82)) (a0_6:ByteArray):Option (ByteArray):=if impl_writeHead.small a0_0 a0_1 a0_2 a0_3 l0_5 a0_6 then some ((⟨((impl_writeHead_first a0_0 a0_1 a0_2 a0_3).data.toList++impl_writeHead_flds l0_5++impl_writeHead_cl a0_0 a0_6 a0_4).toArray⟩:ByteArray)++(⟨#[13,10]⟩:ByteArray))else none
theorem impl_writeHead_fsize (l:List S82) (j:Nat) (h:j<l.length):(impl_writeHead_flds (l.take j)).length+(impl_writeHead_fld (rd_T82 l (j:Int))).size≤(impl_writeHead_flds l).length:=by
 have h1:=impl_writeHead_le l (j+1);rw[impl_writeHead_snoc l j h,List.length_append,data_length]at h1;exact h1
theorem impl_writeHead_ftext (x:S82) (h:(impl_writeHead_fld x).size≤1099511627776):impl_fieldText.f x.f0 x.f1=some (x.f0++(⟨#[58,32]⟩:ByteArray)++x.f1)∧(x.f0++(⟨#[58,32]⟩:ByteArray)++x.f1).size≤1099511627776:=by
 have e:(impl_writeHead_fld x).size=x.f0.size+2+x.f1.size+2:=by simp only[impl_writeHead_fld,ByteArray.size_append];rfl
 have e1:(x.f0++(⟨#[58,32]⟩:ByteArray)).size=x.f0.size+2:=by rw[ByteArray.size_append];rfl
 have e2:(x.f0++(⟨#[58,32]⟩:ByteArray)++x.f1).size=x.f0.size+2+x.f1.size:=by rw[ByteArray.size_append,e1]
 unfold impl_fieldText.f;rw[if_pos (by omega),if_pos (by rw[e1];omega),e2];exact⟨rfl,by omega⟩
theorem impl_writeHead.calls (a0_0 a0_1:ByteArray) (a0_2:Int) (a0_3:ByteArray) (a0_4:Bool) (A0_5:Option Addr) (c0_5:Nat) (l0_5:List (S82)) (a0_6 r:ByteArray) (w:World) (hG:Gl w) (hr0_5:Kd.C k82 w A0_5 l0_5.length l0_5) (hc0_5:l0_5.length≤c0_5) (h:impl_writeHead.f a0_0 a0_1 a0_2 a0_3 a0_4 l0_5 a0_6=some r):
  Calls Tryz.prog 43 #[.agg #[.string a0_0,.string a0_1,.int .i64 a0_2,.string a0_3,.bool a0_4,.slice A0_5 l0_5.length c0_5,.string a0_6]] w fun e w'=>e= .returned (.string r)∧Below w.heap.size w w':=by
 have hu34:=Tryz.underlying34;have hu76:=Tryz.underlying82;have HG:=Aside0.mk hG;have HR0_5:=Aside0.mk hr0_5;have HC0_5:=Aside0.mk hc0_5;clear hG hr0_5 hc0_5;unfold impl_writeHead.f at h
 by_cases hlim:impl_writeHead.small a0_0 a0_1 a0_2 a0_3 l0_5 a0_6
 ·rw[if_pos hlim]at h;obtain rfl:=Option.some.inj h;clear h;obtain⟨hs0,hs1,hs3,hs6,hi0,hi1,hl5,hf5,ht2,ht6⟩:=hlim;have HT2:=Aside0.mk ht2;have HT6:=Aside0.mk ht6;have HS0:=Aside0.mk hs0;have HS1:=Aside0.mk hs1;have HS3:=Aside0.mk hs3;have HS6:=Aside0.mk hs6;have HI0:=Aside0.mk hi0;have HI1:=Aside0.mk hi1;have HL5:=Aside0.mk hl5;have HF5:=Aside0.mk hf5;clear hs0 hs1 hs3 hs6 hi0 hi1 hl5 hf5 ht2 ht6;obtain⟨F,hF⟩: ∃F:ByteArray,impl_writeHead_first a0_0 a0_1 a0_2 a0_3=F:=⟨_,rfl⟩;rw[hF];have hBK00:(w.alloc (.cells #[.string a0_0,.string a0_1,.int .i64 a0_2,.string a0_3,.bool a0_4,.slice A0_5 l0_5.length c0_5,.string a0_6] 34)).heap[w.heap.size]?=some (.cells #[.string a0_0,.string a0_1,.int .i64 a0_2,.string a0_3,.bool a0_4,.slice A0_5 l0_5.length c0_5,.string a0_6] 34 (0,0)):=heap_alloc_new w _;have HBK00:=Aside0.mk hBK00
  by_cases hM:a0_0.toList=([]:List UInt8)
  ·have hM1:=eq_true hM;have hM2:(a0_0.toList==([]:List UInt8))=true:=beq_iff_eq.2 hM;have hM3:a0_0.toList.isEmpty=true:=by rw[hM];rfl
   obtain⟨T2,hT2⟩: ∃T:ByteArray,(⟨(Lib.itoa a0_2).toArray⟩:ByteArray)=T:=⟨_,rfl⟩;have hT2z:T2.size≤1099511627776:=by rw[←hT2];show(Lib.itoa a0_2).toArray.size≤_;rw[List.size_toArray];exact HT2.out
   have hI2:=impl_writeHead_itoa a0_2 HI0.out HI1.out;rw[hT2]at hI2;have z1:(9223372036854775807<9+T2.size)=False:=eq_false (by omega);have z2:(9223372036854775807<9+T2.size+1)=False:=eq_false (by omega);have z3:(9223372036854775807<9+T2.size+1+a0_3.size)=False:=eq_false (by have:=HS3.out;omega);have z4:(9223372036854775807<9+T2.size+1+a0_3.size+2)=False:=eq_false (by have:=HS3.out;omega);have hF2:(⟨#[72,84,84,80,47,49,46,49,32]⟩:ByteArray)++T2++(⟨#[32]⟩:ByteArray)++a0_3++(⟨#[13,10]⟩:ByteArray)=F:=by rw[←hF,impl_writeHead_first,if_pos hM,hT2]
   have hFz:F.size≤5497558138880:=by
    rw[←hF2];simp only[ByteArray.size_append];have:=HS3.out
    show 9+T2.size+1+a0_3.size+2≤_;omega
   have hB0:Aside0 (Below (w.heap.size+1) (w.alloc (.cells #[.string a0_0,.string a0_1,.int .i64 a0_2,.string a0_3,.bool a0_4,.slice A0_5 l0_5.length c0_5,.string a0_6] 34)) ((w.alloc (.cells #[.string a0_0,.string a0_1,.int .i64 a0_2,.string a0_3,.bool a0_4,.slice A0_5 l0_5.length c0_5,.string a0_6] 34)).alloc (.cells #[.pointer none,.slice none 0 0] 96)).drew):=⟨(Below.alloc (Below.refl (w.heap.size+1) (w.alloc (.cells #[.string a0_0,.string a0_1,.int .i64 a0_2,.string a0_3,.bool a0_4,.slice A0_5 l0_5.length c0_5,.string a0_6] 34))) (by simp) (.cells #[.pointer none,.slice none 0 0] 96)).drew⟩;have hI0:Aside0 (Lib.IsBuilder 96 5 (w.heap.size+1) (w.heap.size+1) [] ((w.alloc (.cells #[.string a0_0,.string a0_1,.int .i64 a0_2,.string a0_3,.bool a0_4,.slice A0_5 l0_5.length c0_5,.string a0_6] 34)).alloc (.cells #[.pointer none,.slice none 0 0] 96)).drew):=⟨isBld_below (.inl ⟨by omega,.slice none 0 0,zz151,own_nil _ _ _ _,by simp[Value.ownBlock]⟩) (Below.refl _ _).drew⟩
   have hIc: ∀W,(W.cell? ⟨w.heap.size,2,none⟩=some (.int .i64 a0_2)∧W.cell? ⟨w.heap.size,3,none⟩=some (.string a0_3)∧Aside0 (Below (w.heap.size+1) (w.alloc (.cells #[.string a0_0,.string a0_1,.int .i64 a0_2,.string a0_3,.bool a0_4,.slice A0_5 l0_5.length c0_5,.string a0_6] 34)) W))→Aside0 (Lib.IsBuilder 96 5 (w.heap.size+1) (w.heap.size+1) [] W)→Calls Tryz.prog 89 #[.int .i64 a0_2] W fun e w'=>e= .returned (.string T2)∧(w'.cell? ⟨w.heap.size,2,none⟩=some (.int .i64 a0_2)∧w'.cell? ⟨w.heap.size,3,none⟩=some (.string a0_3)∧Aside0 (Below (w.heap.size+1) (w.alloc (.cells #[.string a0_0,.string a0_1,.int .i64 a0_2,.string a0_3,.bool a0_4,.slice A0_5 l0_5.length c0_5,.string a0_6] 34)) w'))∧Aside0 (Lib.IsBuilder 96 5 (w.heap.size+1) (w.heap.size+1) [] w'):=by
    intro W hW hI;refine(strconv_Itoa.calls a0_2 T2 W (HG.out.below ((below_alloc (Below.refl w.heap.size w) (.cells #[.string a0_0,.string a0_1,.int .i64 a0_2,.string a0_3,.bool a0_4,.slice A0_5 l0_5.length c0_5,.string a0_6] 34)).trans (hW.2.2.out.mono (by omega)))) hI2).mono ?_;rintro e w5 ⟨rfl,hb5⟩;have hbb:=hW.2.2.out.trans (hb5.mono (by have:=hW.2.2.out.size;simp at this;omega));have hbk:=(hbb.block w.heap.size (by omega)).trans HBK00.out;exact⟨rfl,⟨(blk_cell hbk 2).trans rfl,(blk_cell hbk 3).trans rfl,⟨hbb⟩⟩,⟨isBld_below hI.out hb5⟩⟩
   have hWc: ∀W,(W.cell? ⟨w.heap.size,2,none⟩=some (.int .i64 a0_2)∧W.cell? ⟨w.heap.size,3,none⟩=some (.string a0_3)∧Aside0 (Below (w.heap.size+1) (w.alloc (.cells #[.string a0_0,.string a0_1,.int .i64 a0_2,.string a0_3,.bool a0_4,.slice A0_5 l0_5.length c0_5,.string a0_6] 34)) W))→Aside0 (Lib.IsBuilder 96 5 (w.heap.size+1) (w.heap.size+1) [] W)→Calls Tryz.prog 88 #[.pointer (some ⟨w.heap.size+1,0,none⟩),.string F] W fun e w'=>e= .returned (.tuple #[.int .i64 F.size,.nilIface])∧(w'.cell? ⟨w.heap.size,2,none⟩=some (.int .i64 a0_2)∧w'.cell? ⟨w.heap.size,3,none⟩=some (.string a0_3)∧Aside0 (Below (w.heap.size+1) (w.alloc (.cells #[.string a0_0,.string a0_1,.int .i64 a0_2,.string a0_3,.bool a0_4,.slice A0_5 l0_5.length c0_5,.string a0_6] 34)) w'))∧Aside0 (Lib.BuilderAt 96 5 (w.heap.size+1) (w.heap.size+1) (.pointer (some ⟨w.heap.size+1,0,none⟩)) ([]++Lib.strCells F) w'):=by
    intro W hW hI;refine(bld_write (w.heap.size+1) (w.heap.size+1) [] _ _ hI.out (by simp;omega) (by have:=hW.2.2.out.size;simp at this;omega)).mono ?_;rintro e w5 ⟨rfl,h1,h2⟩;have hbb:=hW.2.2.out.trans h2;have hbk:=(hbb.block w.heap.size (by omega)).trans HBK00.out;exact⟨rfl,⟨(blk_cell hbk 2).trans rfl,(blk_cell hbk 3).trans rfl,⟨hbb⟩⟩,⟨h1⟩⟩
   have hc2:((w.alloc (.cells #[.string a0_0,.string a0_1,.int .i64 a0_2,.string a0_3,.bool a0_4,.slice A0_5 l0_5.length c0_5,.string a0_6] 34)).alloc (.cells #[.pointer none,.slice none 0 0] 96)).drew.cell? ⟨w.heap.size,2,none⟩=some (.int .i64 a0_2):=(blk_cell ((hB0.out.block w.heap.size (by omega)).trans HBK00.out) 2).trans rfl;have hc3:((w.alloc (.cells #[.string a0_0,.string a0_1,.int .i64 a0_2,.string a0_3,.bool a0_4,.slice A0_5 l0_5.length c0_5,.string a0_6] 34)).alloc (.cells #[.pointer none,.slice none 0 0] 96)).drew.cell? ⟨w.heap.size,3,none⟩=some (.string a0_3):=(blk_cell ((hB0.out.block w.heap.size (by omega)).trans HBK00.out) 3).trans rfl;go_enter Tryz.func43,Tryz.ntmps43
   go_wp2_with fail
   go_region_held3 (fun w'=>w'.cell? ⟨w.heap.size,2,none⟩=some (.int .i64 a0_2)∧w'.cell? ⟨w.heap.size,3,none⟩=some (.string a0_3)∧Aside0 (Below (w.heap.size+1) (w.alloc (.cells #[.string a0_0,.string a0_1,.int .i64 a0_2,.string a0_3,.bool a0_4,.slice A0_5 l0_5.length c0_5,.string a0_6] 34)) w')) (first|assumption|exact⟨hc2,hc3,hB0⟩|go_keep)
    (first|(go_at_call 89;refine(hIc _ ?_ ?_).mono ?_;assumption;assumption;rintro e w' ⟨rfl,hs,hbi⟩)|(go_at_call 88;refine(hWc _ ?_ ?_).mono ?_;assumption;assumption;rintro e w' ⟨rfl,hs,hbe⟩))
   have HB1:=hbe;have HB2:=hs.2.2;have BK:=Aside0.mk ((HB2.out.block w.heap.size (by omega)).trans HBK00.out);clear hbe hs hIc hWc hc2 hc3 hB0 hI0;have hm0:w'.cell? ⟨w.heap.size,0,none⟩=some (.string a0_0):=(blk_cell BK.out 0).trans rfl;have hm1:w'.cell? ⟨w.heap.size,1,none⟩=some (.string a0_1):=(blk_cell BK.out 1).trans rfl;have hm2:w'.cell? ⟨w.heap.size,2,none⟩=some (.int .i64 a0_2):=(blk_cell BK.out 2).trans rfl;have hm3:w'.cell? ⟨w.heap.size,3,none⟩=some (.string a0_3):=(blk_cell BK.out 3).trans rfl;have hm4:w'.cell? ⟨w.heap.size,4,none⟩=some (.bool a0_4):=(blk_cell BK.out 4).trans rfl;have hm5:w'.cell? ⟨w.heap.size,5,none⟩=some (.slice A0_5 l0_5.length c0_5):=(blk_cell BK.out 5).trans rfl;have hm6:w'.cell? ⟨w.heap.size,6,none⟩=some (.string a0_6):=(blk_cell BK.out 6).trans rfl;go_wp2
   go_loopg [31] (l0_5.length+1) (fun kq v31 w'=> ∃(x31:Int),v31= .int .i64 x31∧Aside0 (∃j:Nat,x31=(j:Int)∧j≤l0_5.length∧kq+j=l0_5.length+1∧Lib.IsBuilder 96 5 (w.heap.size+1) (w.heap.size+1) (Lib.byteCells (F.data.toList++impl_writeHead_flds (l0_5.take j))) w')∧Aside0 (Below (w.heap.size+1) (w.alloc (.cells #[.string a0_0,.string a0_1,.int .i64 a0_2,.string a0_3,.bool a0_4,.slice A0_5 l0_5.length c0_5,.string a0_6] 34)) w'))
   case atStart=>
    refine⟨0,rfl,⟨0,rfl,by omega,by omega,?_⟩,HB2⟩;have:=HB1.out;rw[List.nil_append,impl_writeHead_bytes]at this;refine Or.inr ?_
    simpa [impl_writeHead_flds]using this
   case round=>
    obtain⟨x31,rfl,HJ,HB⟩:=hrel;obtain⟨j,hxj,hjl,hkj,hbld⟩:=HJ.out;clear HJ;have HX:=Aside0.mk hxj;have HJL:=Aside0.mk hjl;have HK:=Aside0.mk hkj;have HBL:=Aside0.mk hbld;clear hxj hjl hkj hbld
    cases gk with
    |zero=>have:=HK.out;have:=HJL.out;omega
    |succ k1=>
    by_cases hlt:j<l0_5.length
    ·have c1:decide (x31<(l0_5.length:Int))=true:=decide_eq_true zz163;have p9:0≤(x31:Int):=by have:=HX.out;omega
     have q9:x31<(l0_5.length:Int):=of_decide_eq_true c1;have hfs:=impl_writeHead_fsize l0_5 j hlt;rw[←HX.out]at hfs;obtain⟨hft,hfz⟩:=impl_writeHead_ftext (rd_T82 l0_5 x31) (by have:=HF5.out;omega);have HLT:=Aside0.mk hlt;have HFS:=Aside0.mk hfs;clear hlt hfs;have hfld:impl_writeHead_fld (rd_T82 l0_5 x31)=(rd_T82 l0_5 x31).f0++(⟨#[58,32]⟩:ByteArray)++(rd_T82 l0_5 x31).f1++(⟨#[13,10]⟩:ByteArray):=rfl;generalize (rd_T82 l0_5 x31).f0++(⟨#[58,32]⟩:ByteArray)++(rd_T82 l0_5 x31).f1=t at hft hfz hfld;have z5:(9223372036854775807<t.size+2)=False:=eq_false (by omega);have HFT:=Aside0.mk hft;have HFL:=Aside0.mk hfld;clear hft hfz hfld;have HBW:=Aside0.mk ((below_alloc (Below.refl w.heap.size w) (.cells #[.string a0_0,.string a0_1,.int .i64 a0_2,.string a0_3,.bool a0_4,.slice A0_5 l0_5.length c0_5,.string a0_6] 34)).trans (HB.out.mono (by omega)));obtain⟨ad,e,hx0,hx1⟩:=at_T82 HR0_5.out x31 p9 q9;cases e;replace hx0:=(HBW.out.cell (World.block_lt_of_cell? w _ hx0)).trans hx0;replace hx1:=(HBW.out.cell (World.block_lt_of_cell? w _ hx1)).trans hx1;replace p9:=eq_true p9;replace q9:=eq_true q9;go_wp2_with fail
     refine(impl_fieldText.calls _ _ t _ HFT.out).mono ?_;rintro e w3 ⟨rfl,hb3⟩;have HB3:=Aside0.mk hb3;clear hb3;go_wp2_with fail
     have hti:(F.data.toList++impl_writeHead_flds (l0_5.take j)).length+(t++(⟨#[13,10]⟩:ByteArray)).size≤140737488355328:=by
      rw[←HFL.out,List.length_append,data_length];have:=HFS.out;have:=HF5.out;omega
     have HBX:=Aside0.mk ((below_alloc (Below.refl wr.heap.size wr) _).trans (HB3.out.mono (by simp)));refine(bld_write (w.heap.size+1) (w.heap.size+1) _ _ _ (isBld_below HBL.out HBX.out) (by rw[Lib.byteCells_length];exact hti) (by have:=HBX.out.size;have:=HB.out.size;simp at this;omega)).mono ?_;rintro e w4 ⟨rfl,hb4,hb5⟩;have HB4:=Aside0.mk hb4;have HB5:=Aside0.mk hb5;clear hb4 hb5 hti;go_wp2
     go_roundg k1
     case measure=>omega
     case rel=>
      have hx:=HX.out;have hk:=HK.out;have hlt:=HLT.out;have hl:=HL5.out;refine⟨_,rfl,⟨j+1,by rw[hx];unfold wrap64;omega,by omega,by omega,?_⟩,⟨?_⟩⟩
      ·refine .inr ?_;have hb:=HB4.out;rw[←HFL.out,impl_writeHead_bytes,←impl_writeHead_app,List.append_assoc,hx,←impl_writeHead_snoc l0_5 j hlt]at hb;exact hb
      ·exact HB.out.trans ((HBX.out.mono (by have:=HB.out.size;simp at this;omega)).trans HB5.out)
    ·have c1:decide (x31<(l0_5.length:Int))=false:=decide_eq_false zz163;have hj2:j=l0_5.length:=by have:=HJL.out;have:=HX.out;have:=of_decide_eq_false c1;omega
     have hbl:=HBL.out;rw[hj2,List.take_length]at hbl;have HBE:=Aside0.mk hbl;have BKE:=Aside0.mk ((HB.out.block w.heap.size (by omega)).trans HBK00.out);clear hbl hj2;have hm0:wr.cell? ⟨w.heap.size,0,none⟩=some (.string a0_0):=(blk_cell BKE.out 0).trans rfl;have hm1:wr.cell? ⟨w.heap.size,1,none⟩=some (.string a0_1):=(blk_cell BKE.out 1).trans rfl;have hm2:wr.cell? ⟨w.heap.size,2,none⟩=some (.int .i64 a0_2):=(blk_cell BKE.out 2).trans rfl;have hm3:wr.cell? ⟨w.heap.size,3,none⟩=some (.string a0_3):=(blk_cell BKE.out 3).trans rfl;have hm4:wr.cell? ⟨w.heap.size,4,none⟩=some (.bool a0_4):=(blk_cell BKE.out 4).trans rfl;have hm5:wr.cell? ⟨w.heap.size,5,none⟩=some (.slice A0_5 l0_5.length c0_5):=(blk_cell BKE.out 5).trans rfl;have hm6:wr.cell? ⟨w.heap.size,6,none⟩=some (.string a0_6):=(blk_cell BKE.out 6).trans rfl;cases hBa:a0_4
     ·have hsays:impl_writeHead_says a0_0 a0_6 a0_4=true:=by unfold impl_writeHead_says;rw[if_pos hM,hBa];rfl
      rw[hBa]at hm4;obtain⟨T,hT⟩: ∃T:ByteArray,(⟨(Lib.itoa (a0_6.size:Int)).toArray⟩:ByteArray)=T:=⟨_,rfl⟩;have hTz:T.size≤1099511627776:=by rw[←hT];show(Lib.itoa (a0_6.size:Int)).toArray.size≤_;rw[List.size_toArray];exact HT6.out
      have hI:=impl_writeHead_itoa (a0_6.size:Int) (by omega) (by have:=HS6.out;omega);rw[hT]at hI;have z6:(9223372036854775807<16+T.size)=False:=eq_false (by omega);have z7:(9223372036854775807<16+T.size+2)=False:=eq_false (by omega);have hCz:((⟨#[67,111,110,116,101,110,116,45,76,101,110,103,116,104,58,32]⟩:ByteArray)++T++(⟨#[13,10]⟩:ByteArray)).size=16+T.size+2:=by simp only[ByteArray.size_append];rfl
      go_wp2_with fail
      refine(strconv_Itoa.calls _ T _ (HG.out.below ((below_alloc (Below.refl w.heap.size w) (.cells #[.string a0_0,.string a0_1,.int .i64 a0_2,.string a0_3,.bool a0_4,.slice A0_5 l0_5.length c0_5,.string a0_6] 34)).trans (HB.out.mono (by omega)))) hI).mono ?_;rintro e w5 ⟨rfl,hb5⟩;have HB5:=Aside0.mk (HB.out.trans (hb5.mono (by have:=HB.out.size;simp at this;omega)));have hbl5:=isBld_below HBE.out hb5;clear hb5;go_wp2_with fail
      refine(bld_write (w.heap.size+1) (w.heap.size+1) _ _ _ hbl5 (by rw[Lib.byteCells_length,hCz,List.length_append,data_length];have:=HF5.out;omega) (by have:=HB5.out.size;simp at this;omega)).mono ?_;rintro e w6 ⟨rfl,hb6,hb7⟩;have HB6:=Aside0.mk hb6;have HB7:=Aside0.mk (HB5.out.trans hb7);clear hb6 hb7 hbl5;have hbe:=HB6.out;rw[impl_writeHead_bytes,←impl_writeHead_app]at hbe;have HBF:=Aside0.mk hbe;clear hbe;have hsz:=HB7.out.size
      simp at hsz
      obtain⟨s,hsd⟩: ∃s:ByteArray,(⟨(F.data.toList++impl_writeHead_flds l0_5++((⟨#[67,111,110,116,101,110,116,45,76,101,110,103,116,104,58,32]⟩:ByteArray)++T++(⟨#[13,10]⟩:ByteArray)).data.toList).toArray⟩:ByteArray)=s:=⟨_,rfl⟩
      have hsz2:s.size≤1099511627776*10:=by
       rw[←hsd];show(F.data.toList++impl_writeHead_flds l0_5++((⟨#[67,111,110,116,101,110,116,45,76,101,110,103,116,104,58,32]⟩:ByteArray)++T++(⟨#[13,10]⟩:ByteArray)).data.toList).toArray.size≤_;rw[List.size_toArray];simp only[List.length_append,data_length,hCz];have:=HF5.out
       omega
      have z9:(9223372036854775807<s.size+2)=False:=eq_false (by omega);go_wp2_with fail
      refine(Tryz.Builder_String_any (w.heap.size+1) (w.heap.size+1) _ _ (.inr HBF.out) (by omega)).mono ?_;rintro e w9 ⟨he,hb9⟩;rw[hsd]at he;subst he;have HB9:=Aside0.mk hb9;clear hb9;go_wp2
      go_ret;exact⟨by rw[←hsd];simp only[impl_writeHead_cl,hsays,if_true,hT];rfl,(below_alloc (Below.refl w.heap.size w) (.cells #[.string a0_0,.string a0_1,.int .i64 a0_2,.string a0_3,.bool a0_4,.slice A0_5 l0_5.length c0_5,.string a0_6] 34)).trans ((HB7.out.trans HB9.out).mono (by omega))⟩
     ·have hsays:impl_writeHead_says a0_0 a0_6 a0_4=false:=by unfold impl_writeHead_says;rw[if_pos hM,hBa];rfl
      rw[hBa]at hm4;have hsz:=HB.out.size
      simp at hsz
      obtain⟨s,hsd⟩: ∃s:ByteArray,(⟨(F.data.toList++impl_writeHead_flds l0_5).toArray⟩:ByteArray)=s:=⟨_,rfl⟩
      have hsz2:s.size≤1099511627776*10:=by
       rw[←hsd];show(F.data.toList++impl_writeHead_flds l0_5).toArray.size≤_;rw[List.size_toArray];simp only[List.length_append,data_length];have:=HF5.out
       omega
      have z9:(9223372036854775807<s.size+2)=False:=eq_false (by omega);go_wp2_with fail
      refine(Tryz.Builder_String_any (w.heap.size+1) (w.heap.size+1) _ _ HBE.out (by omega)).mono ?_;rintro e w9 ⟨he,hb9⟩;rw[hsd]at he;subst he;have HB9:=Aside0.mk hb9;clear hb9;go_wp2
      go_ret;exact⟨by rw[←hsd];simp only[impl_writeHead_cl,hsays,Bool.false_eq_true,if_false,List.append_nil];rfl,(below_alloc (Below.refl w.heap.size w) (.cells #[.string a0_0,.string a0_1,.int .i64 a0_2,.string a0_3,.bool a0_4,.slice A0_5 l0_5.length c0_5,.string a0_6] 34)).trans ((HB.out.trans HB9.out).mono (by omega))⟩
  ·have hM1:=eq_false hM;have hM2:(a0_0.toList==([]:List UInt8))=false:=beq_eq_false_iff_ne.2 hM;have hM3:a0_0.toList.isEmpty=false:=by cases h:a0_0.toList with|nil=>exact absurd h hM|cons _ _=>rfl
   have z1:(9223372036854775807<a0_0.size+1)=False:=eq_false (by have:=HS0.out;omega);have z2:(9223372036854775807<a0_0.size+1+a0_1.size)=False:=eq_false (by have:=HS0.out;have:=HS1.out;omega);have z3:(9223372036854775807<a0_0.size+1+a0_1.size+9)=False:=eq_false (by have:=HS0.out;have:=HS1.out;omega);have z4:(9223372036854775807<a0_0.size+1+a0_1.size+9+2)=False:=eq_false (by have:=HS0.out;have:=HS1.out;omega);have hF2:a0_0++(⟨#[32]⟩:ByteArray)++a0_1++(⟨#[32,72,84,84,80,47,49,46,49]⟩:ByteArray)++(⟨#[13,10]⟩:ByteArray)=F:=by rw[←hF,impl_writeHead_first,if_neg hM]
   have hFz:F.size≤5497558138880:=by
    rw[←hF2];simp only[ByteArray.size_append];have:=HS0.out;have:=HS1.out
    show a0_0.size+1+a0_1.size+9+2≤_;omega
   go_enter Tryz.func43,Tryz.ntmps43
   go_wp2_with fail
   try rw[hF2]
   ·have HB0:=Aside0.mk (Below.alloc (Below.refl (w.heap.size+1) (w.alloc (.cells #[.string a0_0,.string a0_1,.int .i64 a0_2,.string a0_3,.bool a0_4,.slice A0_5 l0_5.length c0_5,.string a0_6] 34))) (by simp) (.cells #[.pointer none,.slice none 0 0] 96));have hBK0:=(HB0.out.block w.heap.size (by omega)).trans hBK00;refine(bld_write (w.heap.size+1) (w.heap.size+1) [] _ _ (.inl ⟨by omega,.slice none 0 0,zz151,own_nil _ _ _ _,by simp[Value.ownBlock]⟩) (by simp;omega) (by simp)).mono ?_;rintro e w2 ⟨rfl,hb1,hb2⟩;have HB1:=Aside0.mk hb1;have HB2:=Aside0.mk (HB0.out.trans hb2);have BK:=Aside0.mk ((hb2.block w.heap.size (by omega)).trans hBK0);clear hb1 hb2 hBK0 HB0;have hm0:w2.cell? ⟨w.heap.size,0,none⟩=some (.string a0_0):=(blk_cell BK.out 0).trans rfl;have hm1:w2.cell? ⟨w.heap.size,1,none⟩=some (.string a0_1):=(blk_cell BK.out 1).trans rfl;have hm2:w2.cell? ⟨w.heap.size,2,none⟩=some (.int .i64 a0_2):=(blk_cell BK.out 2).trans rfl;have hm3:w2.cell? ⟨w.heap.size,3,none⟩=some (.string a0_3):=(blk_cell BK.out 3).trans rfl;have hm4:w2.cell? ⟨w.heap.size,4,none⟩=some (.bool a0_4):=(blk_cell BK.out 4).trans rfl;have hm5:w2.cell? ⟨w.heap.size,5,none⟩=some (.slice A0_5 l0_5.length c0_5):=(blk_cell BK.out 5).trans rfl;have hm6:w2.cell? ⟨w.heap.size,6,none⟩=some (.string a0_6):=(blk_cell BK.out 6).trans rfl;go_wp2
    go_loopg [31] (l0_5.length+1) (fun kq v31 w'=> ∃(x31:Int),v31= .int .i64 x31∧Aside0 (∃j:Nat,x31=(j:Int)∧j≤l0_5.length∧kq+j=l0_5.length+1∧Lib.IsBuilder 96 5 (w.heap.size+1) (w.heap.size+1) (Lib.byteCells (F.data.toList++impl_writeHead_flds (l0_5.take j))) w')∧Aside0 (Below (w.heap.size+1) (w.alloc (.cells #[.string a0_0,.string a0_1,.int .i64 a0_2,.string a0_3,.bool a0_4,.slice A0_5 l0_5.length c0_5,.string a0_6] 34)) w'))
    case atStart=>
     refine⟨0,rfl,⟨0,rfl,by omega,by omega,?_⟩,HB2⟩;have:=HB1.out;rw[List.nil_append,impl_writeHead_bytes]at this;refine Or.inr ?_
     simpa [impl_writeHead_flds]using this
    case round=>
     obtain⟨x31,rfl,HJ,HB⟩:=hrel;obtain⟨j,hxj,hjl,hkj,hbld⟩:=HJ.out;clear HJ;have HX:=Aside0.mk hxj;have HJL:=Aside0.mk hjl;have HK:=Aside0.mk hkj;have HBL:=Aside0.mk hbld;clear hxj hjl hkj hbld
     cases gk with
     |zero=>have:=HK.out;have:=HJL.out;omega
     |succ k1=>
     by_cases hlt:j<l0_5.length
     ·have c1:decide (x31<(l0_5.length:Int))=true:=decide_eq_true zz163;have p9:0≤(x31:Int):=by have:=HX.out;omega
      have q9:x31<(l0_5.length:Int):=of_decide_eq_true c1;have hfs:=impl_writeHead_fsize l0_5 j hlt;rw[←HX.out]at hfs;obtain⟨hft,hfz⟩:=impl_writeHead_ftext (rd_T82 l0_5 x31) (by have:=HF5.out;omega);have HLT:=Aside0.mk hlt;have HFS:=Aside0.mk hfs;clear hlt hfs;have hfld:impl_writeHead_fld (rd_T82 l0_5 x31)=(rd_T82 l0_5 x31).f0++(⟨#[58,32]⟩:ByteArray)++(rd_T82 l0_5 x31).f1++(⟨#[13,10]⟩:ByteArray):=rfl;generalize (rd_T82 l0_5 x31).f0++(⟨#[58,32]⟩:ByteArray)++(rd_T82 l0_5 x31).f1=t at hft hfz hfld;have z5:(9223372036854775807<t.size+2)=False:=eq_false (by omega);have HFT:=Aside0.mk hft;have HFL:=Aside0.mk hfld;clear hft hfz hfld;have HBW:=Aside0.mk ((below_alloc (Below.refl w.heap.size w) (.cells #[.string a0_0,.string a0_1,.int .i64 a0_2,.string a0_3,.bool a0_4,.slice A0_5 l0_5.length c0_5,.string a0_6] 34)).trans (HB.out.mono (by omega)));obtain⟨ad,e,hx0,hx1⟩:=at_T82 HR0_5.out x31 p9 q9;cases e;replace hx0:=(HBW.out.cell (World.block_lt_of_cell? w _ hx0)).trans hx0;replace hx1:=(HBW.out.cell (World.block_lt_of_cell? w _ hx1)).trans hx1;replace p9:=eq_true p9;replace q9:=eq_true q9;go_wp2_with fail
      refine(impl_fieldText.calls _ _ t _ HFT.out).mono ?_;rintro e w3 ⟨rfl,hb3⟩;have HB3:=Aside0.mk hb3;clear hb3;go_wp2_with fail
      have hti:(F.data.toList++impl_writeHead_flds (l0_5.take j)).length+(t++(⟨#[13,10]⟩:ByteArray)).size≤140737488355328:=by
       rw[←HFL.out,List.length_append,data_length];have:=HFS.out;have:=HF5.out;omega
      have HBX:=Aside0.mk ((below_alloc (Below.refl wr.heap.size wr) _).trans (HB3.out.mono (by simp)));refine(bld_write (w.heap.size+1) (w.heap.size+1) _ _ _ (isBld_below HBL.out HBX.out) (by rw[Lib.byteCells_length];exact hti) (by have:=HBX.out.size;have:=HB.out.size;simp at this;omega)).mono ?_;rintro e w4 ⟨rfl,hb4,hb5⟩;have HB4:=Aside0.mk hb4;have HB5:=Aside0.mk hb5;clear hb4 hb5 hti;go_wp2
      go_roundg k1
      case measure=>omega
      case rel=>
       have hx:=HX.out;have hk:=HK.out;have hlt:=HLT.out;have hl:=HL5.out;refine⟨_,rfl,⟨j+1,by rw[hx];unfold wrap64;omega,by omega,by omega,?_⟩,⟨?_⟩⟩
       ·refine .inr ?_;have hb:=HB4.out;rw[←HFL.out,impl_writeHead_bytes,←impl_writeHead_app,List.append_assoc,hx,←impl_writeHead_snoc l0_5 j hlt]at hb;exact hb
       ·exact HB.out.trans ((HBX.out.mono (by have:=HB.out.size;simp at this;omega)).trans HB5.out)
     ·have c1:decide (x31<(l0_5.length:Int))=false:=decide_eq_false zz163;have hj2:j=l0_5.length:=by have:=HJL.out;have:=HX.out;have:=of_decide_eq_false c1;omega
      have hbl:=HBL.out;rw[hj2,List.take_length]at hbl;have HBE:=Aside0.mk hbl;have BKE:=Aside0.mk ((HB.out.block w.heap.size (by omega)).trans HBK00.out);clear hbl hj2;have hm0:wr.cell? ⟨w.heap.size,0,none⟩=some (.string a0_0):=(blk_cell BKE.out 0).trans rfl;have hm1:wr.cell? ⟨w.heap.size,1,none⟩=some (.string a0_1):=(blk_cell BKE.out 1).trans rfl;have hm2:wr.cell? ⟨w.heap.size,2,none⟩=some (.int .i64 a0_2):=(blk_cell BKE.out 2).trans rfl;have hm3:wr.cell? ⟨w.heap.size,3,none⟩=some (.string a0_3):=(blk_cell BKE.out 3).trans rfl;have hm4:wr.cell? ⟨w.heap.size,4,none⟩=some (.bool a0_4):=(blk_cell BKE.out 4).trans rfl;have hm5:wr.cell? ⟨w.heap.size,5,none⟩=some (.slice A0_5 l0_5.length c0_5):=(blk_cell BKE.out 5).trans rfl;have hm6:wr.cell? ⟨w.heap.size,6,none⟩=some (.string a0_6):=(blk_cell BKE.out 6).trans rfl
      by_cases hB:a0_6.toList=([]:List UInt8)
      ·have hB1:=eq_true hB;have hB2:(a0_6.toList==([]:List UInt8))=true:=beq_iff_eq.2 hB;have hB3:a0_6.toList.isEmpty=true:=by rw[hB];rfl
       have hsays:impl_writeHead_says a0_0 a0_6 a0_4=false:=by unfold impl_writeHead_says;rw[if_neg hM];simp[hB]
       have hsz:=HB.out.size
       simp at hsz
       obtain⟨s,hsd⟩: ∃s:ByteArray,(⟨(F.data.toList++impl_writeHead_flds l0_5).toArray⟩:ByteArray)=s:=⟨_,rfl⟩
       have hsz2:s.size≤1099511627776*10:=by
        rw[←hsd];show(F.data.toList++impl_writeHead_flds l0_5).toArray.size≤_;rw[List.size_toArray];simp only[List.length_append,data_length];have:=HF5.out
        omega
       have z9:(9223372036854775807<s.size+2)=False:=eq_false (by omega);go_wp2_with fail
       refine(Tryz.Builder_String_any (w.heap.size+1) (w.heap.size+1) _ _ HBE.out (by omega)).mono ?_;rintro e w9 ⟨he,hb9⟩;rw[hsd]at he;subst he;have HB9:=Aside0.mk hb9;clear hb9;go_wp2
       go_ret;exact⟨by rw[←hsd];simp only[impl_writeHead_cl,hsays,Bool.false_eq_true,if_false,List.append_nil];rfl,(below_alloc (Below.refl w.heap.size w) (.cells #[.string a0_0,.string a0_1,.int .i64 a0_2,.string a0_3,.bool a0_4,.slice A0_5 l0_5.length c0_5,.string a0_6] 34)).trans ((HB.out.trans HB9.out).mono (by omega))⟩
      ·have hB1:=eq_false hB;have hB2:(a0_6.toList==([]:List UInt8))=false:=beq_eq_false_iff_ne.2 hB;have hB3:a0_6.toList.isEmpty=false:=by cases h:a0_6.toList with|nil=>exact absurd h hB|cons _ _=>rfl
       have hsays:impl_writeHead_says a0_0 a0_6 a0_4=true:=by unfold impl_writeHead_says;rw[if_neg hM];simp[hB]
       obtain⟨T,hT⟩: ∃T:ByteArray,(⟨(Lib.itoa (a0_6.size:Int)).toArray⟩:ByteArray)=T:=⟨_,rfl⟩;have hTz:T.size≤1099511627776:=by rw[←hT];show(Lib.itoa (a0_6.size:Int)).toArray.size≤_;rw[List.size_toArray];exact HT6.out
       have hI:=impl_writeHead_itoa (a0_6.size:Int) (by omega) (by have:=HS6.out;omega);rw[hT]at hI;have z6:(9223372036854775807<16+T.size)=False:=eq_false (by omega);have z7:(9223372036854775807<16+T.size+2)=False:=eq_false (by omega);have hCz:((⟨#[67,111,110,116,101,110,116,45,76,101,110,103,116,104,58,32]⟩:ByteArray)++T++(⟨#[13,10]⟩:ByteArray)).size=16+T.size+2:=by simp only[ByteArray.size_append];rfl
       go_wp2_with fail
       refine(strconv_Itoa.calls _ T _ (HG.out.below ((below_alloc (Below.refl w.heap.size w) (.cells #[.string a0_0,.string a0_1,.int .i64 a0_2,.string a0_3,.bool a0_4,.slice A0_5 l0_5.length c0_5,.string a0_6] 34)).trans (HB.out.mono (by omega)))) hI).mono ?_;rintro e w5 ⟨rfl,hb5⟩;have HB5:=Aside0.mk (HB.out.trans (hb5.mono (by have:=HB.out.size;simp at this;omega)));have hbl5:=isBld_below HBE.out hb5;clear hb5;go_wp2_with fail
       refine(bld_write (w.heap.size+1) (w.heap.size+1) _ _ _ hbl5 (by rw[Lib.byteCells_length,hCz,List.length_append,data_length];have:=HF5.out;omega) (by have:=HB5.out.size;simp at this;omega)).mono ?_;rintro e w6 ⟨rfl,hb6,hb7⟩;have HB6:=Aside0.mk hb6;have HB7:=Aside0.mk (HB5.out.trans hb7);clear hb6 hb7 hbl5;have hbe:=HB6.out;rw[impl_writeHead_bytes,←impl_writeHead_app]at hbe;have HBF:=Aside0.mk hbe;clear hbe;have hsz:=HB7.out.size
       simp at hsz
       obtain⟨s,hsd⟩: ∃s:ByteArray,(⟨(F.data.toList++impl_writeHead_flds l0_5++((⟨#[67,111,110,116,101,110,116,45,76,101,110,103,116,104,58,32]⟩:ByteArray)++T++(⟨#[13,10]⟩:ByteArray)).data.toList).toArray⟩:ByteArray)=s:=⟨_,rfl⟩
       have hsz2:s.size≤1099511627776*10:=by
        rw[←hsd];show(F.data.toList++impl_writeHead_flds l0_5++((⟨#[67,111,110,116,101,110,116,45,76,101,110,103,116,104,58,32]⟩:ByteArray)++T++(⟨#[13,10]⟩:ByteArray)).data.toList).toArray.size≤_;rw[List.size_toArray];simp only[List.length_append,data_length,hCz];have:=HF5.out
        omega
       have z9:(9223372036854775807<s.size+2)=False:=eq_false (by omega);go_wp2_with fail
       refine(Tryz.Builder_String_any (w.heap.size+1) (w.heap.size+1) _ _ (.inr HBF.out) (by omega)).mono ?_;rintro e w9 ⟨he,hb9⟩;rw[hsd]at he;subst he;have HB9:=Aside0.mk hb9;clear hb9;go_wp2
       go_ret;exact⟨by rw[←hsd];simp only[impl_writeHead_cl,hsays,if_true,hT];rfl,(below_alloc (Below.refl w.heap.size w) (.cells #[.string a0_0,.string a0_1,.int .i64 a0_2,.string a0_3,.bool a0_4,.slice A0_5 l0_5.length c0_5,.string a0_6] 34)).trans ((HB7.out.trans HB9.out).mono (by omega))⟩
 ·rw[if_neg hlim]at h;cases h
def impl_FieldsOk.l0:Nat→List (S82)→Int→Int→Option (Bool)
 |0,_,_,_=>none
 |k+1,x8,x9,x10=>if x10<x9 then(if 0≤x10 then(if x10<(x8.length:Int)then((impl_FieldOk.f k ((rd_T82 x8 x10).f0) ((rd_T82 x8 x10).f1)).bind fun t169=>(if t169=true then(impl_FieldsOk.l0 k x8 x9 (wrap64 (x10+1)))else(some false)))else(none))else(none))else(some true)
def impl_FieldsOk.f (k:Nat) (l0:List (S82)):Option (Bool):=if(l0.length:Int)>20 then(some false)else(impl_FieldsOk.l0 k l0 (l0.length:Int) 0)
theorem impl_FieldsOk.calls (k:Nat) (A0:Option Addr) (c0:Nat) (l0:List (S82)) (r:Bool) (w:World) (hr0:Kd.C k82 w A0 l0.length l0) (hc0:l0.length≤c0) (h:impl_FieldsOk.f k l0=some r):
  Calls Tryz.prog 62 #[.slice A0 l0.length c0] w fun e w'=>e= .returned (.bool r)∧Below w.heap.size w w':=by
 have hu82:=Tryz.underlying82;have HR0:=Aside0.mk hr0;have HC0:=Aside0.mk hc0;clear hr0 hc0;have HB:=Aside0.mk (Below.refl w.heap.size w);have H:(if(l0.length:Int)>20 then(some false)else(impl_FieldsOk.l0 k l0 (l0.length:Int) 0))=some r:=h;clear h
 by_cases c2:(l0.length:Int)>20
 ·rw[if_pos c2]at H;have c2b0:decide (20<(l0.length:Int))=true:=decide_eq_true c2;have c2b1:decide (20<l0.length)=true:=decide_eq_true (by omega);clear c2;obtain rfl:=Option.some.inj H;go_enter Tryz.func62,Tryz.ntmps62
  go_wp2
  go_ret;exact⟨zz1,zz0⟩
 ·rw[if_neg c2]at H;have c2b0:decide (20<(l0.length:Int))=false:=decide_eq_false c2;have c2b1:decide (20<l0.length)=false:=decide_eq_false (by omega);clear c2;have H':=Aside0.mk H;clear H;go_enter Tryz.func62,Tryz.ntmps62
  go_wp2
  go_loopg [10] k (fun kq v10 w'=> ∃(x10_1:Int),v10= .int .i64 x10_1∧Aside0 (impl_FieldsOk.l0 kq l0 (l0.length:Int) x10_1=some r)∧Aside0 (kq≤k)∧Aside0 (Below w.heap.size w w'))
  case atStart=>exact⟨(0),zz4,H',⟨Nat.le_refl _⟩,⟨zz0⟩⟩
  case round=>
   clear H';(try clear c2);(try clear c2b0);(try clear c2b1);(try clear p2);obtain⟨x10_1,rfl,HA,HK1,HB⟩:=hrel
   cases gk with
   |zero=>exact absurd HA.out (by simp[impl_FieldsOk.l0])
   |succ k1=>
    have H:=HA.out;clear HA;simp only[impl_FieldsOk.l0]at H
    by_cases c3:x10_1<(l0.length:Int)
    ·rw[if_pos c3]at H;have c3b0:decide (x10_1<(l0.length:Int))=true:=decide_eq_true c3;clear c3
     by_cases c4:0≤x10_1
     ·rw[if_pos c4]at H;have c4b0:decide (0≤x10_1)=true:=decide_eq_true c4;clear c4
      by_cases c5:x10_1<(l0.length:Int)
      ·rw[if_pos c5]at H;have c5b0:decide (x10_1<(l0.length:Int))=true:=decide_eq_true c5;clear c5;replace H:=Option.bind_eq_some_iff.mp H;obtain⟨t169,A60,H⟩:=H;(try dsimp only at H);have A6:=Aside0.mk A60;clear A60;have HC7:=Aside0.mk H;clear H;have p167:0≤(x10_1:Int):=of_decide_eq_true zz16;have q167:x10_1<(l0.length:Int):=of_decide_eq_true zz16;obtain⟨ad167,e167,W167⟩:=at_T82 HR0.out x10_1 p167 q167;cases e167;obtain⟨hx167_0,hx167_1⟩:=El82.up HB.out W167;replace p167:=eq_true p167;replace q167:=eq_true q167;go_upto_if 16 with(first|((with_reducible refine gate_dst (N:=4) rfl ?_);refine boxP_ (N:=4) (cs:= #[.string (⟨#[]⟩:ByteArray),.string (⟨#[]⟩:ByteArray)]) (t:=82) ?_;intro gb168 hg w8 hbox hb;have BK168:=Aside0.mk (hbox);have GE168:=geb_ (w:=w) hg zz0;replace HB:=Aside0.mk (below_step zz0 hb);clear hb hbox hg;obtain⟨_,_,_,_⟩:=cells2_ BK168.out)|((with_reducible refine gate_callee (f:=110) rfl ?_);refine goesR_ 15 Tryz.func110 #[.agg #[.string ((rd_T82 l0 x10_1).f0),.string ((rd_T82 l0 x10_1).f1)]] (impl_FieldOk.calls k1 ((rd_T82 l0 x10_1).f0) ((rd_T82 l0 x10_1).f1) t169 _ A6.out) ?_;rintro w10 hb;replace BK168:=Aside0.mk (blk_below (g:=gb168) (o:= .cells #[.string ((rd_T82 l0 x10_1).f0),.string ((rd_T82 l0 x10_1).f1)] 82 (0,0)) (by(with_reducible repeat(first|refine blk_drewN ?_ _|refine blk_drew ?_|refine blk_alloc ?_ _));refine blk_put (cs:= #[.string ((rd_T82 l0 x10_1).f0),.string (⟨#[]⟩:ByteArray)]) ?_ 1 _ rfl;(with_reducible repeat(first|refine blk_drewN ?_ _|refine blk_drew ?_|refine blk_alloc ?_ _));refine blk_put (cs:= #[.string (⟨#[]⟩:ByteArray),.string (⟨#[]⟩:ByteArray)]) ?_ 0 _ rfl;(with_reducible repeat(first|refine blk_drewN ?_ _|refine blk_drew ?_|refine blk_alloc ?_ _));exact BK168.out) hb);replace HB:=Aside0.mk (below_step zz138 hb);(try clear hb)))
       (try simp only[Act.put,List.setIfInBounds_toArray,List.set_cons_zero,List.set_cons_succ]);have H:=HC7.out;clear HC7
       by_cases c11:t169=true
       ·subst c11;rw[if_pos rfl]at H;have H':=Aside0.mk H;clear H;go_wp2
        go_roundg k1
        (case measure=>have:=HK1.out;omega);case rel=>exact⟨(wrap64 (x10_1+1)),zz4,H',⟨zz119⟩,⟨zz138⟩⟩
       ·replace c11:=Bool.eq_false_iff.mpr c11;subst c11;rw[if_neg Bool.false_ne_true]at H;obtain rfl:=Option.some.inj H;go_wp2
        go_ret;exact⟨zz1,zz138⟩
      ·rw[if_neg c5]at H;exact absurd H (by simp)
     ·rw[if_neg c4]at H;exact absurd H (by simp)
    ·rw[if_neg c3]at H;have c3b0:decide (x10_1<(l0.length:Int))=false:=decide_eq_false c3;clear c3;obtain rfl:=Option.some.inj H;go_wp2
     go_ret;exact⟨zz1,zz0⟩
def impl_framed.f:Option (List ByteArray):=some (([(⟨#[99,111,110,116,101,110,116,45,108,101,110,103,116,104]⟩:ByteArray),(⟨#[116,114,97,110,115,102,101,114,45,101,110,99,111,100,105,110,103]⟩:ByteArray),(⟨#[116,114,97,105,108,101,114]⟩:ByteArray)]:List ByteArray))
theorem impl_framed.calls (r:List ByteArray) (w:World) (h:impl_framed.f=some r):
  Calls Tryz.prog 63 #[] w fun e w'=> ∃v0_:Value,e= .returned (v0_)∧Kd.R Kd.string 9 w' w.heap.size (fun _=>True) v0_ r∧Below w.heap.size w w':=by
 have HB:=Aside0.mk (Below.refl w.heap.size w);have H:(some (([(⟨#[99,111,110,116,101,110,116,45,108,101,110,103,116,104]⟩:ByteArray),(⟨#[116,114,97,110,115,102,101,114,45,101,110,99,111,100,105,110,103]⟩:ByteArray),(⟨#[116,114,97,105,108,101,114]⟩:ByteArray)]:List ByteArray)))=some r:=h;clear h;obtain⟨y170,hy170⟩: ∃y_:List ByteArray,y_=(([(⟨#[99,111,110,116,101,110,116,45,108,101,110,103,116,104]⟩:ByteArray),(⟨#[116,114,97,110,115,102,101,114,45,101,110,99,111,100,105,110,103]⟩:ByteArray),(⟨#[116,114,97,105,108,101,114]⟩:ByteArray)]:List ByteArray)):=⟨_,rfl⟩;replace H:(some y170)=some r:=by first|(rw[hy170];with_reducible exact H)|(have H2_:=(Option.bind_some _ _).symm.trans H;rw[hy170];with_reducible exact H2_)|(have H2_:=(Option.bind_some _ _).symm.trans H;with_reducible exact H2_)|with_reducible exact H|(rw[hy170];exact H)|exact H
 have Ny170:=Aside0.mk hy170;clear hy170;obtain rfl:=Option.some.inj H;go_enter Tryz.func63,Tryz.ntmps63
 go_wp2_with (first|((with_reducible refine gate_dst (N:=1) rfl ?_);refine Kd.R_lit Kd.string _ 9 ?hg (N:=1) ?hd (xs:=([(⟨#[99,111,110,116,101,110,116,45,108,101,110,103,116,104]⟩:ByteArray),(⟨#[116,114,97,110,115,102,101,114,45,101,110,99,111,100,105,110,103]⟩:ByteArray),(⟨#[116,114,97,105,108,101,114]⟩:ByteArray)]:List ByteArray)) (inner:= [.string (⟨#[99,111,110,116,101,110,116,45,108,101,110,103,116,104]⟩:ByteArray),.string (⟨#[116,114,97,110,115,102,101,114,45,101,110,99,111,100,105,110,103]⟩:ByteArray),.string (⟨#[116,114,97,105,108,101,114]⟩:ByteArray)]) (ok:=fun _=>True) (okp:=fun _=>True) ?hr ?hp (fun _ hk=>hk) trivial (Below.refl _ _) (Nat.le_refl _) (by simp) ?_;(case hd=>rfl);(case hg=>rfl);(case hr=>first|(go_simp;done)|(go_simp;rfl));(case hp=>exact(Reps.one (show Kd.M Kd.string _ _ _ (⟨#[99,111,110,116,101,110,116,45,108,101,110,103,116,104]⟩:ByteArray) [.string (⟨#[99,111,110,116,101,110,116,45,108,101,110,103,116,104]⟩:ByteArray)]from rfl) (Reps.one (show Kd.M Kd.string _ _ _ (⟨#[116,114,97,110,115,102,101,114,45,101,110,99,111,100,105,110,103]⟩:ByteArray) [.string (⟨#[116,114,97,110,115,102,101,114,45,101,110,99,111,100,105,110,103]⟩:ByteArray)]from rfl) (Reps.one (show Kd.M Kd.string _ _ _ (⟨#[116,114,97,105,108,101,114]⟩:ByteArray) [.string (⟨#[116,114,97,105,108,101,114]⟩:ByteArray)]from rfl) (Reps.none _ _)))));intro v171 w1 ho2 hb hg_ hnew_;clear hg_ hnew_;(first|rw[←Ny170.out]at ho2|(simp only[Int.reduceToNat]at ho2;rw[←Ny170.out]at ho2));have HO172:=Aside0.mk (Kd.R_lower ho2 (below_size zz0));replace HB:=Aside0.mk (below_step zz0 hb);clear hb ho2))
 go_ret;exact⟨_,zz1,by(with_reducible repeat(first|apply Kd.R_alloc|apply Kd.R_drewN|apply Kd.R_drew));exact HO172.out,zz0⟩
theorem impl_Fold_up (x:Int):impl_isUpper.f x=some (decide (65≤x∧x≤90)):=by unfold impl_isUpper.f;split<;>simp<;>omega
def impl_Fold.f (a0:ByteArray):Option (ByteArray):=if a0.size≤1099511627776 then some (strOfNums ((bytesOf a0).map lowI))else none
theorem impl_Fold.calls (a0 r:ByteArray) (w:World) (h:impl_Fold.f a0=some r):
  Calls Tryz.prog 57 #[.string a0] w fun e w'=>e= .returned (.string r)∧Below w.heap.size w w':=by
 have hu24:=Tryz.underlying24;unfold impl_Fold.f at h
 by_cases hlim:a0.size≤1099511627776
 ·rw[if_pos hlim]at h;obtain rfl:=Option.some.inj h;clear h;have HL:=Aside0.mk hlim;clear hlim;have kb:=fun W=>print_bytes (P:=Tryz.prog) 9 24 5 Tryz.underlying9 Tryz.underlying24 Tryz.underlying5 a0 W;go_enter Tryz.func57,Tryz.ntmps57
  go_wp2
  go_loopg [10] (a0.size+1) (fun kq v4 w'=> ∃(x4:Int),v4= .int .i64 x4∧Aside0 (∃j:Nat,x4=(j:Int)∧j≤a0.size∧kq+j=a0.size+1∧BRow w' w.heap.size (lowTo a0 j))∧Aside0 (w.heap.size<w'.heap.size∧Below w.heap.size w w'))
  case atStart=>
   exact⟨0,rfl,⟨0,rfl,by omega,by omega,by rw[lowTo_zero];exact BRow.new _ _ _⟩,⟨by rw[Lib.bytesWorld_size];omega,bytes_below (Below.refl _ _) (Nat.le_refl _) _ _⟩⟩
  case round=>
   obtain⟨x4,rfl,HJ,HB⟩:=hrel;obtain⟨j,hxj,hjl,hkj,hbr⟩:=HJ.out;clear HJ;have HX:=Aside0.mk hxj;have HJL:=Aside0.mk hjl;have HK:=Aside0.mk hkj;have HR:=Aside0.mk hbr;clear hxj hjl hkj hbr
   cases gk with
   |zero=>have:=HK.out;have:=HJL.out;omega
   |succ k1=>
   by_cases hlt:j<a0.size
   ·have c1:decide (x4<(a0.size:Int))=true:=decide_eq_true zz163;have p9:0≤(x4:Int):=by have:=HX.out;omega
    have q9:x4<(a0.size:Int):=of_decide_eq_true c1;have HLT:=Aside0.mk hlt;have hx0:=HR.out.cell x4.toNat zz161;have hfz:=HR.out.frozen x4.toNat zz161;have hbj:(lowTo a0 j).getD x4.toNat 0=(bytesOf a0).getD j 0:=by rw[HX.out,Int.toNat_natCast];exact lowTo_get _ _ hlt
    have hset:=lowTo_set a0 j hlt
    have hsame:(lowTo a0 j).set j ((bytesOf a0).getD j 0)=lowTo a0 j:=by
     rw[←lowTo_get _ _ hlt,List.getD_eq_getElem?_getD,List.getElem?_eq_getElem (by rw[lowTo_length _ _ (by omega)];exact hlt)];exact List.set_getElem_self _
    rw[hbj]at hx0;generalize (bytesOf a0).getD j 0=b at hx0 hset hsame;have HS:=Aside0.mk hset;have HE:=Aside0.mk hsame;clear hlt hset hbj hsame;replace p9:=eq_true p9;replace q9:=eq_true q9;go_wp2_with fail
    refine(impl_isUpper.calls b (decide (65≤b∧b≤90)) _ (impl_Fold_up b)).mono ?_;rintro e w2 ⟨rfl,⟨nd,rfl⟩⟩
    by_cases hup:65≤b∧b≤90
    ·have c2:decide (65≤b∧b≤90)=true:=decide_eq_true hup;have HU:=Aside0.mk hup;rw[c2];clear hup;go_wp2
     go_roundg k1
     case measure=>omega
     case rel=>
      have hx:=HX.out;have hk:=HK.out;have hlt:=HLT.out;have hl:=HL.out;have hu:=HU.out;have hxn:x4.toNat=j:=by omega
      have hlow:lowI b=(b+32)%256:=by unfold lowI;rw[if_pos (by omega),if_pos (by omega)]
      refine⟨_,rfl,⟨j+1,by rw[hx];unfold wrap64;omega,by omega,by omega,?_⟩,⟨?_,?_⟩⟩
      ·rw[←HS.out,hxn,hlow];exact HR.out.set j _
      ·have:=HB.out.1;simpa using this
      ·exact(HB.out.2.trans (pw_below_drewN (Below.refl _ _) nd)).setCell (Nat.le_refl _) _
    ·have c2:decide (65≤b∧b≤90)=false:=decide_eq_false hup;have HU:=Aside0.mk hup;rw[c2];clear hup;go_wp2
     go_roundg k1
     case measure=>omega
     case rel=>
      have hx:=HX.out;have hk:=HK.out;have hlt:=HLT.out;have hl:=HL.out;have hu:=HU.out;have hlow:lowI b=b:=by unfold lowI;split<;>(try split)<;>omega
      refine⟨_,rfl,⟨j+1,by rw[hx];unfold wrap64;omega,by omega,by omega,?_⟩,⟨?_,?_⟩⟩
      ·rw[←HS.out,hlow,HE.out];exact HR.out
      ·have:=HB.out.1;simpa using this
      ·exact HB.out.2.trans (pw_below_drewN (Below.refl _ _) nd)
   ·have c1:decide (x4<(a0.size:Int))=false:=decide_eq_false zz163;have hj2:j=a0.size:=by have:=HJL.out;omega
    have hst:=HR.out.string (P:=Tryz.prog) (c:=grownCap w a0.size 0 5) (src:=24) (dst:=9) Tryz.underlying24 Tryz.underlying5 Tryz.underlying9 (lowTo_length a0 j HJL.out);rw[hj2,lowTo_all]at hst;go_wp2_with fail
    go_ret;exact⟨rfl,HB.out.2⟩
 ·rw[if_neg hlim]at h;cases h
def impl_SameFold.f (a0 a1:ByteArray):Option (Bool):=(impl_Fold.f a0).bind fun t173=>((impl_Fold.f a1).bind fun t174=>(some (t173.toList==t174.toList)))
theorem impl_SameFold.calls (a0 a1:ByteArray) (r:Bool) (w:World) (h:impl_SameFold.f a0 a1=some r):
  Calls Tryz.prog 142 #[.string a0,.string a1] w fun e w'=>e= .returned (.bool r)∧Below w.heap.size w w':=by
 have HB:=Aside0.mk (Below.refl w.heap.size w);have H:((impl_Fold.f a0).bind fun t173=>((impl_Fold.f a1).bind fun t174=>(some (t173.toList==t174.toList))))=some r:=h;clear h;replace H:=Option.bind_eq_some_iff.mp H;obtain⟨t173,A30,H⟩:=H;(try dsimp only at H);have A3:=Aside0.mk A30;clear A30;replace H:=Option.bind_eq_some_iff.mp H;obtain⟨t174,A40,H⟩:=H;(try dsimp only at H);have A4:=Aside0.mk A40;clear A40;obtain rfl:=Option.some.inj H;go_enter Tryz.func142,Tryz.ntmps142
 go_wp2_with (first|((with_reducible refine gate_callee (f:=57) rfl ?_);refine goesR_ 6 Tryz.func57 #[.string a0] (impl_Fold.calls a0 t173 _ A3.out) ?_;rintro w5 hb;replace HB:=Aside0.mk (below_step zz0 hb);(try clear hb))|((with_reducible refine gate_callee (f:=57) rfl ?_);refine goesR_ 8 Tryz.func57 #[.string a1] (impl_Fold.calls a1 t174 _ A4.out) ?_;rintro w6 hb;replace HB:=Aside0.mk (below_step zz0 hb);(try clear hb)))
 go_ret;exact⟨zz1,zz0⟩
end Go.Proofs.YtnilblnhlpnpgaaGreatDoor.GFnTwice
