-- Laid by gen.py of this session (over the kit's printing program): what the law FnExactIndexRange reaches, as Lean functions, and that Go comes to just that.
import Derived.Test.YteojcbbifacpnaaGreatDoorGFnExactIndexRangex0
import Derived.Test.YteojcbbifacpnaaGreatDoorGFnExactIndexRangex1
import Derived.Test.YteojcbbifacpnaaGreatDoorGFnExactIndexRangex2
import Derived.Test.YteojcbbifacpnaaGreatDoorGFnExactIndexRangex16
import Derived.Test.YteojcbbifacpnaaGreatDoorGFnExactIndexRangex26
import Derived.Test.YteojcbbifacpnaaGreatDoorZFnExactIndexRange
namespace Go.Proofs.YteojcbbifacpnaaGreatDoor.GFnExactIndexRange
open Go.RowKit Go.Proofs.YteojcbbifacpnaaGreatDoorW.PrintWords Go.Proofs.YteojcbbifacpnaaGreatDoorW.PrintLast Go.Proofs.YteojcbbifacpnaaGreatDoorW.PrintMore Go.Proofs.YteojcbbifacpnaaGreatDoorW.Zs
attribute [local go_sem] max2_int min2_int max_two min_two max_three min_three max_four min_four -- for this text's walks alone
set_option linter.unusedVariables false
set_option linter.unusedSimpArgs false
/-! ### impl_IndexRange: function 22 -/
def impl_IndexRange.l0:Nat→ByteArray→Int→Int→List (S26)→Int→Int→Option (Int×Int)
 |0,_,_,_,_,_,_=>none
 |k+1,x1,x6,x7,x13,x14,x15=>if x15<x14 then(if 0≤x15 then(if x15<(x13.length:Int)then(if(Op.bytesLess (((rd_T26 x13 x15).f0).toList) x1.toList)=true then(if((Op.bytesLess x1.toList (((rd_T26 x13 x15).f0).toList))=true)then(impl_IndexRange.l0 k x1 (wrap64 (x6+1)) x7 x13 x14 (wrap64 (x15+1)))else(impl_IndexRange.l0 k x1 (wrap64 (x6+1)) (wrap64 (x7+1)) x13 x14 (wrap64 (x15+1))))else(if((Op.bytesLess x1.toList (((rd_T26 x13 x15).f0).toList))=true)then(impl_IndexRange.l0 k x1 x6 x7 x13 x14 (wrap64 (x15+1)))else(impl_IndexRange.l0 k x1 x6 (wrap64 (x7+1)) x13 x14 (wrap64 (x15+1)))))else(none))else(none))else(some (x6,x7))
def impl_IndexRange.f (k:Nat) (l0:List (S26)) (a1:ByteArray):Option (Int×Int):=(impl_IndexOk.f k l0).bind fun t469=>(if t469=true then(impl_IndexRange.l0 k a1 0 0 l0 (l0.length:Int) 0)else(some ((-1),(-1))))
set_option maxHeartbeats 40000000 in
set_option maxRecDepth 100000 in
theorem impl_IndexRange.calls (k : Nat) (A0 : Option Addr) (c0 : Nat) (l0 : List (S26)) (a1 : ByteArray) (r1 : Int) (r2 : Int) (w : World) (hG : Gl w) (hr0 : Kd.C k26 w A0 l0.length l0) (hc0 : l0.length ≤ c0) (h : impl_IndexRange.f k l0 a1 = some (r1, r2)) :
  Calls Tryz.prog 22 #[.slice A0 l0.length c0,.string a1] w fun e w'=>e= .returned (.tuple #[.int .i64 r1,.int .i64 r2])∧Below w.heap.size w w':=by
 have hu26:=Tryz.underlying26;have HG:=Aside0.mk hG;clear hG;have HR0:=Aside0.mk hr0;have HC0:=Aside0.mk hc0;clear hr0 hc0;have HB:=Aside0.mk (Below.refl w.heap.size w);have H:((impl_IndexOk.f k l0).bind fun t469=>(if t469=true then(impl_IndexRange.l0 k a1 0 0 l0 (l0.length:Int) 0)else(some ((-1),(-1)))))=some (r1,r2):=h;clear h;replace H:=Option.bind_eq_some_iff.mp H;obtain⟨t469,A30,H⟩:=H;(try dsimp only at H);have A3:=Aside0.mk A30;clear A30;have HC4:=Aside0.mk H;clear H;go_enter Tryz.func22,Tryz.ntmps22
 go_upto_if 12 with(first|((with_reducible refine gate_callee (f:=19) rfl ?_);refine goesQ_ 11 Tryz.func19 #[.slice A0 l0.length c0] ?_;(with_reducible refine(impl_IndexOk.calls k _ _ l0 t469 _ ?side3 ?side1 ?side2 A3.out).mono ?_);(case side1=>repeat(first|exact HR0.out|(with_reducible refine Kd.C_alloc ?_ _)|(with_reducible refine Kd.C_drewN ?_ _)|(with_reducible refine Kd.C_drew ?_)));(case side2=>exact HC0.out);(case side3=>exact Gl.below HG.out zz0);rintro e w5 ⟨rfl,hb⟩;refine⟨_,rfl,?_⟩;replace HB:=Aside0.mk (below_step zz0 hb);(try clear hb)))
 (try simp only[Act.put,List.setIfInBounds_toArray,List.set_cons_zero,List.set_cons_succ]);have H:=HC4.out;clear HC4
 by_cases c6:t469=true
 ·subst c6;rw[if_pos rfl]at H;have H':=Aside0.mk H;clear H;go_wp2
  go_loopg [6,7,15] k (fun kq v6 v7 v15 w'=> ∃(x6_1:Int) (x7_1:Int) (x15_1:Int),v6= .int .i64 x6_1∧v7= .int .i64 x7_1∧v15= .int .i64 x15_1∧Aside0 (impl_IndexRange.l0 kq a1 x6_1 x7_1 l0 (l0.length:Int) x15_1=some (r1,r2))∧Aside0 (kq≤k)∧Aside0 (Below w.heap.size w w'))
  case atStart=>exact⟨(0),(0),(0),zz2,zz2,zz2,H',⟨Nat.le_refl _⟩,⟨zz0⟩⟩
  case round=>
   clear H';(try clear c1);(try clear c2);(try clear p2);(try clear c6);obtain⟨x6_1,x7_1,x15_1,rfl,rfl,rfl,HA,HK1,HB⟩:=hrel
   cases gk with
   |zero=>exact absurd HA.out (by simp[impl_IndexRange.l0])
   |succ k1=>
    have H:=HA.out;clear HA;simp only[impl_IndexRange.l0]at H
    by_cases c7:x15_1<(l0.length:Int)
    ·rw[if_pos c7]at H;have c7b0:decide (x15_1<(l0.length:Int))=true:=decide_eq_true c7;clear c7;(first|rw[c7b0]|(simp only[i64_w,i32_w];rw[c7b0])|skip)
     by_cases c8:0≤x15_1
     ·rw[if_pos c8]at H;have c8b0:decide (0≤x15_1)=true:=decide_eq_true c8;clear c8
      by_cases c9:x15_1<(l0.length:Int)
      ·rw[if_pos c9]at H;have c9b0:decide (x15_1<(l0.length:Int))=true:=decide_eq_true c9;clear c9;have HC10:=Aside0.mk H;clear H;have p470:0≤(x15_1:Int):=of_decide_eq_true zz3;have q470:x15_1<(l0.length:Int):=of_decide_eq_true zz3;obtain⟨ad470,e470,W470⟩:=at_T26 HR0.out x15_1 p470 q470;cases e470;obtain⟨hx470_0,hx470_1,hx470_2,hx470_3,hx470_4,hx470_5,hx470_6,hx470_7,hx470_8,hx470_9⟩:=El26.up HB.out W470;replace p470:=eq_true p470;replace q470:=eq_true q470;go_upto_if 22 with(first|((with_reducible refine gate_dst (N:=9) rfl ?_);refine boxP_ (N:=9) (cs:= #[.string (⟨#[]⟩:ByteArray),.int .i64 0,.int .i64 0,.string (⟨#[]⟩:ByteArray),.int .i64 0,.string (⟨#[]⟩:ByteArray),.bool false,.int .i64 0,.int .i64 0,.int .i64 0]) (t:=26) ?_;intro gb471 hg w11 hbox hb;have BK471:=Aside0.mk (hbox);have GE471:=geb_ (w:=w) hg zz0;replace HB:=Aside0.mk (below_step zz0 hb);clear hb hbox hg;obtain⟨_,_,_,_,_,_,_,_,_,_,_,_,_,_,_,_,_,_,_,_⟩:=cells10_ BK471.out))
       (try simp only[Act.put,List.setIfInBounds_toArray,List.set_cons_zero,List.set_cons_succ]);have H:=HC10.out;clear HC10
       by_cases c13:(Op.bytesLess (((rd_T26 l0 x15_1).f0).toList) a1.toList)=true
       ·rw[if_pos c13]at H;have c13b0:(Op.bytesLess (((rd_T26 l0 x15_1).f0).toList) a1.toList)=true:=c13;clear c13;(first|rw[c13b0]|(simp only[i64_w,i32_w];rw[c13b0])|skip)
        by_cases c14:((Op.bytesLess a1.toList (((rd_T26 l0 x15_1).f0).toList))=true)
        ·rw[if_pos c14]at H;have c14b0:(Op.bytesLess a1.toList (((rd_T26 l0 x15_1).f0).toList))=true:=c14;clear c14;have H':=Aside0.mk H;clear H;obtain⟨_,_,_,_,_,_,_,_,_,_,_,_,_,_,_,_,_,_,_,_⟩:=cells10_ BK471.out;go_wp2
         go_roundg k1
         (case measure=>have:=HK1.out;omega);case rel=>exact⟨(wrap64 (x6_1+1)),(x7_1),(wrap64 (x15_1+1)),zz2,zz2,zz2,H',⟨zz36⟩,⟨zz44⟩⟩
        ·rw[if_neg c14]at H;have c14b0:(Op.bytesLess a1.toList (((rd_T26 l0 x15_1).f0).toList))=false:=by simpa using c14
         clear c14;have H':=Aside0.mk H;clear H;obtain⟨_,_,_,_,_,_,_,_,_,_,_,_,_,_,_,_,_,_,_,_⟩:=cells10_ BK471.out;go_wp2
         go_roundg k1
         (case measure=>have:=HK1.out;omega);case rel=>exact⟨(wrap64 (x6_1+1)),(wrap64 (x7_1+1)),(wrap64 (x15_1+1)),zz2,zz2,zz2,H',⟨zz36⟩,⟨zz44⟩⟩
       ·rw[if_neg c13]at H;have c13b0:(Op.bytesLess (((rd_T26 l0 x15_1).f0).toList) a1.toList)=false:=by simpa using c13
        clear c13;(first|rw[c13b0]|(simp only[i64_w,i32_w];rw[c13b0])|skip)
        by_cases c17:((Op.bytesLess a1.toList (((rd_T26 l0 x15_1).f0).toList))=true)
        ·rw[if_pos c17]at H;have c17b0:(Op.bytesLess a1.toList (((rd_T26 l0 x15_1).f0).toList))=true:=c17;clear c17;have H':=Aside0.mk H;clear H;obtain⟨_,_,_,_,_,_,_,_,_,_,_,_,_,_,_,_,_,_,_,_⟩:=cells10_ BK471.out;go_wp2
         go_roundg k1
         (case measure=>have:=HK1.out;omega);case rel=>exact⟨(x6_1),(x7_1),(wrap64 (x15_1+1)),zz2,zz2,zz2,H',⟨zz36⟩,⟨zz44⟩⟩
        ·rw[if_neg c17]at H;have c17b0:(Op.bytesLess a1.toList (((rd_T26 l0 x15_1).f0).toList))=false:=by simpa using c17
         clear c17;have H':=Aside0.mk H;clear H;obtain⟨_,_,_,_,_,_,_,_,_,_,_,_,_,_,_,_,_,_,_,_⟩:=cells10_ BK471.out;go_wp2
         go_roundg k1
         (case measure=>have:=HK1.out;omega);case rel=>exact⟨(x6_1),(wrap64 (x7_1+1)),(wrap64 (x15_1+1)),zz2,zz2,zz2,H',⟨zz36⟩,⟨zz44⟩⟩
      ·rw[if_neg c9]at H;exact absurd H (by simp)
     ·rw[if_neg c8]at H;exact absurd H (by simp)
    ·rw[if_neg c7]at H;have c7b0:decide (x15_1<(l0.length:Int))=false:=decide_eq_false c7;clear c7;(first|rw[c7b0]|(simp only[i64_w,i32_w];rw[c7b0])|skip);simp only[Option.some.injEq,Prod.mk.injEq]at H;obtain⟨rfl,rfl⟩:=H;go_wp2
     go_ret2
     exact⟨zz1,zz0⟩
 ·replace c6:=Bool.eq_false_iff.mpr c6;subst c6;rw[if_neg Bool.false_ne_true]at H;simp only[Option.some.injEq,Prod.mk.injEq]at H;obtain⟨rfl,rfl⟩:=H;go_wp2
  go_ret2
  exact⟨zz1,zz0⟩
/-! ### laws_FnExactIndexRange: function 6 -/
def laws_FnExactIndexRange.j0:Nat→List (S23)→List (S26)→Bool→Option (Bool)
 |0,_,_,_=>none
 |k+1,x0,x8,x41=>if x41=true then(some false)else((laws_toLineS.f k x0).bind fun t483=>((laws_eqLineS.f k x8 t483).bind fun t486=>(if t486=true then(some true)else(some false))))
def laws_FnExactIndexRange.f (k:Nat) (l0:List (S23)) (a1:ByteArray):Option (Bool):=if(a1.size:Int)>1048576 then(some true)else((laws_szLineS.f k l0 1048576).bind fun t472=>(if t472<0 then(some true)else((laws_toLineS.f k l0).bind fun t473=>((spec_IndexRange.f k t473 a1).bind fun bt476=>((laws_toLineS.f k l0).bind fun t478=>((impl_IndexRange.f k t478 a1).bind fun bt481=>(if bt481.1=bt476.1 then(laws_FnExactIndexRange.j0 k l0 t478 (bt481.2 !=bt476.2))else(laws_FnExactIndexRange.j0 k l0 t478 true))))))))
set_option maxHeartbeats 40000000 in
set_option maxRecDepth 100000 in
theorem laws_FnExactIndexRange.calls (k : Nat) (A0 : Option Addr) (c0 : Nat) (l0 : List (S23)) (a1 : ByteArray) (r : Bool) (w : World) (hG : Gl w) (hr0 : Kd.C k23 w A0 l0.length l0) (hc0 : l0.length ≤ c0) (h : laws_FnExactIndexRange.f k l0 a1 = some r) :
  Calls Tryz.prog 6 #[.slice A0 l0.length c0,.string a1] w fun e w'=>e= .returned (.bool r)∧Below w.heap.size w w':=by
 have HG:=Aside0.mk hG;clear hG;have HR0:=Aside0.mk hr0;have HC0:=Aside0.mk hc0;clear hr0 hc0;have HB:=Aside0.mk (Below.refl w.heap.size w);have H:(if(a1.size:Int)>1048576 then(some true)else((laws_szLineS.f k l0 1048576).bind fun t472=>(if t472<0 then(some true)else((laws_toLineS.f k l0).bind fun t473=>((spec_IndexRange.f k t473 a1).bind fun bt476=>((laws_toLineS.f k l0).bind fun t478=>((impl_IndexRange.f k t478 a1).bind fun bt481=>(if bt481.1=bt476.1 then(laws_FnExactIndexRange.j0 k l0 t478 (bt481.2 !=bt476.2))else(laws_FnExactIndexRange.j0 k l0 t478 true)))))))))=some r:=h;clear h
 by_cases c3:(a1.size:Int)>1048576
 ·rw[if_pos c3]at H;have c3b0:decide (1048576<(a1.size:Int))=true:=decide_eq_true c3;have c3b1:decide (1048576<a1.size)=true:=decide_eq_true (by omega);clear c3;obtain rfl:=Option.some.inj H;go_enter Tryz.func6,Tryz.ntmps6
  go_wp2
  go_ret;exact⟨zz1,zz0⟩
 ·rw[if_neg c3]at H;have c3b0:decide (1048576<(a1.size:Int))=false:=decide_eq_false c3;have c3b1:decide (1048576<a1.size)=false:=decide_eq_false (by omega);clear c3;replace H:=Option.bind_eq_some_iff.mp H;obtain⟨t472,A40,H⟩:=H;(try dsimp only at H);have A4:=Aside0.mk A40;clear A40;have HC5:=Aside0.mk H;clear H;go_enter Tryz.func6,Tryz.ntmps6
  go_upto_if 18 with(first|((with_reducible refine gate_callee (f:=16) rfl ?_);refine goesQ_ 16 Tryz.func16 #[.slice A0 l0.length c0,.int .i64 1048576] ?_;(with_reducible refine(laws_szLineS.calls k _ _ l0 1048576 t472 _ ?side1 ?side2 A4.out).mono ?_);(case side1=>repeat(first|exact HR0.out|(with_reducible refine Kd.C_alloc ?_ _)|(with_reducible refine Kd.C_drewN ?_ _)|(with_reducible refine Kd.C_drew ?_)));(case side2=>exact HC0.out);rintro e w6 ⟨rfl,hb⟩;refine⟨_,rfl,?_⟩;replace HB:=Aside0.mk (below_step zz0 hb);(try clear hb)))
  (try simp only[Act.put,List.setIfInBounds_toArray,List.set_cons_zero,List.set_cons_succ]);have H:=HC5.out;clear HC5
  by_cases c7:t472<0
  ·rw[if_pos c7]at H;have c7b0:decide (t472<0)=true:=decide_eq_true c7;clear c7;(first|rw[c7b0]|(simp only[i64_w,i32_w];rw[c7b0])|skip);obtain rfl:=Option.some.inj H;go_wp2
   go_ret;exact⟨zz1,zz0⟩
  ·rw[if_neg c7]at H;have c7b0:decide (t472<0)=false:=decide_eq_false c7;clear c7;(first|rw[c7b0]|(simp only[i64_w,i32_w];rw[c7b0])|skip);replace H:=Option.bind_eq_some_iff.mp H;obtain⟨t473,A80,H⟩:=H;(try dsimp only at H);have A8:=Aside0.mk A80;clear A80;replace H:=Option.bind_eq_some_iff.mp H;obtain⟨⟨t476,t477⟩,A90,H⟩:=H;(try dsimp only at H);have A9:=Aside0.mk A90;clear A90;replace H:=Option.bind_eq_some_iff.mp H;obtain⟨t478,A100,H⟩:=H;(try dsimp only at H);have A10:=Aside0.mk A100;clear A100;replace H:=Option.bind_eq_some_iff.mp H;obtain⟨⟨t481,t482⟩,A110,H⟩:=H;(try dsimp only at H);have A11:=Aside0.mk A110;clear A110;have HC12:=Aside0.mk H;clear H;go_upto_region 10 with(first|((with_reducible refine gate_callee (f:=18) rfl ?_);refine goesQ_ 21 Tryz.func18 #[.slice A0 l0.length c0] ?_;(with_reducible refine(laws_toLineS.calls k _ _ l0 t473 _ ?side1 ?side2 A8.out).mono ?_);(case side1=>repeat(first|exact(Kd.C_below HR0.out HB.out)|(with_reducible refine Kd.C_alloc ?_ _)|(with_reducible refine Kd.C_drewN ?_ _)|(with_reducible refine Kd.C_drew ?_)));(case side2=>exact HC0.out);rintro e w13 ⟨v474,rfl,ho0,hb⟩;refine⟨_,rfl,?_⟩;have HO475:=Aside0.mk (Kd.R_lower ho0 (below_size zz0));replace HB:=Aside0.mk (below_step zz0 hb);(try clear hb);(try clear ho0);obtain⟨Ao14,co14,eo14⟩:=Kd.R_slice HO475.out;subst eo14)|((with_reducible refine gate_callee (f:=21) rfl ?_);refine goesQ_ 23 Tryz.func21 #[.slice Ao14 t473.length co14,.string a1] ?_;(with_reducible refine(spec_IndexRange.calls k _ _ t473 a1 t476 t477 _ ?side1 ?side2 A9.out).mono ?_);(case side1=>repeat(first|exact(Kd.R_reads' HO475.out).2.2|(with_reducible refine Kd.C_alloc ?_ _)|(with_reducible refine Kd.C_drewN ?_ _)|(with_reducible refine Kd.C_drew ?_)));(case side2=>exact(Kd.R_reads' HO475.out).2.1);rintro e w15 ⟨rfl,hb⟩;refine⟨_,rfl,?_⟩;replace HO475:=Aside0.mk (Kd.R_below zz65 hb);replace HB:=Aside0.mk (below_step zz0 hb);(try clear hb))|((with_reducible refine gate_callee (f:=18) rfl ?_);refine goesQ_ 27 Tryz.func18 #[.slice A0 l0.length c0] ?_;(with_reducible refine(laws_toLineS.calls k _ _ l0 t478 _ ?side1 ?side2 A10.out).mono ?_);(case side1=>repeat(first|exact(Kd.C_below HR0.out HB.out)|(with_reducible refine Kd.C_alloc ?_ _)|(with_reducible refine Kd.C_drewN ?_ _)|(with_reducible refine Kd.C_drew ?_)));(case side2=>exact HC0.out);rintro e w16 ⟨v479,rfl,ho0,hb⟩;refine⟨_,rfl,?_⟩;have HO480:=Aside0.mk (Kd.R_lower (Kd.R_new' ho0 (Kd.R_lt zz65)) (below_size zz0));replace HO475:=Aside0.mk (Kd.R_elder' zz65 (Kd.R_base ho0) hb);replace HB:=Aside0.mk (below_step zz0 hb);(try clear hb);(try clear ho0);obtain⟨Ao17,co17,eo17⟩:=Kd.R_slice HO480.out;subst eo17)|((with_reducible refine gate_callee (f:=22) rfl ?_);refine goesQ_ 31 Tryz.func22 #[.slice Ao17 t478.length co17,.string a1] ?_;(with_reducible refine(impl_IndexRange.calls k _ _ t478 a1 t481 t482 _ ?side3 ?side1 ?side2 A11.out).mono ?_);(case side1=>repeat(first|exact(Kd.R_reads' HO480.out).2.2|(with_reducible refine Kd.C_alloc ?_ _)|(with_reducible refine Kd.C_drewN ?_ _)|(with_reducible refine Kd.C_drew ?_)));(case side2=>exact(Kd.R_reads' HO480.out).2.1);(case side3=>exact Gl.below HG.out zz0);rintro e w18 ⟨rfl,hb⟩;refine⟨_,rfl,?_⟩;replace HO475:=Aside0.mk (Kd.R_below zz65 hb);replace HO480:=Aside0.mk (Kd.R_below (by(with_reducible repeat(first|apply Kd.R_alloc|apply Kd.R_drewN|apply Kd.R_drew));exact HO480.out) hb);replace HB:=Aside0.mk (below_step zz0 hb);(try clear hb)))
   (try simp only[Act.put,List.setIfInBounds_toArray,List.set_cons_zero,List.set_cons_succ]);go_cut [41] (fun v41 wc=> ∃(kq:Nat) (x41_11:Bool),v41= .bool x41_11∧Aside0 (laws_FnExactIndexRange.j0 kq l0 t478 x41_11=some r)∧Aside0 (kq≤k)∧Aside0 (Kd.R k26 26 wc w.heap.size (fun _=>True) (.slice Ao17 t478.length co17) t478)∧Aside0 (Below w.heap.size w wc))
   case first=>
    have H:=HC12.out;clear HC12
    by_cases c19:t481=t476
    ·rw[if_pos c19]at H;have c19b0:(t481==t476)=true:=beq_iff_eq.mpr c19;have c19b1:(t481 !=t476)=false:=bne_eq_false_iff_eq.mpr c19;clear c19;(first|rw[c19b0]|(simp only[i64_w,i32_w];rw[c19b0])|rw[c19b1]|(rw[c19b2];simp only[Bool.not_true,Bool.not_false])|skip);have H':=Aside0.mk H;clear H;go_wp2
     go_meet
     case rel=>exact⟨_,((t482 !=t477)),zz2,H',⟨zz22⟩,⟨zz93⟩,⟨zz0⟩⟩
    ·rw[if_neg c19]at H;have c19b0:(t481==t476)=false:=beq_eq_false_iff_ne.mpr c19;have c19b1:(t481 !=t476)=true:=bne_iff_ne.mpr c19;(first|rw[c19b0]|(simp only[i64_w,i32_w];rw[c19b0])|rw[c19b1]|(rw[c19b2];simp only[Bool.not_true,Bool.not_false])|skip);have H':=Aside0.mk H;clear H;go_wp2
     go_meet
     case rel=>exact⟨_,(true),zz2,H',⟨zz22⟩,⟨zz93⟩,⟨zz0⟩⟩
   case rest=>
    clear HC12;(try clear c1);(try clear c2);(try clear p2);(try clear c3);(try clear c3b0);(try clear c3b1);(try clear c6);(try clear c7);(try clear c7b0);(try clear c16);(try clear c18);(try clear c19);(try clear c19b0);(try clear c19b1);obtain⟨kq,x41_11,rfl,HA,HJ11,HO_8,HB⟩:=hcut
    cases kq with
    |zero=>exact absurd HA.out (by simp[laws_FnExactIndexRange.j0])
    |succ kj11=>
     have H:=HA.out;clear HA;simp only[laws_FnExactIndexRange.j0]at H
     by_cases c20:x41_11=true
     ·subst c20;rw[if_pos rfl]at H;obtain rfl:=Option.some.inj H;go_wp2
      go_ret;exact⟨zz1,zz0⟩
     ·replace c20:=Bool.eq_false_iff.mpr c20;subst c20;rw[if_neg Bool.false_ne_true]at H;replace H:=Option.bind_eq_some_iff.mp H;obtain⟨t483,A210,H⟩:=H;(try dsimp only at H);have A21:=Aside0.mk A210;clear A210;replace H:=Option.bind_eq_some_iff.mp H;obtain⟨t486,A220,H⟩:=H;(try dsimp only at H);have A22:=Aside0.mk A220;clear A220;have HC23:=Aside0.mk H;clear H;go_upto_if 46 with(first|((with_reducible refine gate_callee (f:=18) rfl ?_);refine goesQ_ 44 Tryz.func18 #[.slice A0 l0.length c0] ?_;(with_reducible refine(laws_toLineS.calls kj11 _ _ l0 t483 _ ?side1 ?side2 A21.out).mono ?_);(case side1=>repeat(first|exact(Kd.C_below HR0.out HB.out)|(with_reducible refine Kd.C_alloc ?_ _)|(with_reducible refine Kd.C_drewN ?_ _)|(with_reducible refine Kd.C_drew ?_)));(case side2=>exact HC0.out);rintro e w24 ⟨v484,rfl,ho0,hb⟩;refine⟨_,rfl,?_⟩;have HO485:=Aside0.mk (Kd.R_lower (Kd.R_new' ho0 (Kd.R_lt zz80)) (below_size zz0));replace HO_8:=Aside0.mk (Kd.R_elder' zz80 (Kd.R_base ho0) hb);replace HB:=Aside0.mk (below_step zz0 hb);(try clear hb);(try clear ho0);obtain⟨Ao25,co25,eo25⟩:=Kd.R_slice HO485.out;subst eo25)|((with_reducible refine gate_callee (f:=20) rfl ?_);refine goesQ_ 45 Tryz.func20 #[.slice Ao17 t478.length co17,.slice Ao25 t483.length co25] ?_;(with_reducible refine(laws_eqLineS.calls kj11 _ _ t478 _ _ t483 t486 _ ?side1 ?side2 ?side3 ?side4 A22.out).mono ?_);(case side1=>repeat(first|exact(Kd.R_reads' HO_8.out).2.2|(with_reducible refine Kd.C_alloc ?_ _)|(with_reducible refine Kd.C_drewN ?_ _)|(with_reducible refine Kd.C_drew ?_)));(case side2=>exact(Kd.R_reads' HO_8.out).2.1);(case side3=>repeat(first|exact(Kd.R_reads' HO485.out).2.2|(with_reducible refine Kd.C_alloc ?_ _)|(with_reducible refine Kd.C_drewN ?_ _)|(with_reducible refine Kd.C_drew ?_)));(case side4=>exact(Kd.R_reads' HO485.out).2.1);rintro e w26 ⟨rfl,hb⟩;refine⟨_,rfl,?_⟩;replace HO_8:=Aside0.mk (Kd.R_below zz80 hb);replace HO485:=Aside0.mk (Kd.R_below (by(with_reducible repeat(first|apply Kd.R_alloc|apply Kd.R_drewN|apply Kd.R_drew));exact HO485.out) hb);replace HB:=Aside0.mk (below_step zz0 hb);(try clear hb)))
      (try simp only[Act.put,List.setIfInBounds_toArray,List.set_cons_zero,List.set_cons_succ]);have H:=HC23.out;clear HC23
      by_cases c27:t486=true
      ·subst c27;rw[if_pos rfl]at H;obtain rfl:=Option.some.inj H;go_wp2
       go_ret;exact⟨zz1,zz0⟩
      ·replace c27:=Bool.eq_false_iff.mpr c27;subst c27;rw[if_neg Bool.false_ne_true]at H;obtain rfl:=Option.some.inj H;go_wp2
       go_ret;exact⟨zz1,zz0⟩
/-- What every value of struct type 23 fits. -/
def ok23 (x:S23):Prop:=(x.f0.size≤9223372036854775807)∧((Lit.int .i64 x.f1).wf=true)∧((Lit.int .i64 x.f2).wf=true)∧(x.f3.size≤9223372036854775807)∧((Lit.int .i64 x.f4).wf=true)∧(x.f5.size≤9223372036854775807)∧(True)∧((Lit.int .i64 x.f7).wf=true)∧((Lit.int .i64 x.f8).wf=true)∧((Lit.int .i64 x.f9).wf=true)
/-- THE ONE PURE STATEMENT of laws_FnExactIndexRange. -/
def laws_FnExactIndexRange.Pure:Prop:= ∀(l0:List (S23)) (a1:ByteArray),(l0.length≤9223372036854775807∧ ∀x∈l0,ok23 x)→(a1.size≤9223372036854775807)→ ∃k,laws_FnExactIndexRange.f k l0 a1=some true
theorem laws_FnExactIndexRange.walk (P : laws_FnExactIndexRange.Pure) (A0 : Option Addr) (c0 : Nat) (l0 : List (S23)) (a1 : ByteArray) (w : World) (hG : Gl w) (hr0 : Kd.C k23 w A0 l0.length l0) (hc0 : l0.length ≤ c0) (ok_0 : l0.length ≤ 9223372036854775807 ∧ ∀ x ∈ l0, ok23 x) (ok_1 : a1.size ≤ 9223372036854775807) :
  Calls Tryz.prog 6 #[.slice A0 l0.length c0,.string a1] w fun e w'=>e= .returned (.bool true)∧Below w.heap.size w w':=by
 obtain⟨k,h⟩:=P l0 a1 ok_0 ok_1;refine(laws_FnExactIndexRange.calls k A0 c0 l0 a1 true w hG hr0 hc0 h).mono ?_;rintro e w' ⟨rfl,hd⟩;exact⟨rfl,hd⟩
end Go.Proofs.YteojcbbifacpnaaGreatDoor.GFnExactIndexRange
