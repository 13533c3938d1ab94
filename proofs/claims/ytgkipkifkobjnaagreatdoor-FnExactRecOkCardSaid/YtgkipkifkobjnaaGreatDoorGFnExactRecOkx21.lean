-- Printed by gen.py and its programs for this claim.
import Derived.Test.YtgkipkifkobjnaaGreatDoorGFnExactRecOkx0
import Derived.Test.YtgkipkifkobjnaaGreatDoorGFnExactRecOkx17
import Derived.Test.YtgkipkifkobjnaaGreatDoorGFnExactRecOkx20
import Derived.Test.YtgkipkifkobjnaaGreatDoorZFnExactRecOk
namespace Go.Proofs.YtgkipkifkobjnaaGreatDoor.GFnExactRecOk
open Go.RowKit Go.Proofs.YtgkipkifkobjnaaGreatDoorW.PrintWords Go.Proofs.YtgkipkifkobjnaaGreatDoorW.PrintLast Go.Proofs.YtgkipkifkobjnaaGreatDoorW.PrintMore Go.Proofs.YtgkipkifkobjnaaGreatDoorW.Zs
set_option maxHeartbeats 40000000
set_option maxRecDepth 100000
attribute [local go_sem] max2_int min2_int max_two min_two max_three min_three max_four min_four
set_option linter.unusedVariables false
set_option linter.unusedSimpArgs false
def slices_Index_string_string.l0:Nat→List ByteArray→ByteArray→Int→Int→Option (Int)
 |0,_,_,_,_=>none
 |k+1,x0,x1,x7,x8=>if x8<x7 then(if 0≤x8 then(if x8<(x0.length:Int)then(if x1.toList=(rdOf ByteArray.empty x0 x8).toList then(some x8)else(slices_Index_string_string.l0 k x0 x1 x7 (wrap64 (x8+1))))else(none))else(none))else(some (-1))
def slices_Index_string_string.f (k:Nat) (l0:List ByteArray) (a1:ByteArray):Option (Int):=slices_Index_string_string.l0 k l0 a1 (l0.length:Int) 0
theorem slices_Index_string_string.calls (k:Nat) (A0:Option Addr) (c0:Nat) (l0:List ByteArray) (a1:ByteArray) (r:Int) (w:World) (hr0:Kd.C Kd.string w A0 l0.length l0) (hc0:l0.length≤c0) (h:slices_Index_string_string.f k l0 a1=some r):
  Calls Tryz.prog 137 #[.slice A0 l0.length c0,.string a1] w fun e w'=>e= .returned (.int .i64 r)∧Drawn0 w w':=by
 have HR0:=Aside0.mk hr0;have HC0:=Aside0.mk hc0;clear hr0 hc0;have H:(slices_Index_string_string.l0 k l0 a1 (l0.length:Int) 0)=some r:=h;clear h;have H':=Aside0.mk H;clear H;go_enter Tryz.func137,Tryz.ntmps137
 go_wp2
 go_loopg [8] k (fun kq v8 w'=> ∃(x8_1:Int),v8= .int .i64 x8_1∧Aside0 (slices_Index_string_string.l0 kq l0 a1 (l0.length:Int) x8_1=some r)∧Aside0 (kq≤k)∧Drawn0 w w')
 case atStart=>exact⟨(0),zz1,H',⟨Nat.le_refl _⟩,zz4⟩
 case round=>
  clear H';(try clear c1);(try clear p2);obtain⟨x8_1,rfl,HA,HK1,⟨m1,rfl⟩⟩:=hrel
  cases gk with
  |zero=>exact absurd HA.out (by simp[slices_Index_string_string.l0])
  |succ k1=>
   have H:=HA.out;clear HA;simp only[slices_Index_string_string.l0]at H
   by_cases c3:x8_1<(l0.length:Int)
   ·rw[if_pos c3]at H;have c3b0:decide (x8_1<(l0.length:Int))=true:=decide_eq_true c3;clear c3
    by_cases c4:0≤x8_1
    ·rw[if_pos c4]at H;have c4b0:decide (0≤x8_1)=true:=decide_eq_true c4;clear c4
     by_cases c5:x8_1<(l0.length:Int)
     ·rw[if_pos c5]at H;have c5b0:decide (x8_1<(l0.length:Int))=true:=decide_eq_true c5;clear c5
      by_cases c6:a1.toList=(rdOf ByteArray.empty l0 x8_1).toList
      ·rw[if_pos c6]at H;have c6b0:(a1.toList==(rdOf ByteArray.empty l0 x8_1).toList)=true:=beq_iff_eq.mpr c6;have c6b1:(a1.toList !=(rdOf ByteArray.empty l0 x8_1).toList)=false:=bne_eq_false_iff_eq.mpr c6;clear c6;obtain rfl:=Option.some.inj H;have p398:0≤(x8_1:Int):=of_decide_eq_true zz3;have q398:x8_1<(l0.length:Int):=of_decide_eq_true zz3;obtain⟨ad398,e398,hx398_0⟩:=Kd.at_string HR0.out x8_1 p398 q398;cases e398;replace p398:=eq_true p398;replace q398:=eq_true q398;go_wp2
       go_ret;exact⟨zz1,zz4⟩
      ·rw[if_neg c6]at H;have c6b0:(a1.toList==(rdOf ByteArray.empty l0 x8_1).toList)=false:=beq_eq_false_iff_ne.mpr c6;have c6b1:(a1.toList !=(rdOf ByteArray.empty l0 x8_1).toList)=true:=bne_iff_ne.mpr c6;have H':=Aside0.mk H;clear H;have p398:0≤(x8_1:Int):=of_decide_eq_true zz3;have q398:x8_1<(l0.length:Int):=of_decide_eq_true zz3;obtain⟨ad398,e398,hx398_0⟩:=Kd.at_string HR0.out x8_1 p398 q398;cases e398;replace p398:=eq_true p398;replace q398:=eq_true q398;go_wp2
       go_roundg k1
       (case measure=>have:=HK1.out;omega);case rel=>exact⟨(wrap64 (x8_1+1)),zz1,H',⟨zz60⟩,zz4⟩
     ·rw[if_neg c5]at H;exact absurd H (by simp)
    ·rw[if_neg c4]at H;exact absurd H (by simp)
   ·rw[if_neg c3]at H;have c3b0:decide (x8_1<(l0.length:Int))=false:=decide_eq_false c3;clear c3;obtain rfl:=Option.some.inj H;go_wp2
    go_ret;exact⟨zz1,zz4⟩
def slices_Contains_string_string.f (k:Nat) (l0:List ByteArray) (a1:ByteArray):Option (Bool):=(slices_Index_string_string.f k l0 a1).bind fun t399=>(some (decide (t399≥0)))
theorem slices_Contains_string_string.calls (k:Nat) (A0:Option Addr) (c0:Nat) (l0:List ByteArray) (a1:ByteArray) (r:Bool) (w:World) (hr0:Kd.C Kd.string w A0 l0.length l0) (hc0:l0.length≤c0) (h:slices_Contains_string_string.f k l0 a1=some r):
  Calls Tryz.prog 124 #[.slice A0 l0.length c0,.string a1] w fun e w'=>e= .returned (.bool r)∧Drawn0 w w':=by
 have HR0:=Aside0.mk hr0;have HC0:=Aside0.mk hc0;clear hr0 hc0;have H:((slices_Index_string_string.f k l0 a1).bind fun t399=>(some (decide (t399≥0))))=some r:=h;clear h;replace H:=Option.bind_eq_some_iff.mp H;obtain⟨t399,A30,H⟩:=H;(try dsimp only at H);have A3:=Aside0.mk A30;clear A30;obtain rfl:=Option.some.inj H;go_enter Tryz.func124,Tryz.ntmps124
 go_wp2_with (first|((with_reducible refine gate_callee (f:=137) rfl ?_);refine goesQ_ 7 Tryz.func137 #[.slice A0 l0.length c0,.string a1] ?_;(with_reducible refine(slices_Index_string_string.calls k _ _ l0 a1 t399 _ ?side1 ?side2 A3.out).mono ?_);(case side1=>repeat(first|exact HR0.out|(with_reducible refine Kd.C_alloc ?_ _)|(with_reducible refine Kd.C_drewN ?_ _)|(with_reducible refine Kd.C_drew ?_)));(case side2=>exact HC0.out);rintro e w' ⟨rfl,⟨nd,rfl⟩⟩;refine⟨_,rfl,?_⟩))
 go_ret;exact⟨zz1,zz4⟩
def impl_all__impl_isHost_1.l0:Nat→ByteArray→Int→Option (Bool)
 |0,_,_=>none
 |k+1,x0,x5=>if x5<(x0.size:Int)then(if 0≤x5 then((impl_isHost_1.f (bt x0 x5)).bind fun t400=>(if t400=true then(impl_all__impl_isHost_1.l0 k x0 (wrap64 (x5+1)))else(some false)))else(none))else(some true)
def impl_all__impl_isHost_1.f (k:Nat) (a0:ByteArray):Option (Bool):=impl_all__impl_isHost_1.l0 k a0 0
theorem impl_all__impl_isHost_1.calls (k:Nat) (a0:ByteArray) (r:Bool) (w:World) (h:impl_all__impl_isHost_1.f k a0=some r):
  Calls Tryz.prog 55 #[.string a0,.func (.func 121) #[] #[]] w fun e w'=>e= .returned (.bool r)∧Drawn0 w w':=by
 have H:(impl_all__impl_isHost_1.l0 k a0 0)=some r:=h;clear h;have H':=Aside0.mk H;clear H;go_enter Tryz.func55,Tryz.ntmps55
 go_wp2
 go_loopg [5] k (fun kq v5 w'=> ∃(x5_1:Int),v5= .int .i64 x5_1∧Aside0 (impl_all__impl_isHost_1.l0 kq a0 x5_1=some r)∧Aside0 (kq≤k)∧Drawn0 w w')
 case atStart=>exact⟨(0),zz1,H',⟨Nat.le_refl _⟩,zz4⟩
 case round=>
  clear H';obtain⟨x5_1,rfl,HA,HK1,⟨m1,rfl⟩⟩:=hrel
  cases gk with
  |zero=>exact absurd HA.out (by simp[impl_all__impl_isHost_1.l0])
  |succ k1=>
   have H:=HA.out;clear HA;simp only[impl_all__impl_isHost_1.l0]at H
   by_cases c2:x5_1<(a0.size:Int)
   ·rw[if_pos c2]at H;have c2b0:decide (x5_1<(a0.size:Int))=true:=decide_eq_true c2;clear c2
    by_cases c3:0≤x5_1
    ·rw[if_pos c3]at H;have c3b0:decide (0≤x5_1)=true:=decide_eq_true c3;clear c3;replace H:=Option.bind_eq_some_iff.mp H;obtain⟨t400,A50,H⟩:=H;(try dsimp only at H);have A5:=Aside0.mk A50;clear A50;have HC6:=Aside0.mk H;clear H;have p4:0≤(x5_1:Int):=of_decide_eq_true zz3;have q4:x5_1<(a0.size:Int):=of_decide_eq_true zz3;have hx4:=bt_at a0 x5_1;replace p4:=eq_true p4;replace q4:=eq_true q4;go_upto_if 17 with(first|(go_at_call 121;(with_reducible refine(impl_isHost_1.calls (bt a0 x5_1) t400 _ A5.out).mono ?_);rintro e w' ⟨rfl,⟨nd,rfl⟩⟩))
     (try simp only[Act.put,List.setIfInBounds_toArray,List.set_cons_zero,List.set_cons_succ]);have H:=HC6.out;clear HC6
     by_cases c7:t400=true
     ·subst c7;rw[if_pos rfl]at H;have H':=Aside0.mk H;clear H;go_wp2
      go_roundg k1
      (case measure=>have:=HK1.out;omega);case rel=>exact⟨(wrap64 (x5_1+1)),zz1,H',⟨zz60⟩,zz4⟩
     ·replace c7:=Bool.eq_false_iff.mpr c7;subst c7;rw[if_neg Bool.false_ne_true]at H;obtain rfl:=Option.some.inj H;go_wp2
      go_ret;exact⟨zz1,zz4⟩
    ·rw[if_neg c3]at H;exact absurd H (by simp)
   ·rw[if_neg c2]at H;have c2b0:decide (x5_1<(a0.size:Int))=false:=decide_eq_false c2;clear c2;obtain rfl:=Option.some.inj H;go_wp2
    go_ret;exact⟨zz1,zz4⟩
def impl_isHost.j0:Nat→ByteArray→Bool→Option (Bool)
 |0,_,_=>none
 |k+1,x0,x11=>if x11=true then(some false)else((strings_Split.f x0 (⟨#[46]⟩:ByteArray)).bind fun t403=>((slices_Contains_string_string.f k t403 (⟨#[]⟩:ByteArray)).bind fun t406=>(some (!t406))))
def impl_isHost.f (k:Nat) (a0:ByteArray):Option (Bool):=(impl_within.f (a0.size:Int) 1 60).bind fun t401=>(if t401=true then((impl_all__impl_isHost_1.f k a0).bind fun t402=>(impl_isHost.j0 k a0 (!t402)))else(impl_isHost.j0 k a0 true))
theorem impl_isHost.calls (k:Nat) (a0:ByteArray) (r:Bool) (w:World) (hG:Gl w) (h:impl_isHost.f k a0=some r):
  Calls Tryz.prog 101 #[.string a0] w fun e w'=>e= .returned (.bool r)∧Below w.heap.size w w':=by
 have HG:=Aside0.mk hG;clear hG;have HB:=Aside0.mk (Below.refl w.heap.size w);have H:((impl_within.f (a0.size:Int) 1 60).bind fun t401=>(if t401=true then((impl_all__impl_isHost_1.f k a0).bind fun t402=>(impl_isHost.j0 k a0 (!t402)))else(impl_isHost.j0 k a0 true)))=some r:=h;clear h;have HC2:=Aside0.mk H;clear H;go_enter Tryz.func101,Tryz.ntmps101
 go_upto_region 1 with(fail)
 go_cut [11] (fun v11 wc=> ∃(kq:Nat) (x11_1:Bool),v11= .bool x11_1∧Aside0 (impl_isHost.j0 kq a0 x11_1=some r)∧Aside0 (kq≤k)∧Aside0 (Below w.heap.size w wc))
 case first=>
  have H:=HC2.out;clear HC2;replace H:=Option.bind_eq_some_iff.mp H;obtain⟨t401,A30,H⟩:=H;(try dsimp only at H);have A3:=Aside0.mk A30;clear A30
  by_cases c4:t401=true
  ·subst c4;rw[if_pos rfl]at H;replace H:=Option.bind_eq_some_iff.mp H;obtain⟨t402,A50,H⟩:=H;(try dsimp only at H);have A5:=Aside0.mk A50;clear A50;have H':=Aside0.mk H;clear H;go_wp2_with (first|((with_reducible refine gate_callee (f:=13) rfl ?_);refine goesR_ 5 Tryz.func13 #[.int .i64 (a0.size:Int),.int .i64 1,.int .i64 60] (impl_within.calls (a0.size:Int) 1 60 true _ A3.out) ?_;rintro w' ⟨nd,rfl⟩)|(go_at_call 55;(with_reducible refine(impl_all__impl_isHost_1.calls k a0 t402 _ A5.out).mono ?_);rintro e w' ⟨rfl,⟨nd,rfl⟩⟩))
   go_meet
   case rel=>exact⟨_,(!t402),zz1,H',⟨zz23⟩,⟨zz0⟩⟩
  ·replace c4:=Bool.eq_false_iff.mpr c4;subst c4;rw[if_neg Bool.false_ne_true]at H;have H':=Aside0.mk H;clear H;go_wp2_with (first|((with_reducible refine gate_callee (f:=13) rfl ?_);refine goesR_ 5 Tryz.func13 #[.int .i64 (a0.size:Int),.int .i64 1,.int .i64 60] (impl_within.calls (a0.size:Int) 1 60 false _ A3.out) ?_;rintro w' ⟨nd,rfl⟩))
   go_meet
   case rel=>exact⟨_,(true),zz1,H',⟨zz23⟩,⟨zz0⟩⟩
 case rest=>
  clear HC2;(try clear c1);(try clear p2);(try clear c4);obtain⟨kq,x11_1,rfl,HA,HJ1,HB⟩:=hcut
  cases kq with
  |zero=>exact absurd HA.out (by simp[impl_isHost.j0])
  |succ kj1=>
   have H:=HA.out;clear HA;simp only[impl_isHost.j0]at H
   by_cases c6:x11_1=true
   ·subst c6;rw[if_pos rfl]at H;obtain rfl:=Option.some.inj H;go_wp2
    go_ret;exact⟨zz2,zz0⟩
   ·replace c6:=Bool.eq_false_iff.mpr c6;subst c6;rw[if_neg Bool.false_ne_true]at H;replace H:=Option.bind_eq_some_iff.mp H;obtain⟨t403,A70,H⟩:=H;(try dsimp only at H);have A7:=Aside0.mk A70;clear A70;replace H:=Option.bind_eq_some_iff.mp H;obtain⟨t406,A80,H⟩:=H;(try dsimp only at H);have A8:=Aside0.mk A80;clear A80;obtain rfl:=Option.some.inj H;go_wp2_with (first|((with_reducible refine gate_callee (f:=98) rfl ?_);refine goesQ_ 13 Tryz.func98 #[.string a0,.string (⟨#[46]⟩:ByteArray)] ?_;(with_reducible refine(strings_Split.calls a0 (⟨#[46]⟩:ByteArray) t403 _ ?side1 A7.out).mono ?_);(case side1=>exact Gl.below HG.out zz0);rintro e w9 ⟨v404,rfl,ho0,hb⟩;refine⟨_,rfl,?_⟩;have HO405:=Aside0.mk (Kd.R_lower ho0 (below_size zz0));replace HB:=Aside0.mk (below_step zz0 hb);(try clear hb);(try clear ho0);obtain⟨Ao10,co10,eo10⟩:=Kd.R_slice HO405.out;subst eo10)|((with_reducible refine gate_callee (f:=124) rfl ?_);refine goesQ_ 14 Tryz.func124 #[.slice Ao10 t403.length co10,.string (⟨#[]⟩:ByteArray)] ?_;(with_reducible refine(slices_Contains_string_string.calls kj1 _ _ t403 (⟨#[]⟩:ByteArray) t406 _ ?side1 ?side2 A8.out).mono ?_);(case side1=>repeat(first|exact(Kd.R_reads' HO405.out).2.2|(with_reducible refine Kd.C_alloc ?_ _)|(with_reducible refine Kd.C_drewN ?_ _)|(with_reducible refine Kd.C_drew ?_)));(case side2=>exact(Kd.R_reads' HO405.out).2.1);rintro e w' ⟨rfl,⟨nd,rfl⟩⟩;refine⟨_,rfl,?_⟩))
    go_ret;exact⟨zz2,zz0⟩
end Go.Proofs.YtgkipkifkobjnaaGreatDoor.GFnExactRecOk
