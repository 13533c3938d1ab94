-- Printed by gen.py and its programs for this claim.
import Derived.Test.YtnilblnhlpnpgaaGreatDoorGFnTwicex0
import Derived.Test.YtnilblnhlpnpgaaGreatDoorGFnTwicex1
import Derived.Test.YtnilblnhlpnpgaaGreatDoorZFnTwice
namespace Go.Proofs.YtnilblnhlpnpgaaGreatDoor.GFnTwice
open Go.RowKit Go.Proofs.YtnilblnhlpnpgaaGreatDoorW.PrintWords Go.Proofs.YtnilblnhlpnpgaaGreatDoorW.PrintLast Go.Proofs.YtnilblnhlpnpgaaGreatDoorW.PrintMore Go.Proofs.YtnilblnhlpnpgaaGreatDoorW.Zs
set_option maxHeartbeats 40000000
set_option maxRecDepth 100000
attribute [local go_sem] max2_int min2_int max_two min_two max_three min_three max_four min_four
set_option linter.unusedVariables false
set_option linter.unusedSimpArgs false
def impl_hexOf.j0:Nat→Int→Bool→Option (Int)
 |0,_,_=>none
 |k+1,x0,x9=>if x9=true then(some (((x0-97)%256)+10))else(if x0≥65 then(if x0≤70 then(some (((x0-65)%256)+10))else(some (-1)))else(some (-1)))
def impl_hexOf.f (k:Nat) (a0:Int):Option (Int):=(impl_isDigit.f a0).bind fun t107=>(if t107=true then(some ((a0-48)%256))else(if a0≥97 then(impl_hexOf.j0 k a0 (decide (a0≤102)))else(impl_hexOf.j0 k a0 false)))
theorem impl_hexOf.calls (k:Nat) (a0 r:Int) (w:World) (h:impl_hexOf.f k a0=some r):
  Calls Tryz.prog 74 #[.int .u8 a0] w fun e w'=>e= .returned (.int .i64 r)∧Drawn0 w w':=by
 have H:((impl_isDigit.f a0).bind fun t107=>(if t107=true then(some ((a0-48)%256))else(if a0≥97 then(impl_hexOf.j0 k a0 (decide (a0≤102)))else(impl_hexOf.j0 k a0 false))))=some r:=h;clear h;replace H:=Option.bind_eq_some_iff.mp H;obtain⟨t107,A20,H⟩:=H;(try dsimp only at H);have A2:=Aside0.mk A20;clear A20;have HC3:=Aside0.mk H;clear H;go_enter Tryz.func74,Tryz.ntmps74
 go_upto_if 3 with(first|((with_reducible refine gate_callee (f:=104) rfl ?_);refine goesR_ 5 Tryz.func104 #[.int .u8 a0] (impl_isDigit.calls a0 t107 _ A2.out) ?_;rintro w' ⟨nd,rfl⟩))
 (try simp only[Act.put,List.setIfInBounds_toArray,List.set_cons_zero,List.set_cons_succ]);have H:=HC3.out;clear HC3
 by_cases c4:t107=true
 ·subst c4;rw[if_pos rfl]at H;obtain rfl:=Option.some.inj H;go_wp2
  go_ret;exact⟨zz4,zz7⟩
 ·replace c4:=Bool.eq_false_iff.mpr c4;subst c4;rw[if_neg Bool.false_ne_true]at H;have HC5:=Aside0.mk H;clear H;go_upto_region 3 with(fail)
  go_cut [9] (fun v9 wc=> ∃(kq:Nat) (x9_4:Bool),v9= .bool x9_4∧Aside0 (impl_hexOf.j0 kq a0 x9_4=some r)∧Aside0 (kq≤k)∧Drawn0 w wc)
  case first=>
   have H:=HC5.out;clear HC5
   by_cases c6:a0≥97
   ·rw[if_pos c6]at H;have c6b0:decide (97≤a0)=true:=decide_eq_true c6;clear c6;(first|rw[c6b0]|(simp only[i64_w,i32_w];rw[c6b0])|skip);have H':=Aside0.mk H;clear H;go_wp2
    go_meet
    case rel=>exact⟨_,(decide (a0≤102)),zz4,H',⟨zz55⟩,zz7⟩
   ·rw[if_neg c6]at H;have c6b0:decide (97≤a0)=false:=decide_eq_false c6;clear c6;(first|rw[c6b0]|(simp only[i64_w,i32_w];rw[c6b0])|skip);have H':=Aside0.mk H;clear H;go_wp2
    go_meet
    case rel=>exact⟨_,(false),zz4,H',⟨zz55⟩,zz7⟩
  case rest=>
   clear HC5;(try clear c1);(try clear p2);(try clear c4);(try clear c6);(try clear c6b0);obtain⟨kq,x9_4,rfl,HA,HJ4,⟨mc4,rfl⟩⟩:=hcut
   cases kq with
   |zero=>exact absurd HA.out (by simp[impl_hexOf.j0])
   |succ kj4=>
    have H:=HA.out;clear HA;simp only[impl_hexOf.j0]at H
    by_cases c7:x9_4=true
    ·subst c7;rw[if_pos rfl]at H;obtain rfl:=Option.some.inj H;go_wp2
     go_ret;exact⟨zz4,zz7⟩
    ·replace c7:=Bool.eq_false_iff.mpr c7;subst c7;rw[if_neg Bool.false_ne_true]at H
     by_cases c8:a0≥65
     ·rw[if_pos c8]at H;have c8b0:decide (65≤a0)=true:=decide_eq_true c8;clear c8
      by_cases c9:a0≤70
      ·rw[if_pos c9]at H;have c9b0:decide (a0≤70)=true:=decide_eq_true c9;clear c9;obtain rfl:=Option.some.inj H;go_wp2
       go_ret;exact⟨zz4,zz7⟩
      ·rw[if_neg c9]at H;have c9b0:decide (a0≤70)=false:=decide_eq_false c9;clear c9;obtain rfl:=Option.some.inj H;go_wp2
       go_ret;exact⟨zz4,zz7⟩
     ·rw[if_neg c8]at H;have c8b0:decide (65≤a0)=false:=decide_eq_false c8;clear c8;obtain rfl:=Option.some.inj H;go_wp2
      go_ret;exact⟨zz4,zz7⟩
def impl_ReadHex.l0:Nat→ByteArray→Int→Int→Option (Int×Bool)
 |0,_,_,_=>none
 |k+1,x0,x4,x5=>if x5<(x0.size:Int)then(if 0≤x5 then((impl_hexOf.f k (bt x0 x5)).bind fun t109=>(if t109<0 then(some (0,false))else(impl_ReadHex.l0 k x0 (wrap64 ((wrap64 (16*x4))+t109)) (wrap64 (x5+1)))))else(none))else(some (x4,true))
def impl_ReadHex.f (k:Nat) (a0:ByteArray):Option (Int×Bool):=(impl_within.f (a0.size:Int) 1 7).bind fun t108=>(if t108=true then(impl_ReadHex.l0 k a0 0 0)else(some (0,false)))
theorem impl_ReadHex.calls (k:Nat) (a0:ByteArray) (r1:Int) (r2:Bool) (w:World) (h:impl_ReadHex.f k a0=some (r1,r2)):
  Calls Tryz.prog 33 #[.string a0] w fun e w'=>e= .returned (.tuple #[.int .i64 r1,.bool r2])∧Drawn0 w w':=by
 have H:((impl_within.f (a0.size:Int) 1 7).bind fun t108=>(if t108=true then(impl_ReadHex.l0 k a0 0 0)else(some (0,false))))=some (r1,r2):=h;clear h;replace H:=Option.bind_eq_some_iff.mp H;obtain⟨t108,A20,H⟩:=H;(try dsimp only at H);have A2:=Aside0.mk A20;clear A20;have HC3:=Aside0.mk H;clear H;go_enter Tryz.func33,Tryz.ntmps33
 go_upto_if 10 with(first|((with_reducible refine gate_callee (f:=27) rfl ?_);refine goesR_ 9 Tryz.func27 #[.int .i64 (a0.size:Int),.int .i64 1,.int .i64 7] (impl_within.calls (a0.size:Int) 1 7 t108 _ A2.out) ?_;rintro w' ⟨nd,rfl⟩))
 (try simp only[Act.put,List.setIfInBounds_toArray,List.set_cons_zero,List.set_cons_succ]);have H:=HC3.out;clear HC3
 by_cases c4:t108=true
 ·subst c4;rw[if_pos rfl]at H;have H':=Aside0.mk H;clear H;go_wp2
  go_loopg [4,5] k (fun kq v4 v5 w'=> ∃(x4_1 x5_1:Int),v4= .int .i64 x4_1∧v5= .int .i64 x5_1∧Aside0 (impl_ReadHex.l0 kq a0 x4_1 x5_1=some (r1,r2))∧Aside0 (kq≤k)∧Drawn0 w w')
  case atStart=>exact⟨(0),(0),zz4,zz4,H',⟨Nat.le_refl _⟩,zz7⟩
  case round=>
   clear H';(try clear c2);(try clear p2);(try clear c3);(try clear c4);obtain⟨x4_1,x5_1,rfl,rfl,HA,HK1,⟨m1,rfl⟩⟩:=hrel
   cases gk with
   |zero=>exact absurd HA.out (by simp[impl_ReadHex.l0])
   |succ k1=>
    have H:=HA.out;clear HA;simp only[impl_ReadHex.l0]at H
    by_cases c5:x5_1<(a0.size:Int)
    ·rw[if_pos c5]at H;have c5b0:decide (x5_1<(a0.size:Int))=true:=decide_eq_true c5;clear c5;(first|rw[c5b0]|(simp only[i64_w,i32_w];rw[c5b0])|skip)
     by_cases c6:0≤x5_1
     ·rw[if_pos c6]at H;have c6b0:decide (0≤x5_1)=true:=decide_eq_true c6;clear c6;replace H:=Option.bind_eq_some_iff.mp H;obtain⟨t109,A80,H⟩:=H;(try dsimp only at H);have A8:=Aside0.mk A80;clear A80;have HC9:=Aside0.mk H;clear H;have p7:0≤(x5_1:Int):=of_decide_eq_true zz16;have q7:x5_1<(a0.size:Int):=of_decide_eq_true zz16;have hx7:=bt_at a0 x5_1;replace p7:=eq_true p7;replace q7:=eq_true q7;go_upto_if 22 with(first|((with_reducible refine gate_callee (f:=74) rfl ?_);refine goesR_ 20 Tryz.func74 #[.int .u8 (bt a0 x5_1)] (impl_hexOf.calls k1 (bt a0 x5_1) t109 _ A8.out) ?_;rintro w' ⟨nd,rfl⟩))
      (try simp only[Act.put,List.setIfInBounds_toArray,List.set_cons_zero,List.set_cons_succ]);have H:=HC9.out;clear HC9
      by_cases c10:t109<0
      ·rw[if_pos c10]at H;have c10b0:decide (t109<0)=true:=decide_eq_true c10;clear c10;(first|rw[c10b0]|(simp only[i64_w,i32_w];rw[c10b0])|skip);simp only[Option.some.injEq,Prod.mk.injEq]at H;obtain⟨rfl,rfl⟩:=H;go_wp2
       go_ret2
       exact⟨zz4,zz7⟩
      ·rw[if_neg c10]at H;have c10b0:decide (t109<0)=false:=decide_eq_false c10;clear c10;(first|rw[c10b0]|(simp only[i64_w,i32_w];rw[c10b0])|skip);have H':=Aside0.mk H;clear H;go_wp2
       go_roundg k1
       (case measure=>have:=HK1.out;omega);case rel=>exact⟨(wrap64 ((wrap64 (16*x4_1))+t109)),(wrap64 (x5_1+1)),zz4,zz4,H',⟨zz119⟩,zz7⟩
     ·rw[if_neg c6]at H;exact absurd H (by simp)
    ·rw[if_neg c5]at H;have c5b0:decide (x5_1<(a0.size:Int))=false:=decide_eq_false c5;clear c5;(first|rw[c5b0]|(simp only[i64_w,i32_w];rw[c5b0])|skip);simp only[Option.some.injEq,Prod.mk.injEq]at H;obtain⟨rfl,rfl⟩:=H;go_wp2
     go_ret2
     exact⟨zz4,zz7⟩
 ·replace c4:=Bool.eq_false_iff.mpr c4;subst c4;rw[if_neg Bool.false_ne_true]at H;simp only[Option.some.injEq,Prod.mk.injEq]at H;obtain⟨rfl,rfl⟩:=H;go_wp2
  go_ret2
  exact⟨zz4,zz7⟩
def impl_isSpace.f (a0:Int):Option (Bool):=if a0=32 then(some true)else(some (a0==9))
theorem impl_isSpace.calls (a0:Int) (r:Bool) (w:World) (h:impl_isSpace.f a0=some r):
  Calls Tryz.prog 101 #[.int .u8 a0] w fun e w'=>e= .returned (.bool r)∧Drawn0 w w':=by
 have H:(if a0=32 then(some true)else(some (a0==9)))=some r:=h;clear h
 by_cases c2:a0=32
 ·rw[if_pos c2]at H;have c2b0:(a0==32)=true:=beq_iff_eq.mpr c2;have c2b1:(a0 !=32)=false:=bne_eq_false_iff_eq.mpr c2;clear c2;obtain rfl:=Option.some.inj H;go_enter Tryz.func101,Tryz.ntmps101
  go_wp2
  go_ret;exact⟨zz4,zz7⟩
 ·rw[if_neg c2]at H;have c2b0:(a0==32)=false:=beq_eq_false_iff_ne.mpr c2;have c2b1:(a0 !=32)=true:=bne_iff_ne.mpr c2;obtain rfl:=Option.some.inj H;go_enter Tryz.func101,Tryz.ntmps101
  go_wp2
  go_ret;exact⟨zz4,zz7⟩
mutual
def impl_Trim.j1:Nat→ByteArray→Option (ByteArray)
 |0,_=>none
 |k+1,x0=>impl_Trim.l1 k x0
def impl_Trim.l1:Nat→ByteArray→Option (ByteArray)
 |0,_=>none
 |k+1,x0=>if x0.toList=([]:List UInt8)then(some x0)else(if 0≤(wrap64 ((x0.size:Int)-1))then(if(wrap64 ((x0.size:Int)-1))<(x0.size:Int)then((impl_isSpace.f (bt x0 (wrap64 ((x0.size:Int)-1)))).bind fun t111=>(if t111=true then(if(wrap64 ((x0.size:Int)-1))≤(x0.size:Int)then(impl_Trim.l1 k (x0.extract 0 ((wrap64 ((x0.size:Int)-1)):Int).toNat))else(none))else(some x0)))else(none))else(none))
def impl_Trim.l0:Nat→ByteArray→Option (ByteArray)
 |0,_=>none
 |k+1,x0=>if x0.toList=([]:List UInt8)then(impl_Trim.j1 k x0)else(if 0<(x0.size:Int)then((impl_isSpace.f (bt x0 0)).bind fun t110=>(if t110=true then(if 1≤(x0.size:Int)then(impl_Trim.l0 k (x0.extract 1 x0.size))else(none))else(impl_Trim.j1 k x0)))else(none))
end
def impl_Trim.f (k:Nat) (a0:ByteArray):Option (ByteArray):=impl_Trim.l0 k a0
theorem impl_Trim.mono_l: ∀k,(∀y0,LeO (impl_Trim.j1 k y0) (impl_Trim.j1 (k+1) y0))∧(∀y0,LeO (impl_Trim.l1 k y0) (impl_Trim.l1 (k+1) y0))∧(∀y0,LeO (impl_Trim.l0 k y0) (impl_Trim.l0 (k+1) y0))
 |0=>⟨fun _ r h=>by simp[impl_Trim.j1]at h,fun _ r h=>by simp[impl_Trim.l1]at h,fun _ r h=>by simp[impl_Trim.l0]at h⟩
 |k+1=>by
  obtain⟨ih0,ih1,ih2⟩:=impl_Trim.mono_l k;refine⟨?_,?_,?_⟩
  ·intro y0;unfold impl_Trim.j1
   repeat' first|(with_reducible first|exact ih0 _|exact ih1 _|exact ih2 _|exact LeO.refl _|exact LeO.none _|refine LeO.ite ?_ ?_|refine LeO.bind ?_ (fun _=>?_))|exact ih0 _|exact ih1 _|exact ih2 _|exact LeO.none _|refine LeO.ite ?_ ?_|refine LeO.bind ?_ (fun _=>?_)
  ·intro y0;unfold impl_Trim.l1
   repeat' first|(with_reducible first|exact ih0 _|exact ih1 _|exact ih2 _|exact LeO.refl _|exact LeO.none _|refine LeO.ite ?_ ?_|refine LeO.bind ?_ (fun _=>?_))|exact ih0 _|exact ih1 _|exact ih2 _|exact LeO.none _|refine LeO.ite ?_ ?_|refine LeO.bind ?_ (fun _=>?_)
  ·intro y0;unfold impl_Trim.l0
   repeat' first|(with_reducible first|exact ih0 _|exact ih1 _|exact ih2 _|exact LeO.refl _|exact LeO.none _|refine LeO.ite ?_ ?_|refine LeO.bind ?_ (fun _=>?_))|exact ih0 _|exact ih1 _|exact ih2 _|exact LeO.none _|refine LeO.ite ?_ ?_|refine LeO.bind ?_ (fun _=>?_)
theorem impl_Trim.mono: ∀a0 k,LeO (impl_Trim.f k a0) (impl_Trim.f (k+1) a0):=by
 intro a0 k;obtain⟨ih0,ih1,ih2⟩:=impl_Trim.mono_l k;unfold impl_Trim.f
 repeat' first|(with_reducible first|exact ih0 _|exact ih1 _|exact ih2 _|exact LeO.refl _|exact LeO.none _|refine LeO.ite ?_ ?_|refine LeO.bind ?_ (fun _=>?_))|exact ih0 _|exact ih1 _|exact ih2 _|exact LeO.none _|refine LeO.ite ?_ ?_|refine LeO.bind ?_ (fun _=>?_)
theorem impl_Trim.calls (k:Nat) (a0 r:ByteArray) (w:World) (h:impl_Trim.f k a0=some r):
  Calls Tryz.prog 53 #[.string a0] w fun e w'=>e= .returned (.string r)∧Drawn0 w w':=by
 have H:(impl_Trim.l0 k a0)=some r:=h;clear h;have HC2:=Aside0.mk H;clear H;go_enter Tryz.func53,Tryz.ntmps53
 go_upto_block 0 with(fail)
 go_cut [0] (fun v0 wc=> ∃(kq:Nat) (x0_1:ByteArray),v0= .string x0_1∧Aside0 (impl_Trim.j1 kq x0_1=some r)∧Aside0 (kq≤k)∧Drawn0 w wc)
 case first=>
  have H:=HC2.out;clear HC2;have H':=Aside0.mk H;clear H;go_wp2
  go_loopg [0] k (fun kq v0 w'=> ∃(x0_1:ByteArray),v0= .string x0_1∧Aside0 (impl_Trim.l0 kq x0_1=some r)∧Aside0 (kq≤k)∧Drawn0 w w')
  case atStart=>exact⟨(a0),zz4,H',⟨Nat.le_refl _⟩,zz7⟩
  case round=>
   clear H';(try clear p2);obtain⟨x0_1,rfl,HA,HK1,⟨m1,rfl⟩⟩:=hrel
   cases gk with
   |zero=>exact absurd HA.out (by simp[impl_Trim.l0])
   |succ k1=>
    have H:=HA.out;clear HA;simp only[impl_Trim.l0]at H
    by_cases c3:x0_1.toList=([]:List UInt8)
    ·rw[if_pos c3]at H;have c3b0:(x0_1.toList==([]:List UInt8))=true:=beq_iff_eq.mpr c3;have c3e:x0_1.toList.isEmpty=true:=by have hz_:=beq_iff_eq.1 c3b0;rw[hz_];rfl
     (try rw[c3e]);have c3b1:(x0_1.toList !=([]:List UInt8))=false:=bne_eq_false_iff_eq.mpr c3;clear c3;(first|rw[c3b0]|(simp only[i64_w,i32_w];rw[c3b0])|rw[c3b1]|(rw[c3b2];simp only[Bool.not_true,Bool.not_false])|skip);have H':=Aside0.mk H;clear H;go_wp2
     go_meet
     case rel=>exact⟨_,(x0_1),zz4,H',⟨zz125⟩,zz7⟩
    ·rw[if_neg c3]at H;have c3b0:(x0_1.toList==([]:List UInt8))=false:=beq_eq_false_iff_ne.mpr c3;have c3e:x0_1.toList.isEmpty=false:=by cases hz_:x0_1.toList with|nil=>(rw[hz_]at c3b0;exact absurd c3b0 (by decide))|cons _ _=>rfl
     (try rw[c3e]);have c3b1:(x0_1.toList !=([]:List UInt8))=true:=bne_iff_ne.mpr c3;(first|rw[c3b0]|(simp only[i64_w,i32_w];rw[c3b0])|rw[c3b1]|(rw[c3b2];simp only[Bool.not_true,Bool.not_false])|skip)
     by_cases c4:0<(x0_1.size:Int)
     ·rw[if_pos c4]at H;have c4b0:decide (0<(x0_1.size:Int))=true:=decide_eq_true c4;have c4b1:decide (0<x0_1.size)=true:=decide_eq_true (by omega);clear c4;replace H:=Option.bind_eq_some_iff.mp H;obtain⟨t110,A60,H⟩:=H;(try dsimp only at H);have A6:=Aside0.mk A60;clear A60
      by_cases c7:t110=true
      ·subst c7;rw[if_pos rfl]at H
       by_cases c8:1≤(x0_1.size:Int)
       ·rw[if_pos c8]at H;have c8b0:=eq_true c8;have c8b1:decide (1≤(x0_1.size:Int))=true:=decide_eq_true c8;clear c8;have H':=Aside0.mk H;clear H;have p5:0≤(0:Int):=(by omega);have q5:0<x0_1.size:=(by have:(0:Int)<(x0_1.size:Int):=of_decide_eq_true zz16;omega);have hx5: ∀h:0<x0_1.size,((x0_1[0]'h).toNat:Int)=bt x0_1 0:=bt_at x0_1 0;clear p5;have qi5:(0<(x0_1.size:Int))=True:=eq_true (of_decide_eq_true zz16);replace q5:=eq_true q5;go_wp2_with (first|(go_at_call 101;(with_reducible refine(impl_isSpace.calls (bt x0_1 0) true _ A6.out).mono ?_);rintro e w' ⟨rfl,⟨nd,rfl⟩⟩))
        go_roundg k1
        (case measure=>have:=HK1.out;omega);case rel=>exact⟨(x0_1.extract 1 x0_1.size),zz4,H',⟨zz119⟩,zz7⟩
       ·rw[if_neg c8]at H;exact absurd H (by simp)
      ·replace c7:=Bool.eq_false_iff.mpr c7;subst c7;rw[if_neg Bool.false_ne_true]at H;have H':=Aside0.mk H;clear H;have p5:0≤(0:Int):=(by omega);have q5:0<x0_1.size:=(by have:(0:Int)<(x0_1.size:Int):=of_decide_eq_true zz16;omega);have hx5: ∀h:0<x0_1.size,((x0_1[0]'h).toNat:Int)=bt x0_1 0:=bt_at x0_1 0;clear p5;have qi5:(0<(x0_1.size:Int))=True:=eq_true (of_decide_eq_true zz16);replace q5:=eq_true q5;go_wp2_with (first|(go_at_call 101;(with_reducible refine(impl_isSpace.calls (bt x0_1 0) false _ A6.out).mono ?_);rintro e w' ⟨rfl,⟨nd,rfl⟩⟩))
       go_meet
       case rel=>exact⟨_,(x0_1),zz4,H',⟨zz125⟩,zz7⟩
     ·rw[if_neg c4]at H;exact absurd H (by simp)
 case rest=>
  clear HC2;(try clear p2);(try clear c3);(try clear c3b0);(try clear c3b1);(try clear c4);(try clear c4b0);(try clear c4b1);(try clear c5);(try clear p5);(try clear q5);(try clear hx5);(try clear qi5);(try clear c7);(try clear c8);(try clear c8b0);(try clear c8b1);(try clear p2);(try clear p5);(try clear q5);obtain⟨kq,x0_1,rfl,HA,HJ1,⟨mc1,rfl⟩⟩:=hcut
  cases kq with
  |zero=>exact absurd HA.out (by simp[impl_Trim.j1])
  |succ kj1=>
   have H:=HA.out;clear HA;simp only[impl_Trim.j1]at H;have H':=Aside0.mk H;clear H;go_wp2
   go_loopg [0] kj1 (fun kq v0 w'=> ∃(x0_2:ByteArray),v0= .string x0_2∧Aside0 (impl_Trim.l1 kq x0_2=some r)∧Aside0 (kq≤kj1)∧Drawn0 w w')
   case atStart=>exact⟨(x0_1),zz4,H',⟨Nat.le_refl _⟩,zz7⟩
   case round=>
    clear H';(try clear c1);(try clear p2);(try clear c3);(try clear c3b0);(try clear c3b1);(try clear c4);(try clear c4b0);(try clear c4b1);(try clear c5);(try clear p5);(try clear q5);(try clear hx5);(try clear qi5);(try clear c7);(try clear c8);(try clear c8b0);(try clear c8b1);(try clear p2);(try clear p5);(try clear q5);obtain⟨x0_2,rfl,HA,HK2,⟨m2,rfl⟩⟩:=hrel
    cases gk with
    |zero=>exact absurd HA.out (by simp[impl_Trim.l1])
    |succ k2=>
     have H:=HA.out;clear HA;simp only[impl_Trim.l1]at H
     by_cases c9:x0_2.toList=([]:List UInt8)
     ·rw[if_pos c9]at H;have c9b0:(x0_2.toList==([]:List UInt8))=true:=beq_iff_eq.mpr c9;have c9e:x0_2.toList.isEmpty=true:=by have hz_:=beq_iff_eq.1 c9b0;rw[hz_];rfl
      (try rw[c9e]);have c9b1:(x0_2.toList !=([]:List UInt8))=false:=bne_eq_false_iff_eq.mpr c9;clear c9;obtain rfl:=Option.some.inj H;go_wp2
      go_ret;exact⟨zz4,zz7⟩
     ·rw[if_neg c9]at H;have c9b0:(x0_2.toList==([]:List UInt8))=false:=beq_eq_false_iff_ne.mpr c9;have c9e:x0_2.toList.isEmpty=false:=by cases hz_:x0_2.toList with|nil=>(rw[hz_]at c9b0;exact absurd c9b0 (by decide))|cons _ _=>rfl
      (try rw[c9e]);have c9b1:(x0_2.toList !=([]:List UInt8))=true:=bne_iff_ne.mpr c9;obtain⟨ji10,hji10⟩: ∃j_:Int,(wrap64 ((x0_2.size:Int)-1))=j_:=⟨_,rfl⟩;replace H:(if 0≤(ji10)then(if(ji10)<(x0_2.size:Int)then((impl_isSpace.f (bt x0_2 (ji10))).bind fun t111=>(if t111=true then(if(ji10)≤(x0_2.size:Int)then(impl_Trim.l1 k2 (x0_2.extract 0 ((ji10):Int).toNat))else(none))else(some x0_2)))else(none))else(none))=some r:=by first|(rw[hji10]at H;exact H)|(simp only[hji10]at H ⊢;exact H)
      have hji10w:(IntKind.i64.wrap ((x0_2.size:Int)-1))=ji10:=(i64_w _).trans hji10
      by_cases c11:0≤(ji10)
      ·rw[if_pos c11]at H;have c11b0:decide (0≤(ji10))=true:=decide_eq_true c11;clear c11
       by_cases c12:(ji10)<(x0_2.size:Int)
       ·rw[if_pos c12]at H;have c12b0:decide ((ji10)<(x0_2.size:Int))=true:=decide_eq_true c12;clear c12;replace H:=Option.bind_eq_some_iff.mp H;obtain⟨t111,A140,H⟩:=H;(try dsimp only at H);have A14:=Aside0.mk A140;clear A140
        by_cases c15:t111=true
        ·subst c15;rw[if_pos rfl]at H;have c16b0:=eq_true (of_decide_eq_true zz16:0≤(ji10))
         by_cases c17:(ji10)≤(x0_2.size:Int)
         ·rw[if_pos c17]at H;have c17b0:=eq_true c17;have c17b1:decide ((ji10)≤(x0_2.size:Int))=true:=decide_eq_true c17;clear c17;have H':=Aside0.mk H;clear H;have p13:0≤((ji10):Int):=of_decide_eq_true zz16;have q13:(ji10)<(x0_2.size:Int):=of_decide_eq_true zz16;have hx13:=bt_at x0_2 (ji10);replace p13:=eq_true p13;replace q13:=eq_true q13;go_wp2_with (first|(go_at_call 101;(with_reducible refine(impl_isSpace.calls (bt x0_2 (ji10)) true _ A14.out).mono ?_);rintro e w' ⟨rfl,⟨nd,rfl⟩⟩))
          go_roundg k2
          (case measure=>have:=HJ1.out;have:=HK2.out;omega);case rel=>exact⟨(x0_2.extract 0 ((ji10):Int).toNat),(by first|rfl|(simp;done)|(simp only[←hji10]<;>(first|rfl|simp))|(simp[*];done)),H',⟨by have:=HJ1.out;have:=HK2.out;omega⟩,zz7⟩
         ·rw[if_neg c17]at H;exact absurd H (by simp)
        ·replace c15:=Bool.eq_false_iff.mpr c15;subst c15;rw[if_neg Bool.false_ne_true]at H;obtain rfl:=Option.some.inj H;have p13:0≤((ji10):Int):=of_decide_eq_true zz16;have q13:(ji10)<(x0_2.size:Int):=of_decide_eq_true zz16;have hx13:=bt_at x0_2 (ji10);replace p13:=eq_true p13;replace q13:=eq_true q13;go_wp2_with (first|(go_at_call 101;(with_reducible refine(impl_isSpace.calls (bt x0_2 (ji10)) false _ A14.out).mono ?_);rintro e w' ⟨rfl,⟨nd,rfl⟩⟩))
         go_ret;exact⟨by first|rfl|(simp;done)|(simp only[←hji10]<;>(first|rfl|simp))|(simp[*];done),zz7⟩
       ·rw[if_neg c12]at H;exact absurd H (by simp)
      ·rw[if_neg c11]at H;exact absurd H (by simp)
def impl_isUpper.f (a0:Int):Option (Bool):=if a0≥65 then(some (decide (a0≤90)))else(some false)
theorem impl_isUpper.calls (a0:Int) (r:Bool) (w:World) (h:impl_isUpper.f a0=some r):
  Calls Tryz.prog 103 #[.int .u8 a0] w fun e w'=>e= .returned (.bool r)∧Drawn0 w w':=by
 have H:(if a0≥65 then(some (decide (a0≤90)))else(some false))=some r:=h;clear h
 by_cases c2:a0≥65
 ·rw[if_pos c2]at H;have c2b0:decide (65≤a0)=true:=decide_eq_true c2;clear c2;obtain rfl:=Option.some.inj H;go_enter Tryz.func103,Tryz.ntmps103
  go_wp2
  go_ret;exact⟨zz4,zz7⟩
 ·rw[if_neg c2]at H;have c2b0:decide (65≤a0)=false:=decide_eq_false c2;clear c2;obtain rfl:=Option.some.inj H;go_enter Tryz.func103,Tryz.ntmps103
  go_wp2
  go_ret;exact⟨zz4,zz7⟩
def impl_isLower.f (a0:Int):Option (Bool):=if a0≥97 then(some (decide (a0≤122)))else(some false)
theorem impl_isLower.calls (a0:Int) (r:Bool) (w:World) (h:impl_isLower.f a0=some r):
  Calls Tryz.prog 131 #[.int .u8 a0] w fun e w'=>e= .returned (.bool r)∧Drawn0 w w':=by
 have H:(if a0≥97 then(some (decide (a0≤122)))else(some false))=some r:=h;clear h
 by_cases c2:a0≥97
 ·rw[if_pos c2]at H;have c2b0:decide (97≤a0)=true:=decide_eq_true c2;clear c2;obtain rfl:=Option.some.inj H;go_enter Tryz.func131,Tryz.ntmps131
  go_wp2
  go_ret;exact⟨zz4,zz7⟩
 ·rw[if_neg c2]at H;have c2b0:decide (97≤a0)=false:=decide_eq_false c2;clear c2;obtain rfl:=Option.some.inj H;go_enter Tryz.func131,Tryz.ntmps131
  go_wp2
  go_ret;exact⟨zz4,zz7⟩
def impl_isTokenByte.f (a0:Int):Option (Bool):=(impl_isLower.f a0).bind fun t112=>(if t112=true then(some true)else((impl_isUpper.f a0).bind fun t113=>(if t113=true then(some true)else((impl_isDigit.f a0).bind fun t114=>(if t114=true then(some true)else(if a0=96 then(some true)else((strings_IndexByte.f (⟨#[33,35,36,37,38,39,42,43,45,46,94,95,124,126]⟩:ByteArray) a0).bind fun t115=>(some (decide (t115≥0))))))))))
theorem impl_isTokenByte.calls (a0:Int) (r:Bool) (w:World) (h:impl_isTokenByte.f a0=some r):
  Calls Tryz.prog 102 #[.int .u8 a0] w fun e w'=>e= .returned (.bool r)∧Drawn0 w w':=by
 have H:((impl_isLower.f a0).bind fun t112=>(if t112=true then(some true)else((impl_isUpper.f a0).bind fun t113=>(if t113=true then(some true)else((impl_isDigit.f a0).bind fun t114=>(if t114=true then(some true)else(if a0=96 then(some true)else((strings_IndexByte.f (⟨#[33,35,36,37,38,39,42,43,45,46,94,95,124,126]⟩:ByteArray) a0).bind fun t115=>(some (decide (t115≥0)))))))))))=some r:=h;clear h;replace H:=Option.bind_eq_some_iff.mp H;obtain⟨t112,A20,H⟩:=H;(try dsimp only at H);have A2:=Aside0.mk A20;clear A20;have HC3:=Aside0.mk H;clear H;go_enter Tryz.func102,Tryz.ntmps102
 repeat' (first|(go_big_may;(first|((with_reducible refine gate_callee (f:=131) rfl ?_);refine goesR_ 4 Tryz.func131 #[.int .u8 a0] (impl_isLower.calls a0 t112 _ A2.out) ?_;rintro w' ⟨nd,rfl⟩)))|go_values|go_skip|go_big_skip|go_big_want|((first|(with_reducible refine gate_nog rfl ?_)|(fail_if_success with_reducible refine gate_any ?_));go_step)|go_upon|simp only[Bool.not_true,Bool.not_false,Bool.true_and,Bool.false_and,Bool.true_or,Bool.false_or]|dsimp only)
 (try simp only[Act.put,List.setIfInBounds_toArray,List.set_cons_zero,List.set_cons_succ]);have H:=HC3.out;clear HC3
 by_cases c4:t112=true
 ·subst c4;rw[if_pos rfl]at H;obtain rfl:=Option.some.inj H;go_wp2
  go_ret;exact⟨zz4,zz7⟩
 ·replace c4:=Bool.eq_false_iff.mpr c4;subst c4;rw[if_neg Bool.false_ne_true]at H;replace H:=Option.bind_eq_some_iff.mp H;obtain⟨t113,A50,H⟩:=H;(try dsimp only at H);have A5:=Aside0.mk A50;clear A50;have HC6:=Aside0.mk H;clear H
  repeat' (first|(go_big_may;(first|(go_at_call 103;(with_reducible refine(impl_isUpper.calls a0 t113 _ A5.out).mono ?_);rintro e w' ⟨rfl,⟨nd,rfl⟩⟩)))|go_values|go_skip|go_big_skip|go_big_want|((first|(with_reducible refine gate_nog rfl ?_)|(fail_if_success with_reducible refine gate_any ?_));go_step)|go_upon|simp only[Bool.not_true,Bool.not_false,Bool.true_and,Bool.false_and,Bool.true_or,Bool.false_or]|dsimp only)
  (try simp only[Act.put,List.setIfInBounds_toArray,List.set_cons_zero,List.set_cons_succ]);have H:=HC6.out;clear HC6
  by_cases c7:t113=true
  ·subst c7;rw[if_pos rfl]at H;obtain rfl:=Option.some.inj H;go_wp2
   go_ret;exact⟨zz4,zz7⟩
  ·replace c7:=Bool.eq_false_iff.mpr c7;subst c7;rw[if_neg Bool.false_ne_true]at H;replace H:=Option.bind_eq_some_iff.mp H;obtain⟨t114,A80,H⟩:=H;(try dsimp only at H);have A8:=Aside0.mk A80;clear A80;have HC9:=Aside0.mk H;clear H
   repeat' (first|(go_big_may;(first|(go_at_call 104;(with_reducible refine(impl_isDigit.calls a0 t114 _ A8.out).mono ?_);rintro e w' ⟨rfl,⟨nd,rfl⟩⟩)))|go_values|go_skip|go_big_skip|go_big_want|((first|(with_reducible refine gate_nog rfl ?_)|(fail_if_success with_reducible refine gate_any ?_));go_step)|go_upon|simp only[Bool.not_true,Bool.not_false,Bool.true_and,Bool.false_and,Bool.true_or,Bool.false_or]|dsimp only)
   (try simp only[Act.put,List.setIfInBounds_toArray,List.set_cons_zero,List.set_cons_succ]);have H:=HC9.out;clear HC9
   by_cases c10:t114=true
   ·subst c10;rw[if_pos rfl]at H;obtain rfl:=Option.some.inj H;go_wp2
    go_ret;exact⟨zz4,zz7⟩
   ·replace c10:=Bool.eq_false_iff.mpr c10;subst c10;rw[if_neg Bool.false_ne_true]at H
    by_cases c11:a0=96
    ·rw[if_pos c11]at H;have c11b0:(a0==96)=true:=beq_iff_eq.mpr c11;have c11b1:(a0 !=96)=false:=bne_eq_false_iff_eq.mpr c11;clear c11;(first|rw[c11b0]|(simp only[i64_w,i32_w];rw[c11b0])|rw[c11b1]|(rw[c11b2];simp only[Bool.not_true,Bool.not_false])|skip);obtain rfl:=Option.some.inj H;go_wp2
     go_ret;exact⟨zz4,zz7⟩
    ·rw[if_neg c11]at H;have c11b0:(a0==96)=false:=beq_eq_false_iff_ne.mpr c11;have c11b1:(a0 !=96)=true:=bne_iff_ne.mpr c11;(first|rw[c11b0]|(simp only[i64_w,i32_w];rw[c11b0])|rw[c11b1]|(rw[c11b2];simp only[Bool.not_true,Bool.not_false])|skip);replace H:=Option.bind_eq_some_iff.mp H;obtain⟨t115,A120,H⟩:=H;(try dsimp only at H);have A12:=Aside0.mk A120;clear A120;obtain rfl:=Option.some.inj H;go_wp2_with (first|(go_at_call 132;(with_reducible refine(strings_IndexByte.calls (⟨#[33,35,36,37,38,39,42,43,45,46,94,95,124,126]⟩:ByteArray) a0 t115 _ A12.out).mono ?_);rintro e w' ⟨rfl,⟨nd,rfl⟩⟩))
     go_ret;exact⟨zz4,zz7⟩
end Go.Proofs.YtnilblnhlpnpgaaGreatDoor.GFnTwice
