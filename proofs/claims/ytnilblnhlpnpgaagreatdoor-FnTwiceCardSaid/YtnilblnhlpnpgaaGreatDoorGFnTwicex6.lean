-- Printed by gen.py and its programs for this claim.
import Derived.Test.YtnilblnhlpnpgaaGreatDoorGFnTwicex0
import Derived.Test.YtnilblnhlpnpgaaGreatDoorGFnTwicex1
import Derived.Test.YtnilblnhlpnpgaaGreatDoorGFnTwicex3
import Derived.Test.YtnilblnhlpnpgaaGreatDoorGFnTwicex5
import Derived.Test.YtnilblnhlpnpgaaGreatDoorZFnTwice
namespace Go.Proofs.YtnilblnhlpnpgaaGreatDoor.GFnTwice
open Go.RowKit Go.Proofs.YtnilblnhlpnpgaaGreatDoorW.PrintWords Go.Proofs.YtnilblnhlpnpgaaGreatDoorW.PrintLast Go.Proofs.YtnilblnhlpnpgaaGreatDoorW.PrintMore Go.Proofs.YtnilblnhlpnpgaaGreatDoorW.Zs
set_option maxHeartbeats 40000000
set_option maxRecDepth 100000
attribute [local go_sem] max2_int min2_int max_two min_two max_three min_three max_four min_four
set_option linter.unusedVariables false
set_option linter.unusedSimpArgs false
def impl_Values.l0:Nat→ByteArray→List ByteArray→List (S82)→Int→Int→Option (List ByteArray)
 |0,_,_,_,_,_=>none
 |k+1,x1,x5,x11,x12,x13=>if x13<x12 then(if 0≤x13 then(if x13<(x11.length:Int)then((impl_SameFold.f ((rd_T82 x11 x13).f0) x1).bind fun t178=>(if t178=true then(if x5.length<8796093022208 then(impl_Values.l0 k x1 (x5++ [(rd_T82 x11 x13).f1]) x11 x12 (wrap64 (x13+1)))else(none))else(impl_Values.l0 k x1 x5 x11 x12 (wrap64 (x13+1)))))else(none))else(none))else(some x5)
def impl_Values.f (k:Nat) (l0:List (S82)) (a1:ByteArray):Option (List ByteArray):=(impl_FieldsOk.f k l0).bind fun t175=>(if t175=true then(impl_Values.l0 k a1 ([]:List ByteArray) l0 (l0.length:Int) 0)else(some ([]:List ByteArray)))
theorem impl_Values.calls (k:Nat) (A0:Option Addr) (c0:Nat) (l0:List (S82)) (a1:ByteArray) (r:List ByteArray) (w:World) (hr0:Kd.C k82 w A0 l0.length l0) (hc0:l0.length≤c0) (h:impl_Values.f k l0 a1=some r):
  Calls Tryz.prog 111 #[.slice A0 l0.length c0,.string a1] w fun e w'=> ∃v0_:Value,e= .returned (v0_)∧Kd.R Kd.string 9 w' w.heap.size (fun _=>True) v0_ r∧Below w.heap.size w w':=by
 have hu82:=Tryz.underlying82;have HR0:=Aside0.mk hr0;have HC0:=Aside0.mk hc0;clear hr0 hc0;have HB:=Aside0.mk (Below.refl w.heap.size w);have H:((impl_FieldsOk.f k l0).bind fun t175=>(if t175=true then(impl_Values.l0 k a1 ([]:List ByteArray) l0 (l0.length:Int) 0)else(some ([]:List ByteArray))))=some r:=h;clear h;replace H:=Option.bind_eq_some_iff.mp H;obtain⟨t175,A30,H⟩:=H;(try dsimp only at H);have A3:=Aside0.mk A30;clear A30;have HC4:=Aside0.mk H;clear H;go_enter Tryz.func111,Tryz.ntmps111
 go_upto_if 10 with(first|((with_reducible refine gate_callee (f:=62) rfl ?_);refine goesQ_ 9 Tryz.func62 #[.slice A0 l0.length c0] ?_;(with_reducible refine(impl_FieldsOk.calls k _ _ l0 t175 _ ?side1 ?side2 A3.out).mono ?_);(case side1=>repeat(first|exact HR0.out|(with_reducible refine Kd.C_alloc ?_ _)|(with_reducible refine Kd.C_drewN ?_ _)|(with_reducible refine Kd.C_drew ?_)));(case side2=>exact HC0.out);rintro e w5 ⟨rfl,hb⟩;refine⟨_,rfl,?_⟩;replace HB:=Aside0.mk (below_step zz0 hb);(try clear hb)))
 (try simp only[Act.put,List.setIfInBounds_toArray,List.set_cons_zero,List.set_cons_succ]);have H:=HC4.out;clear HC4
 by_cases c6:t175=true
 ·subst c6;rw[if_pos rfl]at H;have H':=Aside0.mk H;clear H;go_wp2
  go_loopg [5,13] k (fun kq v5 v13 w'=> ∃(x5_1:List ByteArray) (x13_1:Int),v13= .int .i64 x13_1∧Aside0 (impl_Values.l0 kq a1 x5_1 l0 (l0.length:Int) x13_1=some r)∧Aside0 (kq≤k)∧Aside0 (Kd.R Kd.string 9 w' w.heap.size (fun _=>True) v5 x5_1)∧Aside0 (Below w.heap.size w w'))
  case atStart=>exact⟨(([]:List ByteArray)),(0),zz4,H',⟨Nat.le_refl _⟩,⟨zz17⟩,⟨zz0⟩⟩
  case round=>
   clear H';(try clear c1);(try clear p2);(try clear c6);obtain⟨x5_1,x13_1,rfl,HA,HK1,HO_5,HB⟩:=hrel
   cases gk with
   |zero=>exact absurd HA.out (by simp[impl_Values.l0])
   |succ k1=>
    have H:=HA.out;clear HA;simp only[impl_Values.l0]at H
    by_cases c7:x13_1<(l0.length:Int)
    ·rw[if_pos c7]at H;have c7b0:decide (x13_1<(l0.length:Int))=true:=decide_eq_true c7;clear c7;(first|rw[c7b0]|(simp only[i64_w,i32_w];rw[c7b0])|skip)
     by_cases c8:0≤x13_1
     ·rw[if_pos c8]at H;have c8b0:decide (0≤x13_1)=true:=decide_eq_true c8;clear c8
      by_cases c9:x13_1<(l0.length:Int)
      ·rw[if_pos c9]at H;have c9b0:decide (x13_1<(l0.length:Int))=true:=decide_eq_true c9;clear c9;replace H:=Option.bind_eq_some_iff.mp H;obtain⟨t178,A100,H⟩:=H;(try dsimp only at H);have A10:=Aside0.mk A100;clear A100;have HC11:=Aside0.mk H;clear H;have p176:0≤(x13_1:Int):=of_decide_eq_true zz16;have q176:x13_1<(l0.length:Int):=of_decide_eq_true zz16;obtain⟨ad176,e176,W176⟩:=at_T82 HR0.out x13_1 p176 q176;cases e176;obtain⟨hx176_0,hx176_1⟩:=El82.up HB.out W176;replace p176:=eq_true p176;replace q176:=eq_true q176;go_upto_if 20 with(first|((with_reducible refine gate_dst (N:=7) rfl ?_);refine boxP_ (N:=7) (cs:= #[.string (⟨#[]⟩:ByteArray),.string (⟨#[]⟩:ByteArray)]) (t:=82) ?_;intro gb177 hg w12 hbox hb;replace HO_5:=Aside0.mk (Kd.R_below zz108 hb);have BK177:=Aside0.mk (hbox);have GE177:=geb_ (w:=w) hg zz0;replace HB:=Aside0.mk (below_step zz0 hb);clear hb hbox hg;obtain⟨_,_,_,_⟩:=cells2_ BK177.out)|((with_reducible refine gate_callee (f:=142) rfl ?_);refine goesR_ 20 Tryz.func142 #[.string ((rd_T82 l0 x13_1).f0),.string a1] (impl_SameFold.calls ((rd_T82 l0 x13_1).f0) a1 t178 _ A10.out) ?_;rintro w14 hb;replace HO_5:=Aside0.mk (Kd.R_below (by(with_reducible repeat(first|apply Kd.R_alloc|apply Kd.R_drewN|apply Kd.R_drew));exact(Kd.R_mono (Kd.R_far (p:=⟨gb177,1,none⟩) (Kd.R_far (p:=⟨gb177,0,none⟩) (Kd.R_types HO_5.out BK177.out (by decide)) (fun _ hk=>hk.2) (.string ((rd_T82 l0 x13_1).f0))) (fun _ hk=>hk.2) (.string ((rd_T82 l0 x13_1).f1))) (fun _ h_=>h_.1))) hb);replace BK177:=Aside0.mk (blk_below (g:=gb177) (o:= .cells #[.string ((rd_T82 l0 x13_1).f0),.string ((rd_T82 l0 x13_1).f1)] 82 (0,0)) (by(with_reducible repeat(first|refine blk_drewN ?_ _|refine blk_drew ?_|refine blk_alloc ?_ _));refine blk_put (cs:= #[.string ((rd_T82 l0 x13_1).f0),.string (⟨#[]⟩:ByteArray)]) ?_ 1 _ rfl;(with_reducible repeat(first|refine blk_drewN ?_ _|refine blk_drew ?_|refine blk_alloc ?_ _));refine blk_put (cs:= #[.string (⟨#[]⟩:ByteArray),.string (⟨#[]⟩:ByteArray)]) ?_ 0 _ rfl;(with_reducible repeat(first|refine blk_drewN ?_ _|refine blk_drew ?_|refine blk_alloc ?_ _));exact BK177.out) hb);replace HB:=Aside0.mk (below_step zz100 hb);(try clear hb);(try clear hk)))
       (try simp only[Act.put,List.setIfInBounds_toArray,List.set_cons_zero,List.set_cons_succ]);have H:=HC11.out;clear HC11
       by_cases c15:t178=true
       ·subst c15;rw[if_pos rfl]at H
        by_cases c16:x5_1.length<8796093022208
        ·rw[if_pos c16]at H;have LMc16:=Aside0.mk c16;clear c16;obtain⟨y179,hy179⟩: ∃y_:List ByteArray,y_=(x5_1++ [(rd_T82 l0 x13_1).f1]):=⟨_,rfl⟩;replace H:(impl_Values.l0 k1 a1 y179 l0 (l0.length:Int) (wrap64 (x13_1+1)))=some r:=by first|(rw[hy179];with_reducible exact H)|(have H2_:=(Option.bind_some _ _).symm.trans H;rw[hy179];with_reducible exact H2_)|(have H2_:=(Option.bind_some _ _).symm.trans H;with_reducible exact H2_)|with_reducible exact H|(rw[hy179];exact H)|exact H
         have Ny179:=Aside0.mk hy179;clear hy179;have H':=Aside0.mk H;clear H;obtain⟨_,_,_,_⟩:=cells2_ BK177.out;go_wp2_with (first|((with_reducible refine gate_builtin (b:= .append) (xs:= #[.tmp 21,.tmp 24]) rfl ?_);at_builtin;refine Kd.R_append Kd.string (w0:=w) w.heap.size rfl (.tmp 21) (.tmp 24) 71 9 (.string ⟨#[]⟩) 16 rfl Tryz.underlying71 info9 rfl (by decide) (by omega) u5 x5_1 ((rd_T82 l0 x13_1).f1) [.string ((rd_T82 l0 x13_1).f1)] (fun _=>True) (fun _=>False) rfl rfl ?aP (fun _ hk=>hk.elim) ?aF ?aO ?aB ?aS ?aL ?_;(case aP=>exact rfl);(case aB=>exact zz100);(case aF=>exact(fun _ _=>trivial));(case aO=>exact zz108);(case aS=>exact(below_size zz100));(case aL=>have:=LMc16.out;omega);intro v180 w18 ho hb hg hat;rw[←Ny179.out]at ho;replace BK177:=Aside0.mk (blk_grown (g:=gb177) (o:= .cells #[.string ((rd_T82 l0 x13_1).f0),.string ((rd_T82 l0 x13_1).f1)] 82 (0,0)) (by(with_reducible repeat(first|refine blk_drewN ?_ _|refine blk_drew ?_|refine blk_alloc ?_ _));exact BK177.out) hg (Kd.R_ne HO_5.out BK177.out (by decide)));replace HB:=Aside0.mk (hb);have HO181:=Aside0.mk (ho);clear HO_5;clear ho hb hg hat))
         go_roundg k1
         (case measure=>have:=HK1.out;omega);case rel=>exact⟨(y179),(wrap64 (x13_1+1)),zz4,H',⟨zz119⟩,⟨by(with_reducible repeat(first|apply Kd.R_alloc|apply Kd.R_drewN|apply Kd.R_drew));exact HO181.out⟩,⟨zz100⟩⟩
        ·rw[if_neg c16]at H;exact absurd H (by simp)
       ·replace c15:=Bool.eq_false_iff.mpr c15;subst c15;rw[if_neg Bool.false_ne_true]at H;have H':=Aside0.mk H;clear H;go_wp2
        go_roundg k1
        (case measure=>have:=HK1.out;omega);case rel=>exact⟨(x5_1),(wrap64 (x13_1+1)),zz4,H',⟨zz119⟩,⟨zz108⟩,⟨zz100⟩⟩
      ·rw[if_neg c9]at H;exact absurd H (by simp)
     ·rw[if_neg c8]at H;exact absurd H (by simp)
    ·rw[if_neg c7]at H;have c7b0:decide (x13_1<(l0.length:Int))=false:=decide_eq_false c7;clear c7;(first|rw[c7b0]|(simp only[i64_w,i32_w];rw[c7b0])|skip);obtain rfl:=Option.some.inj H;go_wp2
     go_ret;exact⟨_,zz1,zz108,zz0⟩
 ·replace c6:=Bool.eq_false_iff.mpr c6;subst c6;rw[if_neg Bool.false_ne_true]at H;obtain rfl:=Option.some.inj H;go_wp2
  go_ret;exact⟨_,zz1,zz17,zz0⟩
def impl_hasField.f (k:Nat) (l0:List (S82)) (a1:ByteArray):Option (Bool):=(impl_Values.f k l0 a1).bind fun t182=>(some (decide ((t182.length:Int)>0)))
theorem impl_hasField.calls (k:Nat) (A0:Option Addr) (c0:Nat) (l0:List (S82)) (a1:ByteArray) (r:Bool) (w:World) (hr0:Kd.C k82 w A0 l0.length l0) (hc0:l0.length≤c0) (h:impl_hasField.f k l0 a1=some r):
  Calls Tryz.prog 64 #[.slice A0 l0.length c0,.string a1] w fun e w'=>e= .returned (.bool r)∧Below w.heap.size w w':=by
 have HR0:=Aside0.mk hr0;have HC0:=Aside0.mk hc0;clear hr0 hc0;have HB:=Aside0.mk (Below.refl w.heap.size w);have H:((impl_Values.f k l0 a1).bind fun t182=>(some (decide ((t182.length:Int)>0))))=some r:=h;clear h;replace H:=Option.bind_eq_some_iff.mp H;obtain⟨t182,A30,H⟩:=H;(try dsimp only at H);have A3:=Aside0.mk A30;clear A30;obtain rfl:=Option.some.inj H;go_enter Tryz.func64,Tryz.ntmps64
 go_wp2_with (first|((with_reducible refine gate_callee (f:=111) rfl ?_);refine goesQ_ 7 Tryz.func111 #[.slice A0 l0.length c0,.string a1] ?_;(with_reducible refine(impl_Values.calls k _ _ l0 a1 t182 _ ?side1 ?side2 A3.out).mono ?_);(case side1=>repeat(first|exact HR0.out|(with_reducible refine Kd.C_alloc ?_ _)|(with_reducible refine Kd.C_drewN ?_ _)|(with_reducible refine Kd.C_drew ?_)));(case side2=>exact HC0.out);rintro e w4 ⟨v183,rfl,ho0,hb⟩;refine⟨_,rfl,?_⟩;have HO184:=Aside0.mk (Kd.R_lower ho0 (below_size zz0));replace HB:=Aside0.mk (below_step zz0 hb);(try clear hb);(try clear ho0);obtain⟨Ao5,co5,eo5⟩:=Kd.R_slice HO184.out;subst eo5))
 go_ret;exact⟨zz1,zz0⟩
def impl_isMethod.f (k:Nat) (a0:ByteArray):Option (Bool):=(impl_Token.f k a0).bind fun t185=>(if t185=true then(some (decide ((a0.size:Int)≤20)))else(some false))
theorem impl_isMethod.calls (k:Nat) (a0:ByteArray) (r:Bool) (w:World) (h:impl_isMethod.f k a0=some r):
  Calls Tryz.prog 65 #[.string a0] w fun e w'=>e= .returned (.bool r)∧Drawn0 w w':=by
 have H:((impl_Token.f k a0).bind fun t185=>(if t185=true then(some (decide ((a0.size:Int)≤20)))else(some false)))=some r:=h;clear h;replace H:=Option.bind_eq_some_iff.mp H;obtain⟨t185,A20,H⟩:=H;(try dsimp only at H);have A2:=Aside0.mk A20;clear A20;have HC3:=Aside0.mk H;clear H;go_enter Tryz.func65,Tryz.ntmps65
 repeat' (first|(go_big_may;(first|((with_reducible refine gate_callee (f:=54) rfl ?_);refine goesR_ 4 Tryz.func54 #[.string a0] (impl_Token.calls k a0 t185 _ A2.out) ?_;rintro w' ⟨nd,rfl⟩)))|go_values|go_skip|go_big_skip|go_big_want|((first|(with_reducible refine gate_nog rfl ?_)|(fail_if_success with_reducible refine gate_any ?_));go_step)|go_upon|simp only[Bool.not_true,Bool.not_false,Bool.true_and,Bool.false_and,Bool.true_or,Bool.false_or]|dsimp only)
 (try simp only[Act.put,List.setIfInBounds_toArray,List.set_cons_zero,List.set_cons_succ]);have H:=HC3.out;clear HC3
 by_cases c4:t185=true
 ·subst c4;rw[if_pos rfl]at H;obtain rfl:=Option.some.inj H;go_wp2
  go_ret;exact⟨zz4,zz7⟩
 ·replace c4:=Bool.eq_false_iff.mpr c4;subst c4;rw[if_neg Bool.false_ne_true]at H;obtain rfl:=Option.some.inj H;go_wp2
  go_ret;exact⟨zz4,zz7⟩
def impl_isVisible.f (a0:Int):Option (Bool):=if a0≥33 then(some (decide (a0≤126)))else(some false)
theorem impl_isVisible.calls (a0:Int) (r:Bool) (w:World) (h:impl_isVisible.f a0=some r):
  Calls Tryz.prog 112 #[.int .u8 a0] w fun e w'=>e= .returned (.bool r)∧Drawn0 w w':=by
 have H:(if a0≥33 then(some (decide (a0≤126)))else(some false))=some r:=h;clear h
 by_cases c2:a0≥33
 ·rw[if_pos c2]at H;have c2b0:decide (33≤a0)=true:=decide_eq_true c2;clear c2;obtain rfl:=Option.some.inj H;go_enter Tryz.func112,Tryz.ntmps112
  go_wp2
  go_ret;exact⟨zz4,zz7⟩
 ·rw[if_neg c2]at H;have c2b0:decide (33≤a0)=false:=decide_eq_false c2;clear c2;obtain rfl:=Option.some.inj H;go_enter Tryz.func112,Tryz.ntmps112
  go_wp2
  go_ret;exact⟨zz4,zz7⟩
def impl_all__impl_isVisible.l0:Nat→ByteArray→Int→Option (Bool)
 |0,_,_=>none
 |k+1,x0,x5=>if x5<(x0.size:Int)then(if 0≤x5 then((impl_isVisible.f (bt x0 x5)).bind fun t186=>(if t186=true then(impl_all__impl_isVisible.l0 k x0 (wrap64 (x5+1)))else(some false)))else(none))else(some true)
def impl_all__impl_isVisible.f (k:Nat) (a0:ByteArray):Option (Bool):=impl_all__impl_isVisible.l0 k a0 0
theorem impl_all__impl_isVisible.calls (k:Nat) (a0:ByteArray) (r:Bool) (w:World) (h:impl_all__impl_isVisible.f k a0=some r):
  Calls Tryz.prog 55 #[.string a0,.func (.func 112) #[] #[]] w fun e w'=>e= .returned (.bool r)∧Drawn0 w w':=by
 have H:(impl_all__impl_isVisible.l0 k a0 0)=some r:=h;clear h;have H':=Aside0.mk H;clear H;go_enter Tryz.func55,Tryz.ntmps55
 go_wp2
 go_loopg [5] k (fun kq v5 w'=> ∃(x5_1:Int),v5= .int .i64 x5_1∧Aside0 (impl_all__impl_isVisible.l0 kq a0 x5_1=some r)∧Aside0 (kq≤k)∧Drawn0 w w')
 case atStart=>exact⟨(0),zz4,H',⟨Nat.le_refl _⟩,zz7⟩
 case round=>
  clear H';obtain⟨x5_1,rfl,HA,HK1,⟨m1,rfl⟩⟩:=hrel
  cases gk with
  |zero=>exact absurd HA.out (by simp[impl_all__impl_isVisible.l0])
  |succ k1=>
   have H:=HA.out;clear HA;simp only[impl_all__impl_isVisible.l0]at H
   by_cases c2:x5_1<(a0.size:Int)
   ·rw[if_pos c2]at H;have c2b0:decide (x5_1<(a0.size:Int))=true:=decide_eq_true c2;clear c2
    by_cases c3:0≤x5_1
    ·rw[if_pos c3]at H;have c3b0:decide (0≤x5_1)=true:=decide_eq_true c3;clear c3;replace H:=Option.bind_eq_some_iff.mp H;obtain⟨t186,A50,H⟩:=H;(try dsimp only at H);have A5:=Aside0.mk A50;clear A50;have HC6:=Aside0.mk H;clear H;have p4:0≤(x5_1:Int):=of_decide_eq_true zz16;have q4:x5_1<(a0.size:Int):=of_decide_eq_true zz16;have hx4:=bt_at a0 x5_1;replace p4:=eq_true p4;replace q4:=eq_true q4;go_upto_if 17 with(first|(go_at_call 112;(with_reducible refine(impl_isVisible.calls (bt a0 x5_1) t186 _ A5.out).mono ?_);rintro e w' ⟨rfl,⟨nd,rfl⟩⟩))
     (try simp only[Act.put,List.setIfInBounds_toArray,List.set_cons_zero,List.set_cons_succ]);have H:=HC6.out;clear HC6
     by_cases c7:t186=true
     ·subst c7;rw[if_pos rfl]at H;have H':=Aside0.mk H;clear H;go_wp2
      go_roundg k1
      (case measure=>have:=HK1.out;omega);case rel=>exact⟨(wrap64 (x5_1+1)),zz4,H',⟨zz119⟩,zz7⟩
     ·replace c7:=Bool.eq_false_iff.mpr c7;subst c7;rw[if_neg Bool.false_ne_true]at H;obtain rfl:=Option.some.inj H;go_wp2
      go_ret;exact⟨zz4,zz7⟩
    ·rw[if_neg c3]at H;exact absurd H (by simp)
   ·rw[if_neg c2]at H;have c2b0:decide (x5_1<(a0.size:Int))=false:=decide_eq_false c2;clear c2;obtain rfl:=Option.some.inj H;go_wp2
    go_ret;exact⟨zz4,zz7⟩
def impl_isTarget.f (k:Nat) (a0:ByteArray):Option (Bool):=(impl_within.f (a0.size:Int) 1 200).bind fun t187=>(if t187=true then((impl_all__impl_isVisible.f k a0).bind fun t188=>(some t188))else(some false))
theorem impl_isTarget.calls (k:Nat) (a0:ByteArray) (r:Bool) (w:World) (h:impl_isTarget.f k a0=some r):
  Calls Tryz.prog 66 #[.string a0] w fun e w'=>e= .returned (.bool r)∧Drawn0 w w':=by
 have H:((impl_within.f (a0.size:Int) 1 200).bind fun t187=>(if t187=true then((impl_all__impl_isVisible.f k a0).bind fun t188=>(some t188))else(some false)))=some r:=h;clear h;replace H:=Option.bind_eq_some_iff.mp H;obtain⟨t187,A20,H⟩:=H;(try dsimp only at H);have A2:=Aside0.mk A20;clear A20;have HC3:=Aside0.mk H;clear H;go_enter Tryz.func66,Tryz.ntmps66
 repeat' (first|(go_big_may;(first|((with_reducible refine gate_callee (f:=27) rfl ?_);refine goesR_ 5 Tryz.func27 #[.int .i64 (a0.size:Int),.int .i64 1,.int .i64 200] (impl_within.calls (a0.size:Int) 1 200 t187 _ A2.out) ?_;rintro w' ⟨nd,rfl⟩)))|go_values|go_skip|go_big_skip|go_big_want|((first|(with_reducible refine gate_nog rfl ?_)|(fail_if_success with_reducible refine gate_any ?_));go_step)|go_upon|simp only[Bool.not_true,Bool.not_false,Bool.true_and,Bool.false_and,Bool.true_or,Bool.false_or]|dsimp only)
 (try simp only[Act.put,List.setIfInBounds_toArray,List.set_cons_zero,List.set_cons_succ]);have H:=HC3.out;clear HC3
 by_cases c4:t187=true
 ·subst c4;rw[if_pos rfl]at H;replace H:=Option.bind_eq_some_iff.mp H;obtain⟨t188,A50,H⟩:=H;(try dsimp only at H);have A5:=Aside0.mk A50;clear A50;obtain rfl:=Option.some.inj H;go_wp2_with (first|(go_at_call 55;(with_reducible refine(impl_all__impl_isVisible.calls k a0 t188 _ A5.out).mono ?_);rintro e w' ⟨rfl,⟨nd,rfl⟩⟩))
  go_ret;exact⟨zz4,zz7⟩
 ·replace c4:=Bool.eq_false_iff.mpr c4;subst c4;rw[if_neg Bool.false_ne_true]at H;obtain rfl:=Option.some.inj H;go_wp2
  go_ret;exact⟨zz4,zz7⟩
def impl_isStatus.f (a0:Int):Option (Bool):=(impl_within.f a0 200 599).bind fun t189=>(some t189)
theorem impl_isStatus.calls (a0:Int) (r:Bool) (w:World) (h:impl_isStatus.f a0=some r):
  Calls Tryz.prog 67 #[.int .i64 a0] w fun e w'=>e= .returned (.bool r)∧Drawn0 w w':=by
 have H:((impl_within.f a0 200 599).bind fun t189=>(some t189))=some r:=h;clear h;replace H:=Option.bind_eq_some_iff.mp H;obtain⟨t189,A20,H⟩:=H;(try dsimp only at H);have A2:=Aside0.mk A20;clear A20;obtain rfl:=Option.some.inj H;go_enter Tryz.func67,Tryz.ntmps67
 go_wp2_with (first|((with_reducible refine gate_callee (f:=27) rfl ?_);refine goesR_ 4 Tryz.func27 #[.int .i64 a0,.int .i64 200,.int .i64 599] (impl_within.calls a0 200 599 t189 _ A2.out) ?_;rintro w' ⟨nd,rfl⟩))
 go_ret;exact⟨zz4,zz7⟩
def impl_isReason.f (k:Nat) (a0:ByteArray):Option (Bool):=if(a0.size:Int)≤40 then((impl_all__impl_isPlain.f k a0).bind fun t190=>(some t190))else(some false)
theorem impl_isReason.calls (k:Nat) (a0:ByteArray) (r:Bool) (w:World) (h:impl_isReason.f k a0=some r):
  Calls Tryz.prog 68 #[.string a0] w fun e w'=>e= .returned (.bool r)∧Drawn0 w w':=by
 have H:(if(a0.size:Int)≤40 then((impl_all__impl_isPlain.f k a0).bind fun t190=>(some t190))else(some false))=some r:=h;clear h
 by_cases c2:(a0.size:Int)≤40
 ·rw[if_pos c2]at H;have c2b0:decide ((a0.size:Int)≤40)=true:=decide_eq_true c2;have c2b1:decide (a0.size≤40)=true:=decide_eq_true (by omega);clear c2;replace H:=Option.bind_eq_some_iff.mp H;obtain⟨t190,A30,H⟩:=H;(try dsimp only at H);have A3:=Aside0.mk A30;clear A30;obtain rfl:=Option.some.inj H;go_enter Tryz.func68,Tryz.ntmps68
  go_wp2_with (first|(go_at_call 55;(with_reducible refine(impl_all__impl_isPlain.calls k a0 t190 _ A3.out).mono ?_);rintro e w' ⟨rfl,⟨nd,rfl⟩⟩))
  go_ret;exact⟨zz4,zz7⟩
 ·rw[if_neg c2]at H;have c2b0:decide ((a0.size:Int)≤40)=false:=decide_eq_false c2;have c2b1:decide (a0.size≤40)=false:=decide_eq_false (by omega);clear c2;obtain rfl:=Option.some.inj H;go_enter Tryz.func68,Tryz.ntmps68
  go_wp2
  go_ret;exact⟨zz4,zz7⟩
def impl_isBareStatus.f (a0:Int):Option (Bool):=if a0=204 then(some true)else(some (a0==304))
theorem impl_isBareStatus.calls (a0:Int) (r:Bool) (w:World) (h:impl_isBareStatus.f a0=some r):
  Calls Tryz.prog 69 #[.int .i64 a0] w fun e w'=>e= .returned (.bool r)∧Drawn0 w w':=by
 have H:(if a0=204 then(some true)else(some (a0==304)))=some r:=h;clear h
 by_cases c2:a0=204
 ·rw[if_pos c2]at H;have c2b0:(a0==204)=true:=beq_iff_eq.mpr c2;have c2b1:(a0 !=204)=false:=bne_eq_false_iff_eq.mpr c2;clear c2;obtain rfl:=Option.some.inj H;go_enter Tryz.func69,Tryz.ntmps69
  go_wp2
  go_ret;exact⟨zz4,zz7⟩
 ·rw[if_neg c2]at H;have c2b0:(a0==204)=false:=beq_eq_false_iff_ne.mpr c2;have c2b1:(a0 !=204)=true:=bne_iff_ne.mpr c2;obtain rfl:=Option.some.inj H;go_enter Tryz.func69,Tryz.ntmps69
  go_wp2
  go_ret;exact⟨zz4,zz7⟩
end Go.Proofs.YtnilblnhlpnpgaaGreatDoor.GFnTwice
