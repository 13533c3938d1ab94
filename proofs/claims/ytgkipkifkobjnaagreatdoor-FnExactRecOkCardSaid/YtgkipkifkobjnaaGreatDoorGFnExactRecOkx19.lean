-- Printed by gen.py and its programs for this claim.
import Derived.Test.YtgkipkifkobjnaaGreatDoorGFnExactRecOkx0
import Derived.Test.YtgkipkifkobjnaaGreatDoorGFnExactRecOkx17
import Derived.Test.YtgkipkifkobjnaaGreatDoorGFnExactRecOkx18
import Derived.Test.YtgkipkifkobjnaaGreatDoorZFnExactRecOk
namespace Go.Proofs.YtgkipkifkobjnaaGreatDoor.GFnExactRecOk
open Go.RowKit Go.Proofs.YtgkipkifkobjnaaGreatDoorW.PrintWords Go.Proofs.YtgkipkifkobjnaaGreatDoorW.PrintLast Go.Proofs.YtgkipkifkobjnaaGreatDoorW.PrintMore Go.Proofs.YtgkipkifkobjnaaGreatDoorW.Zs
set_option maxHeartbeats 40000000
set_option maxRecDepth 100000
attribute [local go_sem] max2_int min2_int max_two min_two max_three min_three max_four min_four
set_option linter.unusedVariables false
set_option linter.unusedSimpArgs false
mutual
def impl_unescaped.l0:Nat→ByteArray→List Int→Int→Option (ByteArray)
 |0,_,_,_=>none
 |k+1,x0,x3,x4=>if x4<(x0.size:Int)then(if 0≤x4 then(if(bt x0 x4)=37 then(if(wrap64 (x4+2))≥(x0.size:Int)then(impl_unescaped.j1 k x0 x3 x4 true)else(if 0≤(wrap64 (x4+1))then(if(wrap64 (x4+1))<(x0.size:Int)then((impl_hexOf.f k (bt x0 (wrap64 (x4+1)))).bind fun t348=>(if t348<0 then(impl_unescaped.j1 k x0 x3 x4 true)else(if 0≤(wrap64 (x4+2))then(if(wrap64 (x4+2))<(x0.size:Int)then((impl_hexOf.f k (bt x0 (wrap64 (x4+2)))).bind fun t349=>(impl_unescaped.j1 k x0 x3 x4 (decide (t349<0))))else(none))else(none))))else(none))else(none)))else(impl_unescaped.j1 k x0 x3 x4 true))else(none))else(some (strOfNums x3))
def impl_unescaped.j1:Nat→ByteArray→List Int→Int→Bool→Option (ByteArray)
 |0,_,_,_,_=>none
 |k+1,x0,x3,x4,x38=>if x38=true then(if 0≤x4 then(if x4<(x0.size:Int)then(if x3.length<140737488355328 then(impl_unescaped.l0 k x0 (x3++ [bt x0 x4]) (wrap64 (x4+1)))else(none))else(none))else(none))else(if 0≤(wrap64 (x4+1))then(if(wrap64 (x4+1))<(x0.size:Int)then((impl_hexOf.f k (bt x0 (wrap64 (x4+1)))).bind fun t353=>(if 0≤(wrap64 (x4+2))then(if(wrap64 (x4+2))<(x0.size:Int)then((impl_hexOf.f k (bt x0 (wrap64 (x4+2)))).bind fun t354=>((impl_isFree.f ((wrap64 ((wrap64 (16*t353))+t354))%256)).bind fun t355=>(if t355=true then(if x3.length<140737488355328 then(impl_unescaped.l0 k x0 (x3++ [(wrap64 ((wrap64 (16*t353))+t354))%256]) (wrap64 ((wrap64 (x4+2))+1)))else(none))else(if 0≤(((wrap64 ((wrap64 (16*t353))+t354))%256)/16)then(if(((wrap64 ((wrap64 (16*t353))+t354))%256)/16)<16 then(if 0≤(Go.bits .and .u8 ((wrap64 ((wrap64 (16*t353))+t354))%256) 15)then(if(Go.bits .and .u8 ((wrap64 ((wrap64 (16*t353))+t354))%256) 15)<16 then((some (([37,bt (⟨#[48,49,50,51,52,53,54,55,56,57,65,66,67,68,69,70]⟩:ByteArray) (((wrap64 ((wrap64 (16*t353))+t354))%256)/16),bt (⟨#[48,49,50,51,52,53,54,55,56,57,65,66,67,68,69,70]⟩:ByteArray) (Go.bits .and .u8 ((wrap64 ((wrap64 (16*t353))+t354))%256) 15)]:List Int):List Int)).bind fun y359=>(if x3.length+y359.length<140737488355328 then(impl_unescaped.l0 k x0 (x3++y359) (wrap64 ((wrap64 (x4+2))+1)))else(none)))else(none))else(none))else(none))else(none)))))else(none))else(none)))else(none))else(none))
end
def impl_unescaped.f (k:Nat) (a0:ByteArray):Option (ByteArray):=impl_unescaped.l0 k a0 ([]:List Int) 0
def impl_unescaped.T7:Bool×List (List Nat×List Nat):=(true,[([],[]),([],[]),([1],[1]),([0,2],[0,2]),([3],[3]),([4],[4]),([],[]),([],[]),([7],[7]),([6,8],[6,8]),([9,4],[9]),([5,10],[5,10]),([11],[11]),([12,10,0,1,2,3,4,5,6,7,8,9,10,11,12],[12])])
def impl_unescaped.B7:List Nat:= [0,0,2,7,15,31,0,0,128,448,991,2047,4095,8191]
theorem impl_unescaped.tab7:rtab .any (opsOf Tryz.f99 7)=impl_unescaped.T7:=by kernel_rfl
theorem impl_unescaped.bits7:waitsOk impl_unescaped.T7.2 impl_unescaped.B7=true:=by kernel_rfl
def impl_unescaped.T10:Bool×List (List Nat×List Nat):=(true,[([],[]),([],[]),([1],[1]),([2],[2]),([],[]),([4],[4]),([5],[5]),([3,6],[3,6]),([0,7],[0,7]),([8,8,0,1,2,3,4,5,6,7,8],[0,8])])
def impl_unescaped.B10:List Nat:= [0,0,2,6,0,16,48,126,255,511]
theorem impl_unescaped.tab10:rtab .any (opsOf Tryz.f99 10)=impl_unescaped.T10:=by kernel_rfl
theorem impl_unescaped.bits10:waitsOk impl_unescaped.T10.2 impl_unescaped.B10=true:=by kernel_rfl
theorem impl_unescaped.calls (k:Nat) (a0 r:ByteArray) (w:World) (h:impl_unescaped.f k a0=some r):
  Calls Tryz.prog 99 #[.string a0] w fun e w'=>e= .returned (.string r)∧Below w.heap.size w w':=by
 have hu8_: ∀x_:Int,IntKind.u8.wrap x_=x_%256:=fun _=>rfl;have HB:=Aside0.mk (Below.refl w.heap.size w);have H:(impl_unescaped.l0 k a0 ([]:List Int) 0)=some r:=h;clear h;have H':=Aside0.mk H;clear H;go_enter Tryz.func99,Tryz.ntmps99
 go_wp2
 go_loopg [3,4] k (fun kq v3 v4 w'=> ∃(x3_1:List Int) (x4_1:Int),v4= .int .i64 x4_1∧Aside0 (impl_unescaped.l0 kq a0 x3_1 x4_1=some r)∧Aside0 (kq≤k)∧Aside0 (Kd.R (Kd.int .u8) 5 w' w.heap.size (fun _=>True) v3 x3_1)∧Aside0 (Below w.heap.size w w'))
 case atStart=>exact⟨(([]:List Int)),(0),zz1,H',⟨Nat.le_refl _⟩,⟨zz21⟩,⟨zz0⟩⟩
 case round=>as_aux_lemma=>
  clear H';obtain⟨x3_1,x4_1,rfl,HA,HK1,HO_3,HB⟩:=hrel
  cases gk with
  |zero=>exact absurd HA.out (by simp[impl_unescaped.l0])
  |succ k1=>
   have H:=HA.out;clear HA;simp only[impl_unescaped.l0]at H
   by_cases c2:x4_1<(a0.size:Int)
   ·as_aux_lemma=>
    rw[if_pos c2]at H;have c2b0:decide (x4_1<(a0.size:Int))=true:=decide_eq_true c2;clear c2;have HC3:=Aside0.mk H;clear H;go_upto_region 5 with(fail)
    go_cut [38] (fun v38 wc=> ∃(kq:Nat) (x38_2:Bool),v38= .bool x38_2∧Aside0 (impl_unescaped.j1 kq a0 x3_1 x4_1 x38_2=some r)∧Aside0 (kq≤k1)∧Aside0 (Kd.R (Kd.int .u8) 5 wc w.heap.size (fun _=>True) u3 x3_1)∧Aside0 (Below w.heap.size w wc))
    case first=>
     have H:=HC3.out;clear HC3
     by_cases c4:0≤x4_1
     ·rw[if_pos c4]at H;have c4b0:decide (0≤x4_1)=true:=decide_eq_true c4;clear c4;(first|rw[c4b0]|(simp only[i64_w,i32_w];rw[c4b0])|skip);have HC6:=Aside0.mk H;clear H;have p5:0≤(x4_1:Int):=of_decide_eq_true zz3;have q5:x4_1<(a0.size:Int):=of_decide_eq_true zz3;have hx5:=bt_at a0 x4_1;replace p5:=eq_true p5;replace q5:=eq_true q5
      repeat' (first|(go_big_may;(fail))|go_values|go_skip|go_big_skip|go_big_want|((first|(with_reducible refine gate_nog rfl ?_)|(fail_if_success with_reducible refine gate_any ?_));go_step)|go_upon|simp only[Bool.not_true,Bool.not_false,Bool.true_and,Bool.false_and,Bool.true_or,Bool.false_or]|dsimp only)
      have H:=HC6.out;clear HC6
      by_cases c7:(bt a0 x4_1)=37
      ·rw[if_pos c7]at H;have c7b0:((bt a0 x4_1)==37)=true:=beq_iff_eq.mpr c7;have c7b1:((bt a0 x4_1)!=37)=false:=bne_eq_false_iff_eq.mpr c7;clear c7;(first|rw[c7b0]|(simp only[i64_w,i32_w];rw[c7b0])|rw[c7b1]|(rw[c7b2];simp only[Bool.not_true,Bool.not_false])|skip)
       by_cases c8:(wrap64 (x4_1+2))≥(a0.size:Int)
       ·rw[if_pos c8]at H;have c8b0:decide ((a0.size:Int)≤(wrap64 (x4_1+2)))=true:=decide_eq_true c8;clear c8;have H':=Aside0.mk H;clear H;go_wp2
        go_meet
        case rel=>exact⟨_,(true),zz1,H',⟨zz78⟩,⟨zz6⟩,⟨zz0⟩⟩
       ·rw[if_neg c8]at H;have c8b0:decide ((a0.size:Int)≤(wrap64 (x4_1+2)))=false:=decide_eq_false c8;clear c8;obtain⟨ji9,hji9⟩: ∃j_:Int,(wrap64 (x4_1+1))=j_:=⟨_,rfl⟩;replace H:(if 0≤(ji9)then(if(ji9)<(a0.size:Int)then((impl_hexOf.f k1 (bt a0 (ji9))).bind fun t348=>(if t348<0 then(impl_unescaped.j1 k1 a0 x3_1 x4_1 true)else(if 0≤(wrap64 (x4_1+2))then(if(wrap64 (x4_1+2))<(a0.size:Int)then((impl_hexOf.f k1 (bt a0 (wrap64 (x4_1+2)))).bind fun t349=>(impl_unescaped.j1 k1 a0 x3_1 x4_1 (decide (t349<0))))else(none))else(none))))else(none))else(none))=some r:=by first|(rw[hji9]at H;exact H)|(simp only[hji9]at H ⊢;exact H)
        have hji9w:(IntKind.i64.wrap (x4_1+1))=ji9:=(i64_w _).trans hji9
        by_cases c10:0≤(ji9)
        ·rw[if_pos c10]at H;have c10b0:decide (0≤(ji9))=true:=decide_eq_true c10;clear c10
         by_cases c11:(ji9)<(a0.size:Int)
         ·rw[if_pos c11]at H;have c11b0:decide ((ji9)<(a0.size:Int))=true:=decide_eq_true c11;clear c11;replace H:=Option.bind_eq_some_iff.mp H;obtain⟨t348,A130,H⟩:=H;(try dsimp only at H);have A13:=Aside0.mk A130;clear A130;have HC14:=Aside0.mk H;clear H;have p12:0≤((ji9):Int):=of_decide_eq_true zz3;have q12:(ji9)<(a0.size:Int):=of_decide_eq_true zz3;have hx12:=bt_at a0 (ji9);replace p12:=eq_true p12;replace q12:=eq_true q12
          repeat' (first|(go_big_may;(first|(go_at_call 116;(with_reducible refine(impl_hexOf.calls k1 (bt a0 (ji9)) t348 _ A13.out).mono ?_);rintro e w' ⟨rfl,⟨nd,rfl⟩⟩)))|go_values|go_skip|go_big_skip|go_big_want|((first|(with_reducible refine gate_nog rfl ?_)|(fail_if_success with_reducible refine gate_any ?_));go_step)|go_upon|simp only[Bool.not_true,Bool.not_false,Bool.true_and,Bool.false_and,Bool.true_or,Bool.false_or]|dsimp only)
          (try simp only[Act.put,List.setIfInBounds_toArray,List.set_cons_zero,List.set_cons_succ]);(try simp only[World.drewN_drewN]);(try(rw[drewN_self wr];generalize hq_:World.drewN wr _=wr;have n0_:Aside0 (Kd.R (Kd.int .u8) 5 wr w.heap.size (fun _=>True) u3 x3_1):=⟨by rw[←hq_];exact zz6⟩;have n1_:Aside0 (Below w.heap.size w wr):=⟨zz107⟩;clear HO_3 HB hq_;have HO_3:=n0_;have HB:=n1_;clear n0_ n1_));have H:=HC14.out;clear HC14
          by_cases c15:t348<0
          ·rw[if_pos c15]at H;have c15b0:decide (t348<0)=true:=decide_eq_true c15;clear c15;(first|rw[c15b0]|(simp only[i64_w,i32_w];rw[c15b0])|skip);have H':=Aside0.mk H;clear H;go_wp2
           go_meet
           case rel=>exact⟨_,(true),zz1,H',⟨zz78⟩,⟨zz6⟩,⟨zz0⟩⟩
          ·rw[if_neg c15]at H;have c15b0:decide (t348<0)=false:=decide_eq_false c15;clear c15;(first|rw[c15b0]|(simp only[i64_w,i32_w];rw[c15b0])|skip);obtain⟨ji16,hji16⟩: ∃j_:Int,(wrap64 (x4_1+2))=j_:=⟨_,rfl⟩;replace H:(if 0≤(ji16)then(if(ji16)<(a0.size:Int)then((impl_hexOf.f k1 (bt a0 (ji16))).bind fun t349=>(impl_unescaped.j1 k1 a0 x3_1 x4_1 (decide (t349<0))))else(none))else(none))=some r:=by first|(rw[hji16]at H;exact H)|(simp only[hji16]at H ⊢;exact H)
           (try rw[hji16]at c8b0);have hji16w:(IntKind.i64.wrap (x4_1+2))=ji16:=(i64_w _).trans hji16
           by_cases c17:0≤(ji16)
           ·rw[if_pos c17]at H;have c17b0:decide (0≤(ji16))=true:=decide_eq_true c17;clear c17
            by_cases c18:(ji16)<(a0.size:Int)
            ·rw[if_pos c18]at H;have c18b0:decide ((ji16)<(a0.size:Int))=true:=decide_eq_true c18;clear c18;replace H:=Option.bind_eq_some_iff.mp H;obtain⟨t349,A200,H⟩:=H;(try dsimp only at H);have A20:=Aside0.mk A200;clear A200;have H':=Aside0.mk H;clear H;have p19:0≤((ji16):Int):=of_decide_eq_true zz3;have q19:(ji16)<(a0.size:Int):=of_decide_eq_true zz3;have hx19:=bt_at a0 (ji16);replace p19:=eq_true p19;replace q19:=eq_true q19;go_wp2_with (first|(go_at_call 116;(with_reducible refine(impl_hexOf.calls k1 (bt a0 (ji16)) t349 _ A20.out).mono ?_);rintro e w' ⟨rfl,⟨nd,rfl⟩⟩))
             go_meet
             case rel=>exact⟨_,(decide (t349<0)),zz1,H',⟨zz78⟩,⟨zz6⟩,⟨zz0⟩⟩
            ·rw[if_neg c18]at H;exact absurd H (by simp)
           ·rw[if_neg c17]at H;exact absurd H (by simp)
         ·rw[if_neg c11]at H;exact absurd H (by simp)
        ·rw[if_neg c10]at H;exact absurd H (by simp)
      ·rw[if_neg c7]at H;have c7b0:((bt a0 x4_1)==37)=false:=beq_eq_false_iff_ne.mpr c7;have c7b1:((bt a0 x4_1)!=37)=true:=bne_iff_ne.mpr c7;(first|rw[c7b0]|(simp only[i64_w,i32_w];rw[c7b0])|rw[c7b1]|(rw[c7b2];simp only[Bool.not_true,Bool.not_false])|skip);have H':=Aside0.mk H;clear H;go_wp2
       go_meet
       case rel=>exact⟨_,(true),zz1,H',⟨zz78⟩,⟨zz6⟩,⟨zz0⟩⟩
     ·rw[if_neg c4]at H;exact absurd H (by simp)
    case rest=>as_aux_lemma=>
     clear HC3;(try clear c1);(try clear p1);(try clear q1);(try clear hx1);(try clear c2);(try clear c2b0);(try clear p2);(try clear c4);(try clear c4b0);(try clear p5);(try clear q5);(try clear hx5);(try clear p6);(try clear c7);(try clear c7b0);(try clear c7b1);(try clear c8);(try clear c8b0);(try clear c9);(try clear c10);(try clear c10b0);(try clear c11);(try clear c11b0);(try clear p12);(try clear q12);(try clear hx12);(try clear c15);(try clear c15b0);(try clear c17);(try clear c17b0);(try clear c18);(try clear c18b0);(try clear p19);(try clear q19);(try clear hx19);(try clear p12);(try clear p19);(try clear p5);(try clear q12);(try clear q19);(try clear q5);obtain⟨kq,x38_2,rfl,HA,HJ2,HO_3,HB⟩:=hcut
     cases kq with
     |zero=>exact absurd HA.out (by simp[impl_unescaped.j1])
     |succ kj2=>
      have H:=HA.out;clear HA;simp only[impl_unescaped.j1]at H
      by_cases c21:x38_2=true
      ·subst c21;rw[if_pos rfl]at H
       by_cases c22:0≤x4_1
       ·rw[if_pos c22]at H;have c22b0:decide (0≤x4_1)=true:=decide_eq_true c22;clear c22
        by_cases c23:x4_1<(a0.size:Int)
        ·rw[if_pos c23]at H;have c23b0:decide (x4_1<(a0.size:Int))=true:=decide_eq_true c23;clear c23
         by_cases c25:x3_1.length<140737488355328
         ·rw[if_pos c25]at H;have LMc25:=Aside0.mk c25;clear c25;obtain⟨y350,hy350⟩: ∃y_:List Int,y_=(x3_1++ [bt a0 x4_1]):=⟨_,rfl⟩;replace H:(impl_unescaped.l0 kj2 a0 y350 (wrap64 (x4_1+1)))=some r:=by first|(rw[hy350];with_reducible exact H)|(have H2_:=(Option.bind_some _ _).symm.trans H;rw[hy350];with_reducible exact H2_)|(have H2_:=(Option.bind_some _ _).symm.trans H;with_reducible exact H2_)|with_reducible exact H|(rw[hy350];exact H)|exact H
          have Ny350:=Aside0.mk hy350;clear hy350;have H':=Aside0.mk H;clear H;have p24:0≤(x4_1:Int):=of_decide_eq_true zz3;have q24:x4_1<(a0.size:Int):=of_decide_eq_true zz3;have hx24:=bt_at a0 x4_1;replace p24:=eq_true p24;replace q24:=eq_true q24;go_wp2_with (first|((with_reducible refine gate_builtin (b:= .append) (xs:= #[.tmp 39,.tmp 43]) rfl ?_);(try(refine gate_guard (by rfl) ?_;dsimp only));at_builtin;refine Kd.R_append (Kd.int .u8) (w0:=w) w.heap.size rfl (.tmp 39) (.tmp 43) 45 5 (.int .u8 0) 1 rfl Tryz.underlying45 info5 rfl (by decide) (by omega) u3 x3_1 (bt a0 x4_1) [.int .u8 (bt a0 x4_1)] (fun _=>True) (fun _=>False) rfl rfl ?aP (fun _ hk=>hk.elim) ?aF ?aO ?aB ?aS ?aL ?_;(case aP=>exact rfl);(case aB=>exact zz0);(case aF=>exact(fun _ _=>trivial));(case aO=>exact zz6);(case aS=>exact(below_size zz0));(case aL=>have:=LMc25.out;omega);intro v351 w26 ho hb hg hat;rw[←Ny350.out]at ho;replace HB:=Aside0.mk (hb);have HO352:=Aside0.mk (ho);clear HO_3;clear ho hb hg hat))
          go_roundg kj2
          (case measure=>have:=HK1.out;have:=HJ2.out;omega);case rel=>exact⟨(y350),(wrap64 (x4_1+1)),zz1,H',⟨zz83⟩,⟨by(with_reducible repeat(first|apply Kd.R_alloc|apply Kd.R_drewN|apply Kd.R_drew));exact HO352.out⟩,⟨zz0⟩⟩
         ·rw[if_neg c25]at H;exact absurd H (by simp)
        ·rw[if_neg c23]at H;exact absurd H (by simp)
       ·rw[if_neg c22]at H;exact absurd H (by simp)
      ·as_aux_lemma=>
       replace c21:=Bool.eq_false_iff.mpr c21;subst c21;rw[if_neg Bool.false_ne_true]at H;obtain⟨ji27,hji27⟩: ∃j_:Int,(wrap64 (x4_1+1))=j_:=⟨_,rfl⟩;replace H:(if 0≤(ji27)then(if(ji27)<(a0.size:Int)then((impl_hexOf.f kj2 (bt a0 (ji27))).bind fun t353=>(if 0≤(wrap64 (x4_1+2))then(if(wrap64 (x4_1+2))<(a0.size:Int)then((impl_hexOf.f kj2 (bt a0 (wrap64 (x4_1+2)))).bind fun t354=>((impl_isFree.f ((wrap64 ((wrap64 (16*t353))+t354))%256)).bind fun t355=>(if t355=true then(if x3_1.length<140737488355328 then(impl_unescaped.l0 kj2 a0 (x3_1++ [(wrap64 ((wrap64 (16*t353))+t354))%256]) (wrap64 ((wrap64 (x4_1+2))+1)))else(none))else(if 0≤(((wrap64 ((wrap64 (16*t353))+t354))%256)/16)then(if(((wrap64 ((wrap64 (16*t353))+t354))%256)/16)<16 then(if 0≤(Go.bits .and .u8 ((wrap64 ((wrap64 (16*t353))+t354))%256) 15)then(if(Go.bits .and .u8 ((wrap64 ((wrap64 (16*t353))+t354))%256) 15)<16 then((some (([37,bt (⟨#[48,49,50,51,52,53,54,55,56,57,65,66,67,68,69,70]⟩:ByteArray) (((wrap64 ((wrap64 (16*t353))+t354))%256)/16),bt (⟨#[48,49,50,51,52,53,54,55,56,57,65,66,67,68,69,70]⟩:ByteArray) (Go.bits .and .u8 ((wrap64 ((wrap64 (16*t353))+t354))%256) 15)]:List Int):List Int)).bind fun y359=>(if x3_1.length+y359.length<140737488355328 then(impl_unescaped.l0 kj2 a0 (x3_1++y359) (wrap64 ((wrap64 (x4_1+2))+1)))else(none)))else(none))else(none))else(none))else(none)))))else(none))else(none)))else(none))else(none))=some r:=by first|(rw[hji27]at H;exact H)|(simp only[hji27]at H ⊢;exact H)
       have hji27w:(IntKind.i64.wrap (x4_1+1))=ji27:=(i64_w _).trans hji27
       by_cases c28:0≤(ji27)
       ·as_aux_lemma=>
        rw[if_pos c28]at H;have c28b0:decide (0≤(ji27))=true:=decide_eq_true c28;clear c28
        by_cases c29:(ji27)<(a0.size:Int)
        ·as_aux_lemma=>
         rw[if_pos c29]at H;have c29b0:decide ((ji27)<(a0.size:Int))=true:=decide_eq_true c29;clear c29;replace H:=Option.bind_eq_some_iff.mp H;obtain⟨t353,A310,H⟩:=H;(try dsimp only at H);have A31:=Aside0.mk A310;clear A310;obtain⟨ji32,hji32⟩: ∃j_:Int,(wrap64 (x4_1+2))=j_:=⟨_,rfl⟩;replace H:(if 0≤(ji32)then(if(ji32)<(a0.size:Int)then((impl_hexOf.f kj2 (bt a0 (ji32))).bind fun t354=>((impl_isFree.f ((wrap64 ((wrap64 (16*t353))+t354))%256)).bind fun t355=>(if t355=true then(if x3_1.length<140737488355328 then(impl_unescaped.l0 kj2 a0 (x3_1++ [(wrap64 ((wrap64 (16*t353))+t354))%256]) (wrap64 ((ji32)+1)))else(none))else(if 0≤(((wrap64 ((wrap64 (16*t353))+t354))%256)/16)then(if(((wrap64 ((wrap64 (16*t353))+t354))%256)/16)<16 then(if 0≤(Go.bits .and .u8 ((wrap64 ((wrap64 (16*t353))+t354))%256) 15)then(if(Go.bits .and .u8 ((wrap64 ((wrap64 (16*t353))+t354))%256) 15)<16 then((some (([37,bt (⟨#[48,49,50,51,52,53,54,55,56,57,65,66,67,68,69,70]⟩:ByteArray) (((wrap64 ((wrap64 (16*t353))+t354))%256)/16),bt (⟨#[48,49,50,51,52,53,54,55,56,57,65,66,67,68,69,70]⟩:ByteArray) (Go.bits .and .u8 ((wrap64 ((wrap64 (16*t353))+t354))%256) 15)]:List Int):List Int)).bind fun y359=>(if x3_1.length+y359.length<140737488355328 then(impl_unescaped.l0 kj2 a0 (x3_1++y359) (wrap64 ((ji32)+1)))else(none)))else(none))else(none))else(none))else(none)))))else(none))else(none))=some r:=by first|(rw[hji32]at H;exact H)|(simp only[hji32]at H ⊢;exact H)
         (try rw[hji32]at A31);have hji32w:(IntKind.i64.wrap (x4_1+2))=ji32:=(i64_w _).trans hji32
         by_cases c33:0≤(ji32)
         ·as_aux_lemma=>
          rw[if_pos c33]at H;have c33b0:decide (0≤(ji32))=true:=decide_eq_true c33;clear c33
          by_cases c34:(ji32)<(a0.size:Int)
          ·as_aux_lemma=>
           rw[if_pos c34]at H;have c34b0:decide ((ji32)<(a0.size:Int))=true:=decide_eq_true c34;clear c34;replace H:=Option.bind_eq_some_iff.mp H;obtain⟨t354,A360,H⟩:=H;(try dsimp only at H);have A36:=Aside0.mk A360;clear A360;replace H:=Option.bind_eq_some_iff.mp H;obtain⟨t355,A370,H⟩:=H;(try dsimp only at H);have A37:=Aside0.mk A370;clear A370;have HC38:=Aside0.mk H;clear H;(try go_wp2);replace HO_3:=Aside0.mk (Kd.R_drew HO_3.out);replace HB:=Aside0.mk (below_drew1 HB.out);have p30:0≤((ji27):Int):=of_decide_eq_true zz3;have q30:(ji27)<(a0.size:Int):=of_decide_eq_true zz3;have hx30:=bt_at a0 (ji27);replace p30:=eq_true p30;replace q30:=eq_true q30;have p35:0≤((ji32):Int):=of_decide_eq_true zz3;have q35:(ji32)<(a0.size:Int):=of_decide_eq_true zz3;have hx35:=bt_at a0 (ji32);replace p35:=eq_true p35;replace q35:=eq_true q35;refine st_ (n:=14) (S:=fun w'=>True) (ds:= []) trivial (fun hHeld=>?_);refine with_tabW impl_unescaped.tab7 impl_unescaped.bits7 (fun HT_ HW_=>?_);generalize wc.drew=w39 at HO_3 HB hHeld ⊢;refine pz 0 45 ?_;refine pz 1 46 ?_;refine pz 2 47 ?_;refine pz 6 51 ?_;refine pz 7 52 ?_;refine pz 8 53 ?_;refine tk (i:=3) (N:=some 48) (v:=?_) (a':=?_) rfl rfl (take_ofW HT_.out HW_.out (by kernel_rfl)) (Or.inl ⟨by kernel_rfl,?_⟩) hHeld ?_ ?_;rotate_left
           ·intro w' _;go_simp;with_reducible rfl
           rotate_left
           ·simp only[Act.put,List.setIfInBounds_toArray,List.set_cons_zero,List.set_cons_succ,i64_w,i32_w];rfl
           refine tk (i:=9) (N:=some 54) (v:=?_) (a':=?_) rfl rfl (take_ofW HT_.out HW_.out (by kernel_rfl)) (Or.inl ⟨by kernel_rfl,?_⟩) hHeld ?_ ?_;rotate_left
           ·intro w' _;go_simp;with_reducible rfl
           rotate_left
           ·simp only[Act.put,List.setIfInBounds_toArray,List.set_cons_zero,List.set_cons_succ,i64_w,i32_w];rfl
           refine oz 4 49 (fun K hK=>?_);refine goes_ Tryz.func116 (by kernel_rfl) rfl #[.int .u8 (bt a0 (ji27))] (by kernel_rfl) rfl rfl (by(try simp only[List.map_toArray,List.map_cons,List.map_nil]);first|done|(simp only[hji27];rfl)|rfl|(simp only[List.length_drop,List.length_take];rfl)) ?_;(with_reducible refine(impl_hexOf.calls kj2 (bt a0 (ji27)) t353 _ A31.out).mono ?_);rintro e w' ⟨rfl,⟨nd,rfl⟩⟩;refine⟨_,rfl,?_⟩;refine hK.out _ _ trivial (fun hHeld=>?_);clear hK K;refine nz ?_;refine pz 5 50 ?_;refine oz 10 55 (fun K hK=>?_);refine goes_ Tryz.func116 (by kernel_rfl) rfl #[.int .u8 (bt a0 (ji32))] (by kernel_rfl) rfl rfl (by(try simp only[List.map_toArray,List.map_cons,List.map_nil]);first|done|(simp only[hji32];rfl)|rfl|(simp only[List.length_drop,List.length_take];rfl)) ?_;(with_reducible refine(impl_hexOf.calls kj2 (bt a0 (ji32)) t354 _ A36.out).mono ?_);rintro e w' ⟨rfl,⟨nd,rfl⟩⟩;refine⟨_,rfl,?_⟩;refine hK.out _ _ trivial (fun hHeld=>?_);clear hK K;refine nz ?_;refine pz 11 56 ?_;refine pz 12 57 ?_;refine pz 13 5 ?_;refine done_ (done_of HT_.out (by kernel_rfl)) ?_;go_upto_if 59 with(first|((with_reducible refine gate_callee (f:=117) rfl ?_);refine goesR_ 59 Tryz.func117 #[.int .u8 ((wrap64 ((wrap64 (16*t353))+t354))%256)] (impl_isFree.calls ((wrap64 ((wrap64 (16*t353))+t354))%256) t355 _ A37.out) ?_;rintro w' ⟨nd,rfl⟩))
           (try simp only[Act.put,List.setIfInBounds_toArray,List.set_cons_zero,List.set_cons_succ]);(try simp only[World.drewN_drewN]);(try(rw[drewN_self w39];generalize hq_:World.drewN w39 _=w39;have n0_:Aside0 (Kd.R (Kd.int .u8) 5 w39 w.heap.size (fun _=>True) u3 x3_1):=⟨by rw[←hq_];exact zz6⟩;have n1_:Aside0 (Below w.heap.size w w39):=⟨zz107⟩;clear HO_3 HB hq_;have HO_3:=n0_;have HB:=n1_;clear n0_ n1_));have H:=HC38.out;clear HC38
           by_cases c40:t355=true
           ·subst c40;rw[if_pos rfl]at H
            by_cases c41:x3_1.length<140737488355328
            ·rw[if_pos c41]at H;have LMc41:=Aside0.mk c41;clear c41;obtain⟨y356,hy356⟩: ∃y_:List Int,y_=(x3_1++ [(wrap64 ((wrap64 (16*t353))+t354))%256]):=⟨_,rfl⟩;replace H:(impl_unescaped.l0 kj2 a0 y356 (wrap64 ((ji32)+1)))=some r:=by first|(rw[hy356];with_reducible exact H)|(have H2_:=(Option.bind_some _ _).symm.trans H;rw[hy356];with_reducible exact H2_)|(have H2_:=(Option.bind_some _ _).symm.trans H;with_reducible exact H2_)|with_reducible exact H|(rw[hy356];exact H)|exact H
             have Ny356:=Aside0.mk hy356;clear hy356;have H':=Aside0.mk H;clear H;go_wp2_with (first|((with_reducible refine gate_builtin (b:= .append) (xs:= #[.tmp 60,.tmp 62]) rfl ?_);(try(refine gate_guard (by rfl) ?_;dsimp only));at_builtin;refine Kd.R_append (Kd.int .u8) (w0:=w) w.heap.size rfl (.tmp 60) (.tmp 62) 45 5 (.int .u8 0) 1 rfl Tryz.underlying45 info5 rfl (by decide) (by omega) u3 x3_1 ((wrap64 ((wrap64 (16*t353))+t354))%256) [.int .u8 ((wrap64 ((wrap64 (16*t353))+t354))%256)] (fun _=>True) (fun _=>False) rfl rfl ?aP (fun _ hk=>hk.elim) ?aF ?aO ?aB ?aS ?aL ?_;(case aP=>exact rfl);(case aB=>exact zz0);(case aF=>exact(fun _ _=>trivial));(case aO=>exact zz6);(case aS=>exact(below_size zz0));(case aL=>have:=LMc41.out;omega);intro v357 w42 ho hb hg hat;rw[←Ny356.out]at ho;replace HB:=Aside0.mk (hb);have HO358:=Aside0.mk (ho);clear HO_3;clear ho hb hg hat))
             go_roundg kj2
             (case measure=>have:=HK1.out;have:=HJ2.out;omega);case rel=>exact⟨(y356),(wrap64 ((ji32)+1)),(by first|rfl|(simp;done)|(simp only[←hji32]<;>(first|rfl|simp))|(simp[*];done)),H',⟨zz83⟩,⟨by(with_reducible repeat(first|apply Kd.R_alloc|apply Kd.R_drewN|apply Kd.R_drew));exact HO358.out⟩,⟨zz0⟩⟩
            ·rw[if_neg c41]at H;exact absurd H (by simp)
           ·as_aux_lemma=>
            replace c40:=Bool.eq_false_iff.mpr c40;subst c40;rw[if_neg Bool.false_ne_true]at H;obtain⟨ji43,hji43⟩: ∃j_:Int,(((wrap64 ((wrap64 (16*t353))+t354))%256)/16)=j_:=⟨_,rfl⟩;replace H:(if 0≤(ji43)then(if(ji43)<16 then(if 0≤(Go.bits .and .u8 ((wrap64 ((wrap64 (16*t353))+t354))%256) 15)then(if(Go.bits .and .u8 ((wrap64 ((wrap64 (16*t353))+t354))%256) 15)<16 then((some (([37,bt (⟨#[48,49,50,51,52,53,54,55,56,57,65,66,67,68,69,70]⟩:ByteArray) (ji43),bt (⟨#[48,49,50,51,52,53,54,55,56,57,65,66,67,68,69,70]⟩:ByteArray) (Go.bits .and .u8 ((wrap64 ((wrap64 (16*t353))+t354))%256) 15)]:List Int):List Int)).bind fun y359=>(if x3_1.length+y359.length<140737488355328 then(impl_unescaped.l0 kj2 a0 (x3_1++y359) (wrap64 ((ji32)+1)))else(none)))else(none))else(none))else(none))else(none))=some r:=by first|(rw[hji43]at H;exact H)|(simp only[hji43]at H ⊢;exact H)
            by_cases c44:0≤(ji43)
            ·rw[if_pos c44]at H;have c44b0:decide (0≤(ji43))=true:=decide_eq_true c44;clear c44;(first|rw[c44b0]|(simp only[i64_w,i32_w];rw[c44b0])|skip)
             by_cases c45:(ji43)<16
             ·rw[if_pos c45]at H;have c45b0:decide ((ji43)<16)=true:=decide_eq_true c45;clear c45;obtain⟨ji47,hji47⟩: ∃j_:Int,(Go.bits .and .u8 ((wrap64 ((wrap64 (16*t353))+t354))%256) 15)=j_:=⟨_,rfl⟩;replace H:(if 0≤(ji47)then(if(ji47)<16 then((some (([37,bt (⟨#[48,49,50,51,52,53,54,55,56,57,65,66,67,68,69,70]⟩:ByteArray) (ji43),bt (⟨#[48,49,50,51,52,53,54,55,56,57,65,66,67,68,69,70]⟩:ByteArray) (ji47)]:List Int):List Int)).bind fun y359=>(if x3_1.length+y359.length<140737488355328 then(impl_unescaped.l0 kj2 a0 (x3_1++y359) (wrap64 ((ji32)+1)))else(none)))else(none))else(none))=some r:=by first|(rw[hji47]at H;exact H)|(simp only[hji47]at H ⊢;exact H)
              by_cases c48:0≤(ji47)
              ·rw[if_pos c48]at H;have c48b0:decide (0≤(ji47))=true:=decide_eq_true c48;clear c48
               by_cases c49:(ji47)<16
               ·rw[if_pos c49]at H;have c49b0:decide ((ji47)<16)=true:=decide_eq_true c49;clear c49;obtain⟨y359,hy359⟩: ∃y_:List Int,y_=(([37,bt (⟨#[48,49,50,51,52,53,54,55,56,57,65,66,67,68,69,70]⟩:ByteArray) (ji43),bt (⟨#[48,49,50,51,52,53,54,55,56,57,65,66,67,68,69,70]⟩:ByteArray) (ji47)]:List Int)):=⟨_,rfl⟩;replace H:(if x3_1.length+y359.length<140737488355328 then(impl_unescaped.l0 kj2 a0 (x3_1++y359) (wrap64 ((ji32)+1)))else(none))=some r:=by first|(rw[hy359];with_reducible exact H)|(have H2_:=(Option.bind_some _ _).symm.trans H;rw[hy359];with_reducible exact H2_)|(have H2_:=(Option.bind_some _ _).symm.trans H;with_reducible exact H2_)|with_reducible exact H|(rw[hy359];exact H)|exact H
                have Ny359:=Aside0.mk hy359;clear hy359
                by_cases c51:x3_1.length+y359.length<140737488355328
                ·rw[if_pos c51]at H;have LMc51:=Aside0.mk c51;clear c51;obtain⟨y362,hy362⟩: ∃y_:List Int,y_=(x3_1++y359):=⟨_,rfl⟩;replace H:(impl_unescaped.l0 kj2 a0 y362 (wrap64 ((ji32)+1)))=some r:=by first|(rw[hy362];with_reducible exact H)|(have H2_:=(Option.bind_some _ _).symm.trans H;rw[hy362];with_reducible exact H2_)|(have H2_:=(Option.bind_some _ _).symm.trans H;with_reducible exact H2_)|with_reducible exact H|(rw[hy362];exact H)|exact H
                 have Ny362:=Aside0.mk hy362;clear hy362;have H':=Aside0.mk H;clear H;(try go_wp2);replace HO_3:=Aside0.mk (Kd.R_drew HO_3.out);replace HB:=Aside0.mk (below_drew1 HB.out);have p46:0≤((ji43):Int):=of_decide_eq_true zz3;have q46:(ji43)<(16:Int):=of_decide_eq_true zz3;have hx46:=bt_at (⟨#[48,49,50,51,52,53,54,55,56,57,65,66,67,68,69,70]⟩:ByteArray) (ji43);replace p46:=eq_true p46;replace q46:=eq_true q46;have p50:0≤((ji47):Int):=of_decide_eq_true zz3;have q50:(ji47)<(16:Int):=of_decide_eq_true zz3;have hx50:=bt_at (⟨#[48,49,50,51,52,53,54,55,56,57,65,66,67,68,69,70]⟩:ByteArray) (ji47);replace p50:=eq_true p50;replace q50:=eq_true q50;refine st_ (n:=10) (S:=fun w'=>True) (ds:= []) trivial (fun hHeld=>?_);refine with_tabW impl_unescaped.tab10 impl_unescaped.bits10 (fun HT_ HW_=>?_);generalize w39.drew=w52 at HO_3 HB hHeld ⊢;refine pz 0 64 ?_;refine pz 1 65 ?_;refine pz 2 66 ?_;refine pz 4 68 ?_;refine pz 5 69 ?_;refine tk (i:=3) (N:=some 67) (v:=?_) (a':=?_) rfl rfl (take_ofW HT_.out HW_.out (by kernel_rfl)) (Or.inl ⟨by kernel_rfl,?_⟩) hHeld ?_ ?_;rotate_left
                 ·intro w' _;go_simp;with_reducible rfl
                 rotate_left
                 ·simp only[Act.put,List.setIfInBounds_toArray,List.set_cons_zero,List.set_cons_succ,i64_w,i32_w];rfl
                 refine tk (i:=6) (N:=some 70) (v:=?_) (a':=?_) rfl rfl (take_ofW HT_.out HW_.out (by kernel_rfl)) (Or.inl ⟨by kernel_rfl,?_⟩) hHeld ?_ ?_;rotate_left
                 ·intro w' _;go_simp;with_reducible rfl
                 rotate_left
                 ·simp only[Act.put,List.setIfInBounds_toArray,List.set_cons_zero,List.set_cons_succ,i64_w,i32_w];rfl
                 refine oz 7 71 (fun K hK=>?_);refine Kd.R_lit_step (Kd.int .u8) _ 5 ?hg (N:=71) ?hd (xs:=([37,bt (⟨#[48,49,50,51,52,53,54,55,56,57,65,66,67,68,69,70]⟩:ByteArray) (ji43),bt (⟨#[48,49,50,51,52,53,54,55,56,57,65,66,67,68,69,70]⟩:ByteArray) (ji47)]:List Int)) (inner:= [.int .u8 37,.int .u8 (bt (⟨#[48,49,50,51,52,53,54,55,56,57,65,66,67,68,69,70]⟩:ByteArray) (ji43)),.int .u8 (bt (⟨#[48,49,50,51,52,53,54,55,56,57,65,66,67,68,69,70]⟩:ByteArray) (ji47))]) (ok:=fun _=>True) (okp:=fun _=>True) ?hr ?hp (fun _ hk=>hk) trivial (Below.refl _ _) (Nat.le_refl _) (by simp) ?_;(case hd=>rfl);(case hg=>rfl);(case hr=>first|(go_simp;done)|(go_simp;rfl));(case hp=>exact(Reps.one (show Kd.M (Kd.int .u8) _ _ _ 37 [.int .u8 37]from rfl) (Reps.one (show Kd.M (Kd.int .u8) _ _ _ (bt (⟨#[48,49,50,51,52,53,54,55,56,57,65,66,67,68,69,70]⟩:ByteArray) (ji43)) [.int .u8 (bt (⟨#[48,49,50,51,52,53,54,55,56,57,65,66,67,68,69,70]⟩:ByteArray) (ji43))]from rfl) (Reps.one (show Kd.M (Kd.int .u8) _ _ _ (bt (⟨#[48,49,50,51,52,53,54,55,56,57,65,66,67,68,69,70]⟩:ByteArray) (ji47)) [.int .u8 (bt (⟨#[48,49,50,51,52,53,54,55,56,57,65,66,67,68,69,70]⟩:ByteArray) (ji47))]from rfl) (Reps.none _ _)))));intro v360 w53 ho54 hb hg_ hnew_;clear hg_ hnew_;(first|rw[←Ny359.out]at ho54|(simp only[Int.reduceToNat]at ho54;rw[←Ny359.out]at ho54));have HO361:=Aside0.mk (Kd.R_lower (Kd.R_new' ho54 (Kd.R_lt zz6)) (below_size zz0));replace HO_3:=Aside0.mk (Kd.R_elder' zz6 (Kd.R_base ho54) hb);replace HB:=Aside0.mk (below_step zz0 hb);clear hb ho54;obtain⟨Ao56,co56,eo56⟩:=Kd.R_slice HO361.out;(first|subst eo56|(injection eo56 with f1_ f2_ f3_;have f4_:=f1_.symm;have f5_:=f3_.symm;clear f1_ f2_ f3_;subst f4_;subst f5_));refine hK.out _ _ trivial (fun hHeld=>?_);clear hK K;refine nz ?_;refine oz 8 72 (fun K hK=>?_);refine Kd.R_append_rows_step (Kd.int .u8) (w0:=w) w.heap.size (by rfl) (.tmp 64) (.tmp 71) 45 5 (.int .u8 0) 1 rfl Tryz.underlying45 info5 rfl (by decide) (by omega) u3 x3_1 y359 _ _ _ (fun k_=>some k_≠(.slice Ao56 y359.length co56:Value).ownBlock) (fun _=>False) rfl rfl ?aO ?aR (fun _ _ h=>h) (fun _ h=>h.elim) ?aF ?aB ?aS ?aL ?_;(case aR=>repeat(first|exact(Kd.R_reads' HO361.out).2.2|(with_reducible refine Kd.C_alloc ?_ _)|(with_reducible refine Kd.C_drewN ?_ _)|(with_reducible refine Kd.C_drew ?_)));(case aB=>exact zz0);(case aF=>exact(fun k_ hk=>Kd.fresh' (Kd.R_lt (by(with_reducible repeat(first|apply Kd.R_alloc|apply Kd.R_drewN|apply Kd.R_drew));exact HO361.out)) k_ hk));(case aO=>exact zz104);(case aS=>exact(below_size zz0));(case aL=>have:=LMc51.out;omega);intro v363 w55 ho hb hg hat;rw[←Ny362.out]at ho;replace HO361:=Aside0.mk (Kd.R_after (ok:=(fun _=>True)) (by(with_reducible repeat(first|apply Kd.R_alloc|apply Kd.R_drewN|apply Kd.R_drew));exact HO361.out) hg hat);replace HB:=Aside0.mk (hb);have HO364:=Aside0.mk (ho);clear HO_3;clear ho hb hg hat;refine hK.out _ _ trivial (fun hHeld=>?_);clear hK K;refine nz ?_;refine pz 9 3 ?_;refine done_ (done_of HT_.out (by kernel_rfl)) ?_;(try go_wp2);go_roundg kj2
                 (case measure=>have:=HK1.out;have:=HJ2.out;omega);case rel=>exact⟨(y362),(wrap64 ((ji32)+1)),(by first|rfl|(simp;done)|(simp only[←hji32]<;>(first|rfl|simp))|(simp[*];done)),H',⟨zz83⟩,⟨by(with_reducible repeat(first|apply Kd.R_alloc|apply Kd.R_drewN|apply Kd.R_drew));exact Kd.R_mono HO364.out (fun _ hk=>trivial)⟩,⟨zz0⟩⟩
                ·rw[if_neg c51]at H;exact absurd H (by simp)
               ·rw[if_neg c49]at H;exact absurd H (by simp)
              ·rw[if_neg c48]at H;exact absurd H (by simp)
             ·rw[if_neg c45]at H;exact absurd H (by simp)
            ·rw[if_neg c44]at H;exact absurd H (by simp)
          ·rw[if_neg c34]at H;exact absurd H (by simp)
         ·rw[if_neg c33]at H;exact absurd H (by simp)
        ·rw[if_neg c29]at H;exact absurd H (by simp)
       ·rw[if_neg c28]at H;exact absurd H (by simp)
   ·rw[if_neg c2]at H;have c2b0:decide (x4_1<(a0.size:Int))=false:=decide_eq_false c2;clear c2;obtain rfl:=Option.some.inj H;have hcv57:=own_string (P:=Tryz.prog) Tryz.underlying45 Tryz.underlying5 Tryz.underlying9 (Kd.own_of_R HO_3.out);go_wp2
    go_ret;exact⟨zz2,zz0⟩
def strings_Join.f (l0:List ByteArray) (a1:ByteArray):Option (ByteArray):=if l0.length≤1099511627776∧(Lib.join (l0.map (·.data.toList)) a1.data.toList).length≤1099511627776 then some ⟨(Lib.join (l0.map (·.data.toList)) a1.data.toList).toArray⟩else none
theorem strings_Join.calls (A0:Option Addr) (c0:Nat) (l0:List ByteArray) (a1 r:ByteArray) (w:World) (hr0:Kd.C Kd.string w A0 l0.length l0) (hc0:l0.length≤c0) (h:strings_Join.f l0 a1=some r):
  Calls Tryz.prog 100 #[.slice A0 l0.length c0,.string a1] w fun e w'=>e= .returned (.string r)∧Below w.heap.size w w':=by
 unfold strings_Join.f at h
 by_cases hs:l0.length≤1099511627776∧(Lib.join (l0.map (·.data.toList)) a1.data.toList).length≤1099511627776
 ·rw[if_pos hs]at h;obtain rfl:=Option.some.inj h
  rcases Nat.eq_zero_or_pos l0.length with h0|h0
  ·obtain rfl:=List.eq_nil_of_length_eq_zero h0;exact(Tryz.strings_Join_none A0 c0 a1 w).mono fun e w' ⟨he,hw⟩=>⟨he,hw ▸ Below.refl _ _⟩
  ·obtain⟨ad,rfl,hcell⟩:=Kd.at_string hr0 0 (by omega) (by omega);have hsp:=World.cell?_spot hcell;have hlt:=World.block_lt_of_cell? w _ hcell;obtain⟨bk,o,sp⟩:=ad;obtain rfl:sp=none:=by simpa [Addr.add]using hsp
   refine Tryz.strings_Join bk o c0 l0 a1 w (fun j x hj=>?_) (by simpa [Addr.add]using hlt) (by omega) hc0 (by omega);have hjl:j<l0.length:=(List.getElem?_eq_some_iff.1 hj).1;obtain⟨ad,had,hc⟩:=Kd.at_string hr0 (j:Int) (by omega) (by omega);obtain rfl:=Option.some.inj had
   rcases Nat.eq_zero_or_pos j with rfl|hj0
   ·simpa [Addr.add,rdOf,List.getD_eq_getElem?_getD,hj]using hc
   ·have hne:j≠0:=by omega
    simpa [Addr.add,rdOf,List.getD_eq_getElem?_getD,hj,hne]using hc
 ·rw[if_neg hs]at h;cases h
def impl_all__impl_isVisible.l0:Nat→ByteArray→Int→Option (Bool)
 |0,_,_=>none
 |k+1,x0,x5=>if x5<(x0.size:Int)then(if 0≤x5 then((impl_isVisible.f (bt x0 x5)).bind fun t365=>(if t365=true then(impl_all__impl_isVisible.l0 k x0 (wrap64 (x5+1)))else(some false)))else(none))else(some true)
def impl_all__impl_isVisible.f (k:Nat) (a0:ByteArray):Option (Bool):=impl_all__impl_isVisible.l0 k a0 0
theorem impl_all__impl_isVisible.calls (k:Nat) (a0:ByteArray) (r:Bool) (w:World) (h:impl_all__impl_isVisible.f k a0=some r):
  Calls Tryz.prog 55 #[.string a0,.func (.func 56) #[] #[]] w fun e w'=>e= .returned (.bool r)∧Drawn0 w w':=by
 have H:(impl_all__impl_isVisible.l0 k a0 0)=some r:=h;clear h;have H':=Aside0.mk H;clear H;go_enter Tryz.func55,Tryz.ntmps55
 go_wp2
 go_loopg [5] k (fun kq v5 w'=> ∃(x5_1:Int),v5= .int .i64 x5_1∧Aside0 (impl_all__impl_isVisible.l0 kq a0 x5_1=some r)∧Aside0 (kq≤k)∧Drawn0 w w')
 case atStart=>exact⟨(0),zz1,H',⟨Nat.le_refl _⟩,zz4⟩
 case round=>
  clear H';obtain⟨x5_1,rfl,HA,HK1,⟨m1,rfl⟩⟩:=hrel
  cases gk with
  |zero=>exact absurd HA.out (by simp[impl_all__impl_isVisible.l0])
  |succ k1=>
   have H:=HA.out;clear HA;simp only[impl_all__impl_isVisible.l0]at H
   by_cases c2:x5_1<(a0.size:Int)
   ·rw[if_pos c2]at H;have c2b0:decide (x5_1<(a0.size:Int))=true:=decide_eq_true c2;clear c2
    by_cases c3:0≤x5_1
    ·rw[if_pos c3]at H;have c3b0:decide (0≤x5_1)=true:=decide_eq_true c3;clear c3;replace H:=Option.bind_eq_some_iff.mp H;obtain⟨t365,A50,H⟩:=H;(try dsimp only at H);have A5:=Aside0.mk A50;clear A50;have HC6:=Aside0.mk H;clear H;have p4:0≤(x5_1:Int):=of_decide_eq_true zz3;have q4:x5_1<(a0.size:Int):=of_decide_eq_true zz3;have hx4:=bt_at a0 x5_1;replace p4:=eq_true p4;replace q4:=eq_true q4;go_upto_if 17 with(first|(go_at_call 56;(with_reducible refine(impl_isVisible.calls (bt a0 x5_1) t365 _ A5.out).mono ?_);rintro e w' ⟨rfl,⟨nd,rfl⟩⟩))
     (try simp only[Act.put,List.setIfInBounds_toArray,List.set_cons_zero,List.set_cons_succ]);have H:=HC6.out;clear HC6
     by_cases c7:t365=true
     ·subst c7;rw[if_pos rfl]at H;have H':=Aside0.mk H;clear H;go_wp2
      go_roundg k1
      (case measure=>have:=HK1.out;omega);case rel=>exact⟨(wrap64 (x5_1+1)),zz1,H',⟨zz60⟩,zz4⟩
     ·replace c7:=Bool.eq_false_iff.mpr c7;subst c7;rw[if_neg Bool.false_ne_true]at H;obtain rfl:=Option.some.inj H;go_wp2
      go_ret;exact⟨zz1,zz4⟩
    ·rw[if_neg c3]at H;exact absurd H (by simp)
   ·rw[if_neg c2]at H;have c2b0:decide (x5_1<(a0.size:Int))=false:=decide_eq_false c2;clear c2;obtain rfl:=Option.some.inj H;go_wp2
    go_ret;exact⟨zz1,zz4⟩
end Go.Proofs.YtgkipkifkobjnaaGreatDoor.GFnExactRecOk
