-- Printed by gen.py and its programs for this claim.
import Derived.Test.YteojcbbifacpnaaGreatDoorGFnExactReadLinex0
import Derived.Test.YteojcbbifacpnaaGreatDoorGFnExactReadLinex20
import Derived.Test.YteojcbbifacpnaaGreatDoorGFnExactReadLinex21
import Derived.Test.YteojcbbifacpnaaGreatDoorZFnExactReadLine
namespace Go.Proofs.YteojcbbifacpnaaGreatDoor.GFnExactReadLine
open Go.RowKit Go.Proofs.YteojcbbifacpnaaGreatDoorW.PrintWords Go.Proofs.YteojcbbifacpnaaGreatDoorW.PrintLast Go.Proofs.YteojcbbifacpnaaGreatDoorW.PrintMore Go.Proofs.YteojcbbifacpnaaGreatDoorW.Zs
set_option maxHeartbeats 40000000
set_option maxRecDepth 100000
attribute [local go_sem] zL qL xN zN qK xK xL jL
set_option linter.unusedVariables false
set_option linter.unusedSimpArgs false
def yU.f (a0:Int):Option (Bool):=(xQ.f a0).bind fun t345=>(if t345=true then(some true)else((qT.f a0).bind fun t346=>(if t346=true then(some true)else((kL.f a0).bind fun t347=>(if t347=true then(some true)else(if a0=45 then(some true)else(if a0=46 then(some true)else(if a0=95 then(some true)else(some (a0==126))))))))))
theorem yU.calls (a0:Int) (r:Bool) (w:World) (h:yU.f a0=some r):
  Calls Tryz.prog 164 #[.int .u8 a0] w fun e w'=>e= .returned (.bool r)∧wI w w':=by
 have H:((xQ.f a0).bind fun t345=>(if t345=true then(some true)else((qT.f a0).bind fun t346=>(if t346=true then(some true)else((kL.f a0).bind fun t347=>(if t347=true then(some true)else(if a0=45 then(some true)else(if a0=46 then(some true)else(if a0=95 then(some true)else(some (a0==126)))))))))))=some r:=h;clear h;replace H:=be_ H;obtain⟨t345,A20,H⟩:=H;(try dsimp only at H);have A2:=am_ A20;clear A20;have HC3:=am_ H;clear H;go_enter Tryz.func164,Tryz.ntmps164
 repeat' (first|(go_big_may;(first|((with_reducible refine zB (f:=134) rfl ?_);refine jG 4 Tryz.func134 #[.int .u8 a0] (xQ.calls a0 t345 _ A2.out) ?_;rintro w' ⟨nd,rfl⟩)))|go_values|go_skip|go_big_skip|go_big_want|((first|(with_reducible refine wE rfl ?_)|(fail_if_success with_reducible refine yE ?_));go_step)|go_upon|simp only[Bool.not_true,Bool.not_false,Bool.true_and,Bool.false_and,Bool.true_or,Bool.false_or]|dsimp only)
 (try simp only[Act.put,List.setIfInBounds_toArray,List.set_cons_zero,List.set_cons_succ]);have H:=HC3.out;clear HC3
 by_cases c4:t345=true
 ·subst c4;rw[if_pos rfl]at H;obtain rfl:=si_ H;go_wp2
  go_ret;exact⟨vB,zz4⟩
 ·replace c4:=bf_ c4;subst c4;rw[if_neg ft_]at H;replace H:=be_ H;obtain⟨t346,A50,H⟩:=H;(try dsimp only at H);have A5:=am_ A50;clear A50;have HC6:=am_ H;clear H
  repeat' (first|(go_big_may;(first|(go_at_call 141;(with_reducible refine(qT.calls a0 t346 _ A5.out).mono ?_);rintro e w' ⟨rfl,⟨nd,rfl⟩⟩)))|go_values|go_skip|go_big_skip|go_big_want|((first|(with_reducible refine wE rfl ?_)|(fail_if_success with_reducible refine yE ?_));go_step)|go_upon|simp only[Bool.not_true,Bool.not_false,Bool.true_and,Bool.false_and,Bool.true_or,Bool.false_or]|dsimp only)
  (try simp only[Act.put,List.setIfInBounds_toArray,List.set_cons_zero,List.set_cons_succ]);have H:=HC6.out;clear HC6
  by_cases c7:t346=true
  ·subst c7;rw[if_pos rfl]at H;obtain rfl:=si_ H;go_wp2
   go_ret;exact⟨vB,zz4⟩
  ·replace c7:=bf_ c7;subst c7;rw[if_neg ft_]at H;replace H:=be_ H;obtain⟨t347,A80,H⟩:=H;(try dsimp only at H);have A8:=am_ A80;clear A80;have HC9:=am_ H;clear H
   repeat' (first|(go_big_may;(first|(go_at_call 82;(with_reducible refine(kL.calls a0 t347 _ A8.out).mono ?_);rintro e w' ⟨rfl,⟨nd,rfl⟩⟩)))|go_values|go_skip|go_big_skip|go_big_want|((first|(with_reducible refine wE rfl ?_)|(fail_if_success with_reducible refine yE ?_));go_step)|go_upon|simp only[Bool.not_true,Bool.not_false,Bool.true_and,Bool.false_and,Bool.true_or,Bool.false_or]|dsimp only)
   (try simp only[Act.put,List.setIfInBounds_toArray,List.set_cons_zero,List.set_cons_succ]);have H:=HC9.out;clear HC9
   by_cases c10:t347=true
   ·subst c10;rw[if_pos rfl]at H;obtain rfl:=si_ H;go_wp2
    go_ret;exact⟨vB,zz4⟩
   ·replace c10:=bf_ c10;subst c10;rw[if_neg ft_]at H
    by_cases c11:a0=45
    ·rw[if_pos c11]at H;have c11b0:(a0==45)=true:=beq_iff_eq.mpr c11;have c11b1:(a0 !=45)=false:=bne_eq_false_iff_eq.mpr c11;clear c11;(first|rw[c11b0]|(simp only[yC,qD];rw[c11b0])|rw[c11b1]|(rw[c11b2];simp only[Bool.not_true,Bool.not_false])|skip);obtain rfl:=si_ H;go_wp2
     go_ret;exact⟨vB,zz4⟩
    ·rw[if_neg c11]at H;have c11b0:(a0==45)=false:=beq_eq_false_iff_ne.mpr c11;have c11b1:(a0 !=45)=true:=bne_iff_ne.mpr c11;(first|rw[c11b0]|(simp only[yC,qD];rw[c11b0])|rw[c11b1]|(rw[c11b2];simp only[Bool.not_true,Bool.not_false])|skip)
     by_cases c12:a0=46
     ·rw[if_pos c12]at H;have c12b0:(a0==46)=true:=beq_iff_eq.mpr c12;have c12b1:(a0 !=46)=false:=bne_eq_false_iff_eq.mpr c12;clear c12;obtain rfl:=si_ H;go_wp2
      go_ret;exact⟨vB,zz4⟩
     ·rw[if_neg c12]at H;have c12b0:(a0==46)=false:=beq_eq_false_iff_ne.mpr c12;have c12b1:(a0 !=46)=true:=bne_iff_ne.mpr c12
      by_cases c13:a0=95
      ·rw[if_pos c13]at H;have c13b0:(a0==95)=true:=beq_iff_eq.mpr c13;have c13b1:(a0 !=95)=false:=bne_eq_false_iff_eq.mpr c13;clear c13;obtain rfl:=si_ H;go_wp2
       go_ret;exact⟨vB,zz4⟩
      ·rw[if_neg c13]at H;have c13b0:(a0==95)=false:=beq_eq_false_iff_ne.mpr c13;have c13b1:(a0 !=95)=true:=bne_iff_ne.mpr c13;obtain rfl:=si_ H;go_wp2
       go_ret;exact⟨vB,zz4⟩
mutual
def yB.l0:Nat→ByteArray→List Int→Int→Option (ByteArray)
 |0,_,_,_=>none
 |k+1,x0,x3,x4=>if x4<(x0.size:Int)then(if 0≤x4 then(if(bt x0 x4)=37 then(if(wrap64 (x4+2))≥(x0.size:Int)then(yB.j1 k x0 x3 x4 true)else(if 0≤(wrap64 (x4+1))then(if(wrap64 (x4+1))<(x0.size:Int)then((vJ.f k (bt x0 (wrap64 (x4+1)))).bind fun t348=>(if t348<0 then(yB.j1 k x0 x3 x4 true)else(if 0≤(wrap64 (x4+2))then(if(wrap64 (x4+2))<(x0.size:Int)then((vJ.f k (bt x0 (wrap64 (x4+2)))).bind fun t349=>(yB.j1 k x0 x3 x4 (decide (t349<0))))else(none))else(none))))else(none))else(none)))else(yB.j1 k x0 x3 x4 true))else(none))else(some (strOfNums x3))
def yB.j1:Nat→ByteArray→List Int→Int→Bool→Option (ByteArray)
 |0,_,_,_,_=>none
 |k+1,x0,x3,x4,x38=>if x38=true then(if 0≤x4 then(if x4<(x0.size:Int)then(if x3.length<140737488355328 then(yB.l0 k x0 (x3++ [bt x0 x4]) (wrap64 (x4+1)))else(none))else(none))else(none))else(if 0≤(wrap64 (x4+1))then(if(wrap64 (x4+1))<(x0.size:Int)then((vJ.f k (bt x0 (wrap64 (x4+1)))).bind fun t353=>(if 0≤(wrap64 (x4+2))then(if(wrap64 (x4+2))<(x0.size:Int)then((vJ.f k (bt x0 (wrap64 (x4+2)))).bind fun t354=>((yU.f ((wrap64 ((wrap64 (16*t353))+t354))%256)).bind fun t355=>(if t355=true then(if x3.length<140737488355328 then(yB.l0 k x0 (x3++ [(wrap64 ((wrap64 (16*t353))+t354))%256]) (wrap64 ((wrap64 (x4+2))+1)))else(none))else(if 0≤(((wrap64 ((wrap64 (16*t353))+t354))%256)/16)then(if(((wrap64 ((wrap64 (16*t353))+t354))%256)/16)<16 then(if 0≤(Go.bits .and .u8 ((wrap64 ((wrap64 (16*t353))+t354))%256) 15)then(if(Go.bits .and .u8 ((wrap64 ((wrap64 (16*t353))+t354))%256) 15)<16 then((some (([37,bt (⟨#[48,49,50,51,52,53,54,55,56,57,65,66,67,68,69,70]⟩:ByteArray) (((wrap64 ((wrap64 (16*t353))+t354))%256)/16),bt (⟨#[48,49,50,51,52,53,54,55,56,57,65,66,67,68,69,70]⟩:ByteArray) (Go.bits .and .u8 ((wrap64 ((wrap64 (16*t353))+t354))%256) 15)]:List Int):List Int)).bind fun y359=>(if x3.length+y359.length<140737488355328 then(yB.l0 k x0 (x3++y359) (wrap64 ((wrap64 (x4+2))+1)))else(none)))else(none))else(none))else(none))else(none)))))else(none))else(none)))else(none))else(none))
end
def yB.f (k:Nat) (a0:ByteArray):Option (ByteArray):=yB.l0 k a0 ([]:List Int) 0
def yB.T7:Bool×List (List Nat×List Nat):=(true,[([],[]),([],[]),([1],[1]),([0,2],[0,2]),([3],[3]),([4],[4]),([],[]),([],[]),([7],[7]),([6,8],[6,8]),([9,4],[9]),([5,10],[5,10]),([11],[11]),([12,10,0,1,2,3,4,5,6,7,8,9,10,11,12],[12])])
def yB.B7:List Nat:= [0,0,2,7,15,31,0,0,128,448,991,2047,4095,8191]
theorem yB.tab7:kU .any (kX Tryz.f138 7)=yB.T7:=by kernel_rfl
theorem yB.bits7:kP yB.T7.2 yB.B7=true:=by kernel_rfl
def yB.T10:Bool×List (List Nat×List Nat):=(true,[([],[]),([],[]),([1],[1]),([2],[2]),([],[]),([4],[4]),([5],[5]),([3,6],[3,6]),([0,7],[0,7]),([8,8,0,1,2,3,4,5,6,7,8],[0,8])])
def yB.B10:List Nat:= [0,0,2,6,0,16,48,126,255,511]
theorem yB.tab10:kU .any (kX Tryz.f138 10)=yB.T10:=by kernel_rfl
theorem yB.bits10:kP yB.T10.2 yB.B10=true:=by kernel_rfl
theorem yB.calls (k:Nat) (a0 r:ByteArray) (w:World) (h:yB.f k a0=some r):
  Calls Tryz.prog 138 #[.string a0] w fun e w'=>e= .returned (.string r)∧Below w.heap.size w w':=by
 have hu8_: ∀x_:Int,IntKind.u8.wrap x_=x_%256:=fun _=>rfl;have HB:=am_ (Below.refl w.heap.size w);have H:(yB.l0 k a0 ([]:List Int) 0)=some r:=h;clear h;have H':=am_ H;clear H;go_enter Tryz.func138,Tryz.ntmps138
 go_wp2
 go_loopg [3,4] k (fun kq v3 v4 w'=> ∃(x3_1:List Int) (x4_1:Int),v4= .int .i64 x4_1∧wA (yB.l0 kq a0 x3_1 x4_1=some r)∧wA (kq≤k)∧wA (Kd.R (Kd.int .u8) 5 w' w.heap.size (fun _=>True) v3 x3_1)∧wA (Below w.heap.size w w'))
 case atStart=>exact⟨(([]:List Int)),(0),vB,H',⟨Nat.le_refl _⟩,⟨zz44⟩,⟨zz0⟩⟩
 case round=>
  clear H';(try clear c1);obtain⟨x3_1,x4_1,rfl,HA,HK1,HO_3,HB⟩:=hrel
  cases gk with
  |zero=>exact absurd HA.out (by simp[yB.l0])
  |succ k1=>
   have H:=HA.out;clear HA;simp only[yB.l0]at H
   by_cases c2:x4_1<(a0.size:Int)
   ·rw[if_pos c2]at H;have c2b0:=dt_ c2;clear c2;have HC3:=am_ H;clear H;go_upto_region 5 with(fail)
    go_cut [38] (fun v38 wc=> ∃(kq:Nat) (x38_2:Bool),v38= .bool x38_2∧wA (yB.j1 kq a0 x3_1 x4_1 x38_2=some r)∧wA (kq≤k1)∧wA (Kd.R (Kd.int .u8) 5 wc w.heap.size (fun _=>True) u3 x3_1)∧wA (Below w.heap.size w wc))
    case first=>
     have H:=HC3.out;clear HC3
     by_cases c4:0≤x4_1
     ·rw[if_pos c4]at H;have c4b0:=dt_ c4;clear c4;(first|rw[c4b0]|(simp only[yC,qD];rw[c4b0])|skip);have HC6:=am_ H;clear H;have p5:0≤(x4_1:Int):=od_ zz5;have q5:x4_1<(a0.size:Int):=od_ zz5;have hx5:=wP a0 x4_1;replace p5:=eq_true p5;replace q5:=eq_true q5
      repeat' (first|(go_big_may;(fail))|go_values|go_skip|go_big_skip|go_big_want|((first|(with_reducible refine wE rfl ?_)|(fail_if_success with_reducible refine yE ?_));go_step)|go_upon|simp only[Bool.not_true,Bool.not_false,Bool.true_and,Bool.false_and,Bool.true_or,Bool.false_or]|dsimp only)
      have H:=HC6.out;clear HC6
      by_cases c7:(bt a0 x4_1)=37
      ·rw[if_pos c7]at H;have c7b0:((bt a0 x4_1)==37)=true:=beq_iff_eq.mpr c7;have c7b1:((bt a0 x4_1)!=37)=false:=bne_eq_false_iff_eq.mpr c7;clear c7;(first|rw[c7b0]|(simp only[yC,qD];rw[c7b0])|rw[c7b1]|(rw[c7b2];simp only[Bool.not_true,Bool.not_false])|skip)
       by_cases c8:(wrap64 (x4_1+2))≥(a0.size:Int)
       ·rw[if_pos c8]at H;have c8b0:decide ((a0.size:Int)≤(wrap64 (x4_1+2)))=true:=dt_ c8;clear c8;have H':=am_ H;clear H;go_wp2
        go_meet
        case rel=>exact⟨_,(true),vB,H',⟨eQ0⟩,⟨xX⟩,⟨zz0⟩⟩
       ·rw[if_neg c8]at H;have c8b0:decide ((a0.size:Int)≤(wrap64 (x4_1+2)))=false:=df_ c8;clear c8;obtain⟨ji9,hji9⟩: ∃j_:Int,(wrap64 (x4_1+1))=j_:=⟨_,rfl⟩;replace H:(if 0≤(ji9)then(if(ji9)<(a0.size:Int)then((vJ.f k1 (bt a0 (ji9))).bind fun t348=>(if t348<0 then(yB.j1 k1 a0 x3_1 x4_1 true)else(if 0≤(wrap64 (x4_1+2))then(if(wrap64 (x4_1+2))<(a0.size:Int)then((vJ.f k1 (bt a0 (wrap64 (x4_1+2)))).bind fun t349=>(yB.j1 k1 a0 x3_1 x4_1 (decide (t349<0))))else(none))else(none))))else(none))else(none))=some r:=by first|(rw[hji9]at H;exact H)|(simp only[hji9]at H ⊢;exact H)
        have hji9w:(IntKind.i64.wrap (x4_1+1))=ji9:=(yC _).trans hji9
        by_cases c10:0≤(ji9)
        ·rw[if_pos c10]at H;have c10b0:=dt_ c10;clear c10
         by_cases c11:(ji9)<(a0.size:Int)
         ·rw[if_pos c11]at H;have c11b0:=dt_ c11;clear c11;replace H:=be_ H;obtain⟨t348,A130,H⟩:=H;(try dsimp only at H);have A13:=am_ A130;clear A130;have HC14:=am_ H;clear H;have p12:0≤((ji9):Int):=od_ zz5;have q12:(ji9)<(a0.size:Int):=od_ zz5;have hx12:=wP a0 (ji9);replace p12:=eq_true p12;replace q12:=eq_true q12
          repeat' (first|(go_big_may;(first|(go_at_call 163;(with_reducible refine(vJ.calls k1 (bt a0 (ji9)) t348 _ A13.out).mono ?_);rintro e w' ⟨rfl,⟨nd,rfl⟩⟩)))|go_values|go_skip|go_big_skip|go_big_want|((first|(with_reducible refine wE rfl ?_)|(fail_if_success with_reducible refine yE ?_));go_step)|go_upon|simp only[Bool.not_true,Bool.not_false,Bool.true_and,Bool.false_and,Bool.true_or,Bool.false_or]|dsimp only)
          (try simp only[Act.put,List.setIfInBounds_toArray,List.set_cons_zero,List.set_cons_succ]);(try simp only[World.drewN_drewN]);(try(rw[jJ wr];generalize hq_:World.drewN wr _=wr;have n0_:wA (Kd.R (Kd.int .u8) 5 wr w.heap.size (fun _=>True) u3 x3_1):=⟨by rw[←hq_];exact xX⟩;have n1_:wA (Below w.heap.size w wr):=⟨cQ1⟩;clear HO_3 HB hq_;have HO_3:=n0_;have HB:=n1_;clear n0_ n1_));have H:=HC14.out;clear HC14
          by_cases c15:t348<0
          ·rw[if_pos c15]at H;have c15b0:=dt_ c15;clear c15;(first|rw[c15b0]|(simp only[yC,qD];rw[c15b0])|skip);have H':=am_ H;clear H;go_wp2
           go_meet
           case rel=>exact⟨_,(true),vB,H',⟨eQ0⟩,⟨xX⟩,⟨zz0⟩⟩
          ·rw[if_neg c15]at H;have c15b0:=df_ c15;clear c15;(first|rw[c15b0]|(simp only[yC,qD];rw[c15b0])|skip);obtain⟨ji16,hji16⟩: ∃j_:Int,(wrap64 (x4_1+2))=j_:=⟨_,rfl⟩;replace H:(if 0≤(ji16)then(if(ji16)<(a0.size:Int)then((vJ.f k1 (bt a0 (ji16))).bind fun t349=>(yB.j1 k1 a0 x3_1 x4_1 (decide (t349<0))))else(none))else(none))=some r:=by first|(rw[hji16]at H;exact H)|(simp only[hji16]at H ⊢;exact H)
           (try rw[hji16]at c8b0);have hji16w:(IntKind.i64.wrap (x4_1+2))=ji16:=(yC _).trans hji16
           by_cases c17:0≤(ji16)
           ·rw[if_pos c17]at H;have c17b0:=dt_ c17;clear c17
            by_cases c18:(ji16)<(a0.size:Int)
            ·rw[if_pos c18]at H;have c18b0:=dt_ c18;clear c18;replace H:=be_ H;obtain⟨t349,A200,H⟩:=H;(try dsimp only at H);have A20:=am_ A200;clear A200;have H':=am_ H;clear H;have p19:0≤((ji16):Int):=od_ zz5;have q19:(ji16)<(a0.size:Int):=od_ zz5;have hx19:=wP a0 (ji16);replace p19:=eq_true p19;replace q19:=eq_true q19;go_wp2_with (first|(go_at_call 163;(with_reducible refine(vJ.calls k1 (bt a0 (ji16)) t349 _ A20.out).mono ?_);rintro e w' ⟨rfl,⟨nd,rfl⟩⟩))
             go_meet
             case rel=>exact⟨_,(decide (t349<0)),vB,H',⟨eQ0⟩,⟨xX⟩,⟨zz0⟩⟩
            ·rw[if_neg c18]at H;exact absurd H (by simp)
           ·rw[if_neg c17]at H;exact absurd H (by simp)
         ·rw[if_neg c11]at H;exact absurd H (by simp)
        ·rw[if_neg c10]at H;exact absurd H (by simp)
      ·rw[if_neg c7]at H;have c7b0:((bt a0 x4_1)==37)=false:=beq_eq_false_iff_ne.mpr c7;have c7b1:((bt a0 x4_1)!=37)=true:=bne_iff_ne.mpr c7;(first|rw[c7b0]|(simp only[yC,qD];rw[c7b0])|rw[c7b1]|(rw[c7b2];simp only[Bool.not_true,Bool.not_false])|skip);have H':=am_ H;clear H;go_wp2
       go_meet
       case rel=>exact⟨_,(true),vB,H',⟨eQ0⟩,⟨xX⟩,⟨zz0⟩⟩
     ·rw[if_neg c4]at H;exact absurd H (by simp)
    case rest=>
     clear HC3;(try clear c1);(try clear p1);(try clear q1);(try clear hx1);(try clear c2);(try clear c2b0);(try clear p2);(try clear c4);(try clear c4b0);(try clear p5);(try clear q5);(try clear hx5);(try clear p6);(try clear c7);(try clear c7b0);(try clear c7b1);(try clear c8);(try clear c8b0);(try clear c10);(try clear c10b0);(try clear c11);(try clear c11b0);(try clear p12);(try clear q12);(try clear hx12);(try clear c13);(try clear c15);(try clear c15b0);(try clear c17);(try clear c17b0);(try clear c18);(try clear c18b0);(try clear p19);(try clear q19);(try clear hx19);(try clear p12);(try clear p19);(try clear p5);(try clear q12);(try clear q19);(try clear q5);obtain⟨kq,x38_2,rfl,HA,HJ2,HO_3,HB⟩:=hcut
     cases kq with
     |zero=>exact absurd HA.out (by simp[yB.j1])
     |succ kj2=>
      have H:=HA.out;clear HA;simp only[yB.j1]at H
      by_cases c21:x38_2=true
      ·subst c21;rw[if_pos rfl]at H
       by_cases c22:0≤x4_1
       ·rw[if_pos c22]at H;have c22b0:=dt_ c22;clear c22
        by_cases c23:x4_1<(a0.size:Int)
        ·rw[if_pos c23]at H;have c23b0:=dt_ c23;clear c23
         by_cases c25:x3_1.length<140737488355328
         ·rw[if_pos c25]at H;have LMc25:=am_ c25;clear c25;obtain⟨y350,hy350⟩: ∃y_:List Int,y_=(x3_1++ [bt a0 x4_1]):=⟨_,rfl⟩;replace H:(yB.l0 kj2 a0 y350 (wrap64 (x4_1+1)))=some r:=by first|(rw[hy350];with_reducible exact H)|(have H2_:=(Option.bind_some _ _).symm.trans H;rw[hy350];with_reducible exact H2_)|(have H2_:=(Option.bind_some _ _).symm.trans H;with_reducible exact H2_)|with_reducible exact H|(rw[hy350];exact H)|exact H
          have Ny350:=am_ hy350;clear hy350;have H':=am_ H;clear H;have p24:0≤(x4_1:Int):=od_ zz5;have q24:x4_1<(a0.size:Int):=od_ zz5;have hx24:=wP a0 x4_1;replace p24:=eq_true p24;replace q24:=eq_true q24;go_wp2_with (first|((with_reducible refine zO (b:= .append) (xs:= #[.tmp 39,.tmp 43]) rfl ?_);(try(refine xV (by rfl) ?_;dsimp only));at_builtin;refine Kd.R_append (Kd.int .u8) (w0:=w) w.heap.size rfl (.tmp 39) (.tmp 43) 63 5 (.int .u8 0) 1 rfl Tryz.underlying63 info5 rfl (by decide) (by omega) u3 x3_1 (bt a0 x4_1) [.int .u8 (bt a0 x4_1)] (fun _=>True) (fun _=>False) rfl rfl ?aP (fun _ hk=>hk.elim) ?aF ?aO ?aB ?aS ?aL ?_;(case aP=>exact rfl);(case aB=>exact zz0);(case aF=>exact(fun _ _=>trivial));(case aO=>exact xX);(case aS=>exact(zH zz0));(case aL=>have:=LMc25.out;omega);intro v351 w26 ho hb hg hat;rw[←Ny350.out]at ho;replace HB:=am_ (hb);have HO352:=am_ (ho);clear HO_3;clear ho hb hg hat))
          go_roundg kj2
          (case measure=>have:=HK1.out;have:=HJ2.out;omega);case rel=>exact⟨(y350),(wrap64 (x4_1+1)),vB,H',⟨dY1⟩,⟨by(with_reducible repeat(first|apply Kd.R_alloc|apply Kd.R_drewN|apply Kd.R_drew));exact HO352.out⟩,⟨zz0⟩⟩
         ·rw[if_neg c25]at H;exact absurd H (by simp)
        ·rw[if_neg c23]at H;exact absurd H (by simp)
       ·rw[if_neg c22]at H;exact absurd H (by simp)
      ·replace c21:=bf_ c21;subst c21;rw[if_neg ft_]at H;obtain⟨ji27,hji27⟩: ∃j_:Int,(wrap64 (x4_1+1))=j_:=⟨_,rfl⟩;replace H:(if 0≤(ji27)then(if(ji27)<(a0.size:Int)then((vJ.f kj2 (bt a0 (ji27))).bind fun t353=>(if 0≤(wrap64 (x4_1+2))then(if(wrap64 (x4_1+2))<(a0.size:Int)then((vJ.f kj2 (bt a0 (wrap64 (x4_1+2)))).bind fun t354=>((yU.f ((wrap64 ((wrap64 (16*t353))+t354))%256)).bind fun t355=>(if t355=true then(if x3_1.length<140737488355328 then(yB.l0 kj2 a0 (x3_1++ [(wrap64 ((wrap64 (16*t353))+t354))%256]) (wrap64 ((wrap64 (x4_1+2))+1)))else(none))else(if 0≤(((wrap64 ((wrap64 (16*t353))+t354))%256)/16)then(if(((wrap64 ((wrap64 (16*t353))+t354))%256)/16)<16 then(if 0≤(Go.bits .and .u8 ((wrap64 ((wrap64 (16*t353))+t354))%256) 15)then(if(Go.bits .and .u8 ((wrap64 ((wrap64 (16*t353))+t354))%256) 15)<16 then((some (([37,bt (⟨#[48,49,50,51,52,53,54,55,56,57,65,66,67,68,69,70]⟩:ByteArray) (((wrap64 ((wrap64 (16*t353))+t354))%256)/16),bt (⟨#[48,49,50,51,52,53,54,55,56,57,65,66,67,68,69,70]⟩:ByteArray) (Go.bits .and .u8 ((wrap64 ((wrap64 (16*t353))+t354))%256) 15)]:List Int):List Int)).bind fun y359=>(if x3_1.length+y359.length<140737488355328 then(yB.l0 kj2 a0 (x3_1++y359) (wrap64 ((wrap64 (x4_1+2))+1)))else(none)))else(none))else(none))else(none))else(none)))))else(none))else(none)))else(none))else(none))=some r:=by first|(rw[hji27]at H;exact H)|(simp only[hji27]at H ⊢;exact H)
       have hji27w:(IntKind.i64.wrap (x4_1+1))=ji27:=(yC _).trans hji27
       by_cases c28:0≤(ji27)
       ·rw[if_pos c28]at H;have c28b0:=dt_ c28;clear c28
        by_cases c29:(ji27)<(a0.size:Int)
        ·rw[if_pos c29]at H;have c29b0:=dt_ c29;clear c29;replace H:=be_ H;obtain⟨t353,A310,H⟩:=H;(try dsimp only at H);have A31:=am_ A310;clear A310;obtain⟨ji32,hji32⟩: ∃j_:Int,(wrap64 (x4_1+2))=j_:=⟨_,rfl⟩;replace H:(if 0≤(ji32)then(if(ji32)<(a0.size:Int)then((vJ.f kj2 (bt a0 (ji32))).bind fun t354=>((yU.f ((wrap64 ((wrap64 (16*t353))+t354))%256)).bind fun t355=>(if t355=true then(if x3_1.length<140737488355328 then(yB.l0 kj2 a0 (x3_1++ [(wrap64 ((wrap64 (16*t353))+t354))%256]) (wrap64 ((ji32)+1)))else(none))else(if 0≤(((wrap64 ((wrap64 (16*t353))+t354))%256)/16)then(if(((wrap64 ((wrap64 (16*t353))+t354))%256)/16)<16 then(if 0≤(Go.bits .and .u8 ((wrap64 ((wrap64 (16*t353))+t354))%256) 15)then(if(Go.bits .and .u8 ((wrap64 ((wrap64 (16*t353))+t354))%256) 15)<16 then((some (([37,bt (⟨#[48,49,50,51,52,53,54,55,56,57,65,66,67,68,69,70]⟩:ByteArray) (((wrap64 ((wrap64 (16*t353))+t354))%256)/16),bt (⟨#[48,49,50,51,52,53,54,55,56,57,65,66,67,68,69,70]⟩:ByteArray) (Go.bits .and .u8 ((wrap64 ((wrap64 (16*t353))+t354))%256) 15)]:List Int):List Int)).bind fun y359=>(if x3_1.length+y359.length<140737488355328 then(yB.l0 kj2 a0 (x3_1++y359) (wrap64 ((ji32)+1)))else(none)))else(none))else(none))else(none))else(none)))))else(none))else(none))=some r:=by first|(rw[hji32]at H;exact H)|(simp only[hji32]at H ⊢;exact H)
         (try rw[hji32]at A31);have hji32w:(IntKind.i64.wrap (x4_1+2))=ji32:=(yC _).trans hji32
         by_cases c33:0≤(ji32)
         ·rw[if_pos c33]at H;have c33b0:=dt_ c33;clear c33
          by_cases c34:(ji32)<(a0.size:Int)
          ·rw[if_pos c34]at H;have c34b0:=dt_ c34;clear c34;replace H:=be_ H;obtain⟨t354,A360,H⟩:=H;(try dsimp only at H);have A36:=am_ A360;clear A360;replace H:=be_ H;obtain⟨t355,A370,H⟩:=H;(try dsimp only at H);have A37:=am_ A370;clear A370;have HC38:=am_ H;clear H;(try go_wp2);replace HO_3:=am_ (Kd.R_drew HO_3.out);replace HB:=am_ (wB HB.out);have p30:0≤((ji27):Int):=od_ zz5;have q30:(ji27)<(a0.size:Int):=od_ zz5;have hx30:=wP a0 (ji27);replace p30:=eq_true p30;replace q30:=eq_true q30;have p35:0≤((ji32):Int):=od_ zz5;have q35:(ji32)<(a0.size:Int):=od_ zz5;have hx35:=wP a0 (ji32);replace p35:=eq_true p35;replace q35:=eq_true q35;refine st_ (n:=14) (S:=fun w'=>True) (ds:= []) trivial (fun hHeld=>?_);refine vF yB.tab7 yB.bits7 (fun HT_ HW_=>?_);generalize wc.drew=w39 at HO_3 HB hHeld ⊢;refine pz 0 45 ?_;refine pz 1 46 ?_;refine pz 2 47 ?_;refine pz 6 51 ?_;refine pz 7 52 ?_;refine pz 8 53 ?_;refine tk (i:=3) (N:=some 48) (v:=?_) (a':=?_) rfl rfl (xW HT_.out HW_.out (by kernel_rfl)) (Or.inl ⟨by kernel_rfl,?_⟩) hHeld ?_ ?_;rotate_left
           ·intro w' _;go_simp;with_reducible rfl
           rotate_left
           ·simp only[Act.put,List.setIfInBounds_toArray,List.set_cons_zero,List.set_cons_succ,yC,qD];rfl
           refine tk (i:=9) (N:=some 54) (v:=?_) (a':=?_) rfl rfl (xW HT_.out HW_.out (by kernel_rfl)) (Or.inl ⟨by kernel_rfl,?_⟩) hHeld ?_ ?_;rotate_left
           ·intro w' _;go_simp;with_reducible rfl
           rotate_left
           ·simp only[Act.put,List.setIfInBounds_toArray,List.set_cons_zero,List.set_cons_succ,yC,qD];rfl
           refine oz 4 49 (fun K hK=>?_);refine dW9 Tryz.func163 (by kernel_rfl) rfl #[.int .u8 (bt a0 (ji27))] (by kernel_rfl) rfl rfl (by(try simp only[List.map_toArray,List.map_cons,List.map_nil]);first|done|(simp only[hji27];rfl)|rfl|(simp only[List.length_drop,List.length_take];rfl)) ?_;(with_reducible refine(vJ.calls kj2 (bt a0 (ji27)) t353 _ A31.out).mono ?_);rintro e w' ⟨rfl,⟨nd,rfl⟩⟩;refine⟨_,rfl,?_⟩;refine hK.out _ _ trivial (fun hHeld=>?_);clear hK K;refine nz ?_;refine pz 5 50 ?_;refine oz 10 55 (fun K hK=>?_);refine dW9 Tryz.func163 (by kernel_rfl) rfl #[.int .u8 (bt a0 (ji32))] (by kernel_rfl) rfl rfl (by(try simp only[List.map_toArray,List.map_cons,List.map_nil]);first|done|(simp only[hji32];rfl)|rfl|(simp only[List.length_drop,List.length_take];rfl)) ?_;(with_reducible refine(vJ.calls kj2 (bt a0 (ji32)) t354 _ A36.out).mono ?_);rintro e w' ⟨rfl,⟨nd,rfl⟩⟩;refine⟨_,rfl,?_⟩;refine hK.out _ _ trivial (fun hHeld=>?_);clear hK K;refine nz ?_;refine pz 11 56 ?_;refine pz 12 57 ?_;refine pz 13 5 ?_;refine qP (wJ HT_.out (by kernel_rfl)) ?_;go_upto_if 59 with(first|((with_reducible refine zB (f:=164) rfl ?_);refine jG 59 Tryz.func164 #[.int .u8 ((wrap64 ((wrap64 (16*t353))+t354))%256)] (yU.calls ((wrap64 ((wrap64 (16*t353))+t354))%256) t355 _ A37.out) ?_;rintro w' ⟨nd,rfl⟩))
           (try simp only[Act.put,List.setIfInBounds_toArray,List.set_cons_zero,List.set_cons_succ]);(try simp only[World.drewN_drewN]);(try(rw[jJ w39];generalize hq_:World.drewN w39 _=w39;have n0_:wA (Kd.R (Kd.int .u8) 5 w39 w.heap.size (fun _=>True) u3 x3_1):=⟨by rw[←hq_];exact xX⟩;have n1_:wA (Below w.heap.size w w39):=⟨cQ1⟩;clear HO_3 HB hq_;have HO_3:=n0_;have HB:=n1_;clear n0_ n1_));have H:=HC38.out;clear HC38
           by_cases c40:t355=true
           ·subst c40;rw[if_pos rfl]at H
            by_cases c41:x3_1.length<140737488355328
            ·rw[if_pos c41]at H;have LMc41:=am_ c41;clear c41;obtain⟨y356,hy356⟩: ∃y_:List Int,y_=(x3_1++ [(wrap64 ((wrap64 (16*t353))+t354))%256]):=⟨_,rfl⟩;replace H:(yB.l0 kj2 a0 y356 (wrap64 ((ji32)+1)))=some r:=by first|(rw[hy356];with_reducible exact H)|(have H2_:=(Option.bind_some _ _).symm.trans H;rw[hy356];with_reducible exact H2_)|(have H2_:=(Option.bind_some _ _).symm.trans H;with_reducible exact H2_)|with_reducible exact H|(rw[hy356];exact H)|exact H
             have Ny356:=am_ hy356;clear hy356;have H':=am_ H;clear H;go_wp2_with (first|((with_reducible refine zO (b:= .append) (xs:= #[.tmp 60,.tmp 62]) rfl ?_);(try(refine xV (by rfl) ?_;dsimp only));at_builtin;refine Kd.R_append (Kd.int .u8) (w0:=w) w.heap.size rfl (.tmp 60) (.tmp 62) 63 5 (.int .u8 0) 1 rfl Tryz.underlying63 info5 rfl (by decide) (by omega) u3 x3_1 ((wrap64 ((wrap64 (16*t353))+t354))%256) [.int .u8 ((wrap64 ((wrap64 (16*t353))+t354))%256)] (fun _=>True) (fun _=>False) rfl rfl ?aP (fun _ hk=>hk.elim) ?aF ?aO ?aB ?aS ?aL ?_;(case aP=>exact rfl);(case aB=>exact zz0);(case aF=>exact(fun _ _=>trivial));(case aO=>exact xX);(case aS=>exact(zH zz0));(case aL=>have:=LMc41.out;omega);intro v357 w42 ho hb hg hat;rw[←Ny356.out]at ho;replace HB:=am_ (hb);have HO358:=am_ (ho);clear HO_3;clear ho hb hg hat))
             go_roundg kj2
             (case measure=>have:=HK1.out;have:=HJ2.out;omega);case rel=>exact⟨(y356),(wrap64 ((ji32)+1)),(by first|rfl|(simp;done)|(simp only[←hji32]<;>(first|rfl|simp))|(simp[*];done)),H',⟨dY1⟩,⟨by(with_reducible repeat(first|apply Kd.R_alloc|apply Kd.R_drewN|apply Kd.R_drew));exact HO358.out⟩,⟨zz0⟩⟩
            ·rw[if_neg c41]at H;exact absurd H (by simp)
           ·replace c40:=bf_ c40;subst c40;rw[if_neg ft_]at H;obtain⟨ji43,hji43⟩: ∃j_:Int,(((wrap64 ((wrap64 (16*t353))+t354))%256)/16)=j_:=⟨_,rfl⟩;replace H:(if 0≤(ji43)then(if(ji43)<16 then(if 0≤(Go.bits .and .u8 ((wrap64 ((wrap64 (16*t353))+t354))%256) 15)then(if(Go.bits .and .u8 ((wrap64 ((wrap64 (16*t353))+t354))%256) 15)<16 then((some (([37,bt (⟨#[48,49,50,51,52,53,54,55,56,57,65,66,67,68,69,70]⟩:ByteArray) (ji43),bt (⟨#[48,49,50,51,52,53,54,55,56,57,65,66,67,68,69,70]⟩:ByteArray) (Go.bits .and .u8 ((wrap64 ((wrap64 (16*t353))+t354))%256) 15)]:List Int):List Int)).bind fun y359=>(if x3_1.length+y359.length<140737488355328 then(yB.l0 kj2 a0 (x3_1++y359) (wrap64 ((ji32)+1)))else(none)))else(none))else(none))else(none))else(none))=some r:=by first|(rw[hji43]at H;exact H)|(simp only[hji43]at H ⊢;exact H)
            by_cases c44:0≤(ji43)
            ·rw[if_pos c44]at H;have c44b0:=dt_ c44;clear c44;(first|rw[c44b0]|(simp only[yC,qD];rw[c44b0])|skip)
             by_cases c45:(ji43)<16
             ·rw[if_pos c45]at H;have c45b0:=dt_ c45;clear c45;obtain⟨ji47,hji47⟩: ∃j_:Int,(Go.bits .and .u8 ((wrap64 ((wrap64 (16*t353))+t354))%256) 15)=j_:=⟨_,rfl⟩;replace H:(if 0≤(ji47)then(if(ji47)<16 then((some (([37,bt (⟨#[48,49,50,51,52,53,54,55,56,57,65,66,67,68,69,70]⟩:ByteArray) (ji43),bt (⟨#[48,49,50,51,52,53,54,55,56,57,65,66,67,68,69,70]⟩:ByteArray) (ji47)]:List Int):List Int)).bind fun y359=>(if x3_1.length+y359.length<140737488355328 then(yB.l0 kj2 a0 (x3_1++y359) (wrap64 ((ji32)+1)))else(none)))else(none))else(none))=some r:=by first|(rw[hji47]at H;exact H)|(simp only[hji47]at H ⊢;exact H)
              by_cases c48:0≤(ji47)
              ·rw[if_pos c48]at H;have c48b0:=dt_ c48;clear c48
               by_cases c49:(ji47)<16
               ·rw[if_pos c49]at H;have c49b0:=dt_ c49;clear c49;obtain⟨y359,hy359⟩: ∃y_:List Int,y_=(([37,bt (⟨#[48,49,50,51,52,53,54,55,56,57,65,66,67,68,69,70]⟩:ByteArray) (ji43),bt (⟨#[48,49,50,51,52,53,54,55,56,57,65,66,67,68,69,70]⟩:ByteArray) (ji47)]:List Int)):=⟨_,rfl⟩;replace H:(if x3_1.length+y359.length<140737488355328 then(yB.l0 kj2 a0 (x3_1++y359) (wrap64 ((ji32)+1)))else(none))=some r:=by first|(rw[hy359];with_reducible exact H)|(have H2_:=(Option.bind_some _ _).symm.trans H;rw[hy359];with_reducible exact H2_)|(have H2_:=(Option.bind_some _ _).symm.trans H;with_reducible exact H2_)|with_reducible exact H|(rw[hy359];exact H)|exact H
                have Ny359:=am_ hy359;clear hy359
                by_cases c51:x3_1.length+y359.length<140737488355328
                ·rw[if_pos c51]at H;have LMc51:=am_ c51;clear c51;obtain⟨y362,hy362⟩: ∃y_:List Int,y_=(x3_1++y359):=⟨_,rfl⟩;replace H:(yB.l0 kj2 a0 y362 (wrap64 ((ji32)+1)))=some r:=by first|(rw[hy362];with_reducible exact H)|(have H2_:=(Option.bind_some _ _).symm.trans H;rw[hy362];with_reducible exact H2_)|(have H2_:=(Option.bind_some _ _).symm.trans H;with_reducible exact H2_)|with_reducible exact H|(rw[hy362];exact H)|exact H
                 have Ny362:=am_ hy362;clear hy362;have H':=am_ H;clear H;(try go_wp2);replace HO_3:=am_ (Kd.R_drew HO_3.out);replace HB:=am_ (wB HB.out);have p46:0≤((ji43):Int):=od_ zz5;have q46:(ji43)<(16:Int):=od_ zz5;have hx46:=wP (⟨#[48,49,50,51,52,53,54,55,56,57,65,66,67,68,69,70]⟩:ByteArray) (ji43);replace p46:=eq_true p46;replace q46:=eq_true q46;have p50:0≤((ji47):Int):=od_ zz5;have q50:(ji47)<(16:Int):=od_ zz5;have hx50:=wP (⟨#[48,49,50,51,52,53,54,55,56,57,65,66,67,68,69,70]⟩:ByteArray) (ji47);replace p50:=eq_true p50;replace q50:=eq_true q50;refine st_ (n:=10) (S:=fun w'=>True) (ds:= []) trivial (fun hHeld=>?_);refine vF yB.tab10 yB.bits10 (fun HT_ HW_=>?_);generalize w39.drew=w52 at HO_3 HB hHeld ⊢;refine pz 0 64 ?_;refine pz 1 65 ?_;refine pz 2 66 ?_;refine pz 4 68 ?_;refine pz 5 69 ?_;refine tk (i:=3) (N:=some 67) (v:=?_) (a':=?_) rfl rfl (xW HT_.out HW_.out (by kernel_rfl)) (Or.inl ⟨by kernel_rfl,?_⟩) hHeld ?_ ?_;rotate_left
                 ·intro w' _;go_simp;with_reducible rfl
                 rotate_left
                 ·simp only[Act.put,List.setIfInBounds_toArray,List.set_cons_zero,List.set_cons_succ,yC,qD];rfl
                 refine tk (i:=6) (N:=some 70) (v:=?_) (a':=?_) rfl rfl (xW HT_.out HW_.out (by kernel_rfl)) (Or.inl ⟨by kernel_rfl,?_⟩) hHeld ?_ ?_;rotate_left
                 ·intro w' _;go_simp;with_reducible rfl
                 rotate_left
                 ·simp only[Act.put,List.setIfInBounds_toArray,List.set_cons_zero,List.set_cons_succ,yC,qD];rfl
                 refine oz 7 71 (fun K hK=>?_);refine Kd.R_lit_step (Kd.int .u8) _ 5 ?hg (N:=71) ?hd (xs:=([37,bt (⟨#[48,49,50,51,52,53,54,55,56,57,65,66,67,68,69,70]⟩:ByteArray) (ji43),bt (⟨#[48,49,50,51,52,53,54,55,56,57,65,66,67,68,69,70]⟩:ByteArray) (ji47)]:List Int)) (inner:= [.int .u8 37,.int .u8 (bt (⟨#[48,49,50,51,52,53,54,55,56,57,65,66,67,68,69,70]⟩:ByteArray) (ji43)),.int .u8 (bt (⟨#[48,49,50,51,52,53,54,55,56,57,65,66,67,68,69,70]⟩:ByteArray) (ji47))]) (ok:=fun _=>True) (okp:=fun _=>True) ?hr ?hp (fun _ hk=>hk) trivial (Below.refl _ _) (Nat.le_refl _) (by simp) ?_;(case hd=>rfl);(case hg=>rfl);(case hr=>first|(go_simp;done)|(go_simp;rfl));(case hp=>exact(qM.one (show Kd.M (Kd.int .u8) _ _ _ 37 [.int .u8 37]from rfl) (qM.one (show Kd.M (Kd.int .u8) _ _ _ (bt (⟨#[48,49,50,51,52,53,54,55,56,57,65,66,67,68,69,70]⟩:ByteArray) (ji43)) [.int .u8 (bt (⟨#[48,49,50,51,52,53,54,55,56,57,65,66,67,68,69,70]⟩:ByteArray) (ji43))]from rfl) (qM.one (show Kd.M (Kd.int .u8) _ _ _ (bt (⟨#[48,49,50,51,52,53,54,55,56,57,65,66,67,68,69,70]⟩:ByteArray) (ji47)) [.int .u8 (bt (⟨#[48,49,50,51,52,53,54,55,56,57,65,66,67,68,69,70]⟩:ByteArray) (ji47))]from rfl) (qM.none _ _)))));intro v360 w53 ho54 hb hg_ hnew_;clear hg_ hnew_;(first|rw[←Ny359.out]at ho54|(simp only[Int.reduceToNat]at ho54;rw[←Ny359.out]at ho54));have HO361:=am_ (Kd.R_lower (Kd.R_new' ho54 (Kd.R_lt xX)) (zH zz0));replace HO_3:=am_ (Kd.R_elder' xX (Kd.R_base ho54) hb);replace HB:=am_ (kA zz0 hb);clear hb ho54;obtain⟨Ao56,co56,eo56⟩:=Kd.R_slice HO361.out;(first|subst eo56|(injection eo56 with f1_ f2_ f3_;have f4_:=f1_.symm;have f5_:=f3_.symm;clear f1_ f2_ f3_;subst f4_;subst f5_));refine hK.out _ _ trivial (fun hHeld=>?_);clear hK K;refine nz ?_;refine oz 8 72 (fun K hK=>?_);refine Kd.R_append_rows_step (Kd.int .u8) (w0:=w) w.heap.size (by rfl) (.tmp 64) (.tmp 71) 63 5 (.int .u8 0) 1 rfl Tryz.underlying63 info5 rfl (by decide) (by omega) u3 x3_1 y359 _ _ _ (fun k_=>some k_≠(.slice Ao56 y359.length co56:Value).ownBlock) (fun _=>False) rfl rfl ?aO ?aR (fun _ _ h=>h) (fun _ h=>h.elim) ?aF ?aB ?aS ?aL ?_;(case aR=>repeat(first|exact(Kd.R_reads' HO361.out).2.2|(with_reducible refine Kd.C_alloc ?_ _)|(with_reducible refine Kd.C_drewN ?_ _)|(with_reducible refine Kd.C_drew ?_)));(case aB=>exact zz0);(case aF=>exact(fun k_ hk=>Kd.fresh' (Kd.R_lt (by(with_reducible repeat(first|apply Kd.R_alloc|apply Kd.R_drewN|apply Kd.R_drew));exact HO361.out)) k_ hk));(case aO=>exact zz117);(case aS=>exact(zH zz0));(case aL=>have:=LMc51.out;omega);intro v363 w55 ho hb hg hat;rw[←Ny362.out]at ho;replace HO361:=am_ (Kd.R_after (ok:=(fun _=>True)) (by(with_reducible repeat(first|apply Kd.R_alloc|apply Kd.R_drewN|apply Kd.R_drew));exact HO361.out) hg hat);replace HB:=am_ (hb);have HO364:=am_ (ho);clear HO_3;clear ho hb hg hat;refine hK.out _ _ trivial (fun hHeld=>?_);clear hK K;refine nz ?_;refine pz 9 3 ?_;refine qP (wJ HT_.out (by kernel_rfl)) ?_;(try go_wp2);go_roundg kj2
                 (case measure=>have:=HK1.out;have:=HJ2.out;omega);case rel=>exact⟨(y362),(wrap64 ((ji32)+1)),(by first|rfl|(simp;done)|(simp only[←hji32]<;>(first|rfl|simp))|(simp[*];done)),H',⟨dY1⟩,⟨by(with_reducible repeat(first|apply Kd.R_alloc|apply Kd.R_drewN|apply Kd.R_drew));exact Kd.R_mono HO364.out (fun _ hk=>trivial)⟩,⟨zz0⟩⟩
                ·rw[if_neg c51]at H;exact absurd H (by simp)
               ·rw[if_neg c49]at H;exact absurd H (by simp)
              ·rw[if_neg c48]at H;exact absurd H (by simp)
             ·rw[if_neg c45]at H;exact absurd H (by simp)
            ·rw[if_neg c44]at H;exact absurd H (by simp)
          ·rw[if_neg c34]at H;exact absurd H (by simp)
         ·rw[if_neg c33]at H;exact absurd H (by simp)
        ·rw[if_neg c29]at H;exact absurd H (by simp)
       ·rw[if_neg c28]at H;exact absurd H (by simp)
   ·rw[if_neg c2]at H;have c2b0:=df_ c2;clear c2;obtain rfl:=si_ H;have hcv57:=kS (P:=Tryz.prog) Tryz.underlying63 Tryz.underlying5 Tryz.underlying9 (Kd.own_of_R HO_3.out);go_wp2
    go_ret;exact⟨zz1,zz0⟩
end Go.Proofs.YteojcbbifacpnaaGreatDoor.GFnExactReadLine
