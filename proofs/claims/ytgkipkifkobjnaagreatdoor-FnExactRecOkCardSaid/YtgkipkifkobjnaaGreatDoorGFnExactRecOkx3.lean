-- Printed by gen.py and its programs for this claim.
import Derived.Test.YtgkipkifkobjnaaGreatDoorGFnExactRecOkx0
import Derived.Test.YtgkipkifkobjnaaGreatDoorGFnExactRecOkx2
import Derived.Test.YtgkipkifkobjnaaGreatDoorZFnExactRecOk
namespace Go.Proofs.YtgkipkifkobjnaaGreatDoor.GFnExactRecOk
open Go.RowKit Go.Proofs.YtgkipkifkobjnaaGreatDoorW.PrintWords Go.Proofs.YtgkipkifkobjnaaGreatDoorW.PrintLast Go.Proofs.YtgkipkifkobjnaaGreatDoorW.PrintMore Go.Proofs.YtgkipkifkobjnaaGreatDoorW.Zs
set_option maxHeartbeats 40000000
set_option maxRecDepth 100000
attribute [local go_sem] max2_int min2_int max_two min_two max_three min_three max_four min_four
set_option linter.unusedVariables false
set_option linter.unusedSimpArgs false
def spec_l7upper.f (a0:Int):Option (Int):=if a0≥97 then(if a0≤122 then(some ((a0-32)%256))else(some a0))else(some a0)
theorem spec_l7upper.calls (a0 r:Int) (w:World) (h:spec_l7upper.f a0=some r):
  Calls Tryz.prog 110 #[.int .u8 a0] w fun e w'=>e= .returned (.int .u8 r)∧Drawn0 w w':=by
 have H:(if a0≥97 then(if a0≤122 then(some ((a0-32)%256))else(some a0))else(some a0))=some r:=h;clear h
 by_cases c2:a0≥97
 ·rw[if_pos c2]at H;have c2b0:decide (97≤a0)=true:=decide_eq_true c2;clear c2
  by_cases c3:a0≤122
  ·rw[if_pos c3]at H;have c3b0:decide (a0≤122)=true:=decide_eq_true c3;clear c3;obtain rfl:=Option.some.inj H;go_enter Tryz.func110,Tryz.ntmps110
   go_wp2
   go_ret;exact⟨zz1,zz4⟩
  ·rw[if_neg c3]at H;have c3b0:decide (a0≤122)=false:=decide_eq_false c3;clear c3;obtain rfl:=Option.some.inj H;go_enter Tryz.func110,Tryz.ntmps110
   go_wp2
   go_ret;exact⟨zz1,zz4⟩
 ·rw[if_neg c2]at H;have c2b0:decide (97≤a0)=false:=decide_eq_false c2;clear c2;obtain rfl:=Option.some.inj H;go_enter Tryz.func110,Tryz.ntmps110
  go_wp2
  go_ret;exact⟨zz1,zz4⟩
mutual
def spec_l7percent.l0:Nat→ByteArray→List Int→Int→Option (ByteArray)
 |0,_,_,_=>none
 |k+1,x0,x3,x4=>if x4<(x0.size:Int)then(if 0≤x4 then(if(bt x0 x4)=37 then(spec_l7percent.j1 k x0 x3 x4 (decide ((wrap64 (x4+2))≥(x0.size:Int))))else(spec_l7percent.j1 k x0 x3 x4 true))else(none))else(some (strOfNums x3))
def spec_l7percent.j1:Nat→ByteArray→List Int→Int→Bool→Option (ByteArray)
 |0,_,_,_,_=>none
 |k+1,x0,x3,x4,x23=>if x23=true then(if 0≤x4 then(if x4<(x0.size:Int)then(if x3.length<140737488355328 then(spec_l7percent.l0 k x0 (x3++ [bt x0 x4]) (wrap64 (x4+1)))else(none))else(none))else(none))else(if 0≤(wrap64 (x4+1))then(if(wrap64 (x4+1))≤(wrap64 (x4+3))then(if(wrap64 (x4+3))≤(x0.size:Int)then((spec_ReadHex.f k (x0.extract ((wrap64 (x4+1)):Int).toNat ((wrap64 (x4+3)):Int).toNat)).bind fun bt127=>(if bt127.2=true then((spec_l7free.f k ((bt127.1)%256)).bind fun t129=>(if t129=true then(if x3.length<140737488355328 then(spec_l7percent.l0 k x0 (x3++ [(bt127.1)%256]) (wrap64 ((wrap64 (x4+2))+1)))else(none))else(if(wrap64 (x4+1))<(x0.size:Int)then((spec_l7upper.f (bt x0 (wrap64 (x4+1)))).bind fun t133=>(if 0≤(wrap64 (x4+2))then(if(wrap64 (x4+2))<(x0.size:Int)then((spec_l7upper.f (bt x0 (wrap64 (x4+2)))).bind fun t134=>((some (([37,t133,t134]:List Int):List Int)).bind fun y135=>(if x3.length+y135.length<140737488355328 then(spec_l7percent.l0 k x0 (x3++y135) (wrap64 ((wrap64 (x4+2))+1)))else(none))))else(none))else(none)))else(none))))else(if 0≤x4 then(if x4<(x0.size:Int)then(if x3.length<140737488355328 then(spec_l7percent.l0 k x0 (x3++ [bt x0 x4]) (wrap64 (x4+1)))else(none))else(none))else(none))))else(none))else(none))else(none))
end
def spec_l7percent.f (k:Nat) (a0:ByteArray):Option (ByteArray):=spec_l7percent.l0 k a0 ([]:List Int) 0
def spec_l7percent.T8:Bool×List (List Nat×List Nat):=(true,[([],[]),([],[]),([],[]),([2],[2]),([1,3],[1,3]),([4],[4]),([],[]),([],[]),([7],[7]),([6,8],[6,8]),([9,5],[9]),([5,10],[5,10]),([0,11,10],[0,11]),([12,12,0,1,2,3,4,5,6,7,8,9,10,11,12],[0,12])])
def spec_l7percent.B8:List Nat:= [0,0,0,4,14,30,0,0,128,448,1022,2046,4095,8191]
theorem spec_l7percent.tab8:rtab .any (opsOf Tryz.f79 8)=spec_l7percent.T8:=by kernel_rfl
theorem spec_l7percent.bits8:waitsOk spec_l7percent.T8.2 spec_l7percent.B8=true:=by kernel_rfl
theorem spec_l7percent.calls (k:Nat) (a0 r:ByteArray) (w:World) (h:spec_l7percent.f k a0=some r):
  Calls Tryz.prog 79 #[.string a0] w fun e w'=>e= .returned (.string r)∧Below w.heap.size w w':=by
 have HB:=Aside0.mk (Below.refl w.heap.size w);have H:(spec_l7percent.l0 k a0 ([]:List Int) 0)=some r:=h;clear h;have H':=Aside0.mk H;clear H;go_enter Tryz.func79,Tryz.ntmps79
 go_wp2
 go_loopg [3,4] k (fun kq v3 v4 w'=> ∃(x3_1:List Int) (x4_1:Int),v4= .int .i64 x4_1∧Aside0 (spec_l7percent.l0 kq a0 x3_1 x4_1=some r)∧Aside0 (kq≤k)∧Aside0 (Kd.R (Kd.int .u8) 5 w' w.heap.size (fun _=>True) v3 x3_1)∧Aside0 (Below w.heap.size w w'))
 case atStart=>exact⟨(([]:List Int)),(0),zz1,H',⟨Nat.le_refl _⟩,⟨zz21⟩,⟨zz0⟩⟩
 case round=>as_aux_lemma=>
  clear H';obtain⟨x3_1,x4_1,rfl,HA,HK1,HO_3,HB⟩:=hrel
  cases gk with
  |zero=>exact absurd HA.out (by simp[spec_l7percent.l0])
  |succ k1=>
   have H:=HA.out;clear HA;simp only[spec_l7percent.l0]at H
   by_cases c2:x4_1<(a0.size:Int)
   ·as_aux_lemma=>
    rw[if_pos c2]at H;have c2b0:decide (x4_1<(a0.size:Int))=true:=decide_eq_true c2;clear c2;have HC3:=Aside0.mk H;clear H;go_upto_region 5 with(fail)
    go_cut [23] (fun v23 wc=> ∃(kq:Nat) (x23_2:Bool),v23= .bool x23_2∧Aside0 (spec_l7percent.j1 kq a0 x3_1 x4_1 x23_2=some r)∧Aside0 (kq≤k1)∧Aside0 (Kd.R (Kd.int .u8) 5 wc w.heap.size (fun _=>True) u3 x3_1)∧Aside0 (Below w.heap.size w wc))
    case first=>
     have H:=HC3.out;clear HC3
     by_cases c4:0≤x4_1
     ·rw[if_pos c4]at H;have c4b0:decide (0≤x4_1)=true:=decide_eq_true c4;clear c4;(first|rw[c4b0]|(simp only[i64_w,i32_w];rw[c4b0])|skip);have HC6:=Aside0.mk H;clear H;have p5:0≤(x4_1:Int):=of_decide_eq_true zz3;have q5:x4_1<(a0.size:Int):=of_decide_eq_true zz3;have hx5:=bt_at a0 x4_1;replace p5:=eq_true p5;replace q5:=eq_true q5
      repeat' (first|(go_big_may;(fail))|go_values|go_skip|go_big_skip|go_big_want|((first|(with_reducible refine gate_nog rfl ?_)|(fail_if_success with_reducible refine gate_any ?_));go_step)|go_upon|simp only[Bool.not_true,Bool.not_false,Bool.true_and,Bool.false_and,Bool.true_or,Bool.false_or]|dsimp only)
      have H:=HC6.out;clear HC6
      by_cases c7:(bt a0 x4_1)=37
      ·rw[if_pos c7]at H;have c7b0:((bt a0 x4_1)==37)=true:=beq_iff_eq.mpr c7;have c7b1:((bt a0 x4_1)!=37)=false:=bne_eq_false_iff_eq.mpr c7;clear c7;(first|rw[c7b0]|(simp only[i64_w,i32_w];rw[c7b0])|rw[c7b1]|(rw[c7b2];simp only[Bool.not_true,Bool.not_false])|skip);have H':=Aside0.mk H;clear H;go_wp2
       go_meet
       case rel=>exact⟨_,(decide ((wrap64 (x4_1+2))≥(a0.size:Int))),zz1,H',⟨zz78⟩,⟨zz6⟩,⟨zz0⟩⟩
      ·rw[if_neg c7]at H;have c7b0:((bt a0 x4_1)==37)=false:=beq_eq_false_iff_ne.mpr c7;have c7b1:((bt a0 x4_1)!=37)=true:=bne_iff_ne.mpr c7;(first|rw[c7b0]|(simp only[i64_w,i32_w];rw[c7b0])|rw[c7b1]|(rw[c7b2];simp only[Bool.not_true,Bool.not_false])|skip);have H':=Aside0.mk H;clear H;go_wp2
       go_meet
       case rel=>exact⟨_,(true),zz1,H',⟨zz78⟩,⟨zz6⟩,⟨zz0⟩⟩
     ·rw[if_neg c4]at H;exact absurd H (by simp)
    case rest=>as_aux_lemma=>
     clear HC3;(try clear c2);(try clear c2b0);(try clear p2);(try clear c4);(try clear c4b0);(try clear p5);(try clear q5);(try clear hx5);(try clear p6);(try clear c7);(try clear c7b0);(try clear c7b1);(try clear p5);(try clear q5);obtain⟨kq,x23_2,rfl,HA,HJ2,HO_3,HB⟩:=hcut
     cases kq with
     |zero=>exact absurd HA.out (by simp[spec_l7percent.j1])
     |succ kj2=>
      have H:=HA.out;clear HA;simp only[spec_l7percent.j1]at H
      by_cases c8:x23_2=true
      ·subst c8;rw[if_pos rfl]at H
       by_cases c9:0≤x4_1
       ·rw[if_pos c9]at H;have c9b0:decide (0≤x4_1)=true:=decide_eq_true c9;clear c9
        by_cases c10:x4_1<(a0.size:Int)
        ·rw[if_pos c10]at H;have c10b0:decide (x4_1<(a0.size:Int))=true:=decide_eq_true c10;clear c10
         by_cases c12:x3_1.length<140737488355328
         ·rw[if_pos c12]at H;have LMc12:=Aside0.mk c12;clear c12;obtain⟨y124,hy124⟩: ∃y_:List Int,y_=(x3_1++ [bt a0 x4_1]):=⟨_,rfl⟩;replace H:(spec_l7percent.l0 kj2 a0 y124 (wrap64 (x4_1+1)))=some r:=by first|(rw[hy124];with_reducible exact H)|(have H2_:=(Option.bind_some _ _).symm.trans H;rw[hy124];with_reducible exact H2_)|(have H2_:=(Option.bind_some _ _).symm.trans H;with_reducible exact H2_)|with_reducible exact H|(rw[hy124];exact H)|exact H
          have Ny124:=Aside0.mk hy124;clear hy124;have H':=Aside0.mk H;clear H;have p11:0≤(x4_1:Int):=of_decide_eq_true zz3;have q11:x4_1<(a0.size:Int):=of_decide_eq_true zz3;have hx11:=bt_at a0 x4_1;replace p11:=eq_true p11;replace q11:=eq_true q11;go_wp2_with (first|((with_reducible refine gate_builtin (b:= .append) (xs:= #[.tmp 24,.tmp 28]) rfl ?_);(try(refine gate_guard (by rfl) ?_;dsimp only));at_builtin;refine Kd.R_append (Kd.int .u8) (w0:=w) w.heap.size rfl (.tmp 24) (.tmp 28) 45 5 (.int .u8 0) 1 rfl Tryz.underlying45 info5 rfl (by decide) (by omega) u3 x3_1 (bt a0 x4_1) [.int .u8 (bt a0 x4_1)] (fun _=>True) (fun _=>False) rfl rfl ?aP (fun _ hk=>hk.elim) ?aF ?aO ?aB ?aS ?aL ?_;(case aP=>exact rfl);(case aB=>exact zz0);(case aF=>exact(fun _ _=>trivial));(case aO=>exact zz6);(case aS=>exact(below_size zz0));(case aL=>have:=LMc12.out;omega);intro v125 w13 ho hb hg hat;rw[←Ny124.out]at ho;replace HB:=Aside0.mk (hb);have HO126:=Aside0.mk (ho);clear HO_3;clear ho hb hg hat))
          go_roundg kj2
          (case measure=>have:=HK1.out;have:=HJ2.out;omega);case rel=>exact⟨(y124),(wrap64 (x4_1+1)),zz1,H',⟨zz83⟩,⟨by(with_reducible repeat(first|apply Kd.R_alloc|apply Kd.R_drewN|apply Kd.R_drew));exact HO126.out⟩,⟨zz0⟩⟩
         ·rw[if_neg c12]at H;exact absurd H (by simp)
        ·rw[if_neg c10]at H;exact absurd H (by simp)
       ·rw[if_neg c9]at H;exact absurd H (by simp)
      ·as_aux_lemma=>
       replace c8:=Bool.eq_false_iff.mpr c8;subst c8;rw[if_neg Bool.false_ne_true]at H;obtain⟨ji14,hji14⟩: ∃j_:Int,(wrap64 (x4_1+1))=j_:=⟨_,rfl⟩;replace H:(if 0≤(ji14)then(if(ji14)≤(wrap64 (x4_1+3))then(if(wrap64 (x4_1+3))≤(a0.size:Int)then((spec_ReadHex.f kj2 (a0.extract ((ji14):Int).toNat ((wrap64 (x4_1+3)):Int).toNat)).bind fun bt127=>(if bt127.2=true then((spec_l7free.f kj2 ((bt127.1)%256)).bind fun t129=>(if t129=true then(if x3_1.length<140737488355328 then(spec_l7percent.l0 kj2 a0 (x3_1++ [(bt127.1)%256]) (wrap64 ((wrap64 (x4_1+2))+1)))else(none))else(if(ji14)<(a0.size:Int)then((spec_l7upper.f (bt a0 (ji14))).bind fun t133=>(if 0≤(wrap64 (x4_1+2))then(if(wrap64 (x4_1+2))<(a0.size:Int)then((spec_l7upper.f (bt a0 (wrap64 (x4_1+2)))).bind fun t134=>((some (([37,t133,t134]:List Int):List Int)).bind fun y135=>(if x3_1.length+y135.length<140737488355328 then(spec_l7percent.l0 kj2 a0 (x3_1++y135) (wrap64 ((wrap64 (x4_1+2))+1)))else(none))))else(none))else(none)))else(none))))else(if 0≤x4_1 then(if x4_1<(a0.size:Int)then(if x3_1.length<140737488355328 then(spec_l7percent.l0 kj2 a0 (x3_1++ [bt a0 x4_1]) ji14)else(none))else(none))else(none))))else(none))else(none))else(none))=some r:=by first|(rw[hji14]at H;exact H)|(simp only[hji14]at H ⊢;exact H)
       have hji14w:(IntKind.i64.wrap (x4_1+1))=ji14:=(i64_w _).trans hji14
       by_cases c15:0≤(ji14)
       ·as_aux_lemma=>
        rw[if_pos c15]at H;have c15b0:=eq_true c15;have c15b1:decide (0≤(ji14))=true:=decide_eq_true c15;clear c15
        by_cases c16:(ji14)≤(wrap64 (x4_1+3))
        ·as_aux_lemma=>
         rw[if_pos c16]at H;have c16b0:=eq_true c16;have c16b1:decide ((ji14)≤(wrap64 (x4_1+3)))=true:=decide_eq_true c16
         by_cases c17:(wrap64 (x4_1+3))≤(a0.size:Int)
         ·as_aux_lemma=>
          rw[if_pos c17]at H;have c17b0:=eq_true c17;have c17b1:decide ((wrap64 (x4_1+3))≤(a0.size:Int))=true:=decide_eq_true c17;replace H:=Option.bind_eq_some_iff.mp H;obtain⟨⟨t127,t128⟩,A180,H⟩:=H;(try dsimp only at H);have A18:=Aside0.mk A180;clear A180;have HC19:=Aside0.mk H;clear H;go_upto_if 53 with(first|((with_reducible refine gate_callee (f:=108) rfl ?_);refine goesL_ (some 37) rfl rfl Tryz.func108 (by kernel_rfl) rfl #[.string (a0.extract ((ji14):Int).toNat ((wrap64 (x4_1+3)):Int).toNat)] rfl zz94 ?_;(with_reducible refine(spec_ReadHex.calls kj2 (a0.extract ((ji14):Int).toNat ((wrap64 (x4_1+3)):Int).toNat) t127 t128 _ A18.out).mono ?_);rintro e w' ⟨rfl,⟨nd,rfl⟩⟩;refine⟨_,rfl,?_⟩))
          (try simp only[Act.put,List.setIfInBounds_toArray,List.set_cons_zero,List.set_cons_succ]);(try(rw[drewN_self wc];generalize hq_:World.drewN wc _=wc;have n0_:Aside0 (Kd.R (Kd.int .u8) 5 wc w.heap.size (fun _=>True) u3 x3_1):=⟨by rw[←hq_];exact zz6⟩;have n1_:Aside0 (Below w.heap.size w wc):=⟨zz107⟩;clear HO_3 HB hq_;have HO_3:=n0_;have HB:=n1_;clear n0_ n1_));have H:=HC19.out;clear HC19
          by_cases c20:t128=true
          ·as_aux_lemma=>
           subst c20;rw[if_pos rfl]at H;replace H:=Option.bind_eq_some_iff.mp H;obtain⟨t129,A210,H⟩:=H;(try dsimp only at H);have A21:=Aside0.mk A210;clear A210;have HC22:=Aside0.mk H;clear H;go_upto_if 62 with(first|((with_reducible refine gate_callee (f:=109) rfl ?_);refine goesR_ 65 Tryz.func109 #[.int .u8 ((t127)%256)] (spec_l7free.calls kj2 ((t127)%256) t129 _ A21.out) ?_;rintro w' ⟨nd,rfl⟩))
           (try simp only[Act.put,List.setIfInBounds_toArray,List.set_cons_zero,List.set_cons_succ]);(try(rw[drewN_self wc];generalize hq_:World.drewN wc _=wc;have n0_:Aside0 (Kd.R (Kd.int .u8) 5 wc w.heap.size (fun _=>True) u3 x3_1):=⟨by rw[←hq_];exact zz6⟩;have n1_:Aside0 (Below w.heap.size w wc):=⟨zz107⟩;clear HO_3 HB hq_;have HO_3:=n0_;have HB:=n1_;clear n0_ n1_));have H:=HC22.out;clear HC22
           by_cases c23:t129=true
           ·subst c23;rw[if_pos rfl]at H
            by_cases c24:x3_1.length<140737488355328
            ·rw[if_pos c24]at H;have LMc24:=Aside0.mk c24;clear c24;obtain⟨y130,hy130⟩: ∃y_:List Int,y_=(x3_1++ [(t127)%256]):=⟨_,rfl⟩;replace H:(spec_l7percent.l0 kj2 a0 y130 (wrap64 ((wrap64 (x4_1+2))+1)))=some r:=by first|(rw[hy130];with_reducible exact H)|(have H2_:=(Option.bind_some _ _).symm.trans H;rw[hy130];with_reducible exact H2_)|(have H2_:=(Option.bind_some _ _).symm.trans H;with_reducible exact H2_)|with_reducible exact H|(rw[hy130];exact H)|exact H
             have Ny130:=Aside0.mk hy130;clear hy130;have H':=Aside0.mk H;clear H;go_wp2_with (first|((with_reducible refine gate_builtin (b:= .append) (xs:= #[.tmp 66,.tmp 69]) rfl ?_);(try(refine gate_guard (by rfl) ?_;dsimp only));at_builtin;refine Kd.R_append (Kd.int .u8) (w0:=w) w.heap.size rfl (.tmp 66) (.tmp 69) 45 5 (.int .u8 0) 1 rfl Tryz.underlying45 info5 rfl (by decide) (by omega) u3 x3_1 ((t127)%256) [.int .u8 ((t127)%256)] (fun _=>True) (fun _=>False) rfl rfl ?aP (fun _ hk=>hk.elim) ?aF ?aO ?aB ?aS ?aL ?_;(case aP=>exact rfl);(case aB=>exact zz0);(case aF=>exact(fun _ _=>trivial));(case aO=>exact zz6);(case aS=>exact(below_size zz0));(case aL=>have:=LMc24.out;omega);intro v131 w25 ho hb hg hat;rw[←Ny130.out]at ho;replace HB:=Aside0.mk (hb);have HO132:=Aside0.mk (ho);clear HO_3;clear ho hb hg hat))
             go_roundg kj2
             (case measure=>have:=HK1.out;have:=HJ2.out;omega);case rel=>exact⟨(y130),(wrap64 ((wrap64 (x4_1+2))+1)),zz1,H',⟨zz83⟩,⟨by(with_reducible repeat(first|apply Kd.R_alloc|apply Kd.R_drewN|apply Kd.R_drew));exact HO132.out⟩,⟨zz0⟩⟩
            ·rw[if_neg c24]at H;exact absurd H (by simp)
           ·replace c23:=Bool.eq_false_iff.mpr c23;subst c23;rw[if_neg Bool.false_ne_true]at H
            by_cases c26:(ji14)<(a0.size:Int)
            ·rw[if_pos c26]at H;have c26b0:decide ((ji14)<(a0.size:Int))=true:=decide_eq_true c26;clear c26;(first|rw[c26b0]|(simp only[i64_w,i32_w];rw[c26b0])|skip);replace H:=Option.bind_eq_some_iff.mp H;obtain⟨t133,A280,H⟩:=H;(try dsimp only at H);have A28:=Aside0.mk A280;clear A280;obtain⟨ji29,hji29⟩: ∃j_:Int,(wrap64 (x4_1+2))=j_:=⟨_,rfl⟩;replace H:(if 0≤(ji29)then(if(ji29)<(a0.size:Int)then((spec_l7upper.f (bt a0 (ji29))).bind fun t134=>((some (([37,t133,t134]:List Int):List Int)).bind fun y135=>(if x3_1.length+y135.length<140737488355328 then(spec_l7percent.l0 kj2 a0 (x3_1++y135) (wrap64 ((ji29)+1)))else(none))))else(none))else(none))=some r:=by first|(rw[hji29]at H;exact H)|(simp only[hji29]at H ⊢;exact H)
             (try rw[hji29]at A28);have hji29w:(IntKind.i64.wrap (x4_1+2))=ji29:=(i64_w _).trans hji29
             by_cases c30:0≤(ji29)
             ·rw[if_pos c30]at H;have c30b0:decide (0≤(ji29))=true:=decide_eq_true c30;clear c30
              by_cases c31:(ji29)<(a0.size:Int)
              ·rw[if_pos c31]at H;have c31b0:decide ((ji29)<(a0.size:Int))=true:=decide_eq_true c31;clear c31;replace H:=Option.bind_eq_some_iff.mp H;obtain⟨t134,A330,H⟩:=H;(try dsimp only at H);have A33:=Aside0.mk A330;clear A330;obtain⟨y135,hy135⟩: ∃y_:List Int,y_=(([37,t133,t134]:List Int)):=⟨_,rfl⟩;replace H:(if x3_1.length+y135.length<140737488355328 then(spec_l7percent.l0 kj2 a0 (x3_1++y135) (wrap64 ((ji29)+1)))else(none))=some r:=by first|(rw[hy135];with_reducible exact H)|(have H2_:=(Option.bind_some _ _).symm.trans H;rw[hy135];with_reducible exact H2_)|(have H2_:=(Option.bind_some _ _).symm.trans H;with_reducible exact H2_)|with_reducible exact H|(rw[hy135];exact H)|exact H
               have Ny135:=Aside0.mk hy135;clear hy135
               by_cases c34:x3_1.length+y135.length<140737488355328
               ·rw[if_pos c34]at H;have LMc34:=Aside0.mk c34;clear c34;obtain⟨y138,hy138⟩: ∃y_:List Int,y_=(x3_1++y135):=⟨_,rfl⟩;replace H:(spec_l7percent.l0 kj2 a0 y138 (wrap64 ((ji29)+1)))=some r:=by first|(rw[hy138];with_reducible exact H)|(have H2_:=(Option.bind_some _ _).symm.trans H;rw[hy138];with_reducible exact H2_)|(have H2_:=(Option.bind_some _ _).symm.trans H;with_reducible exact H2_)|with_reducible exact H|(rw[hy138];exact H)|exact H
                have Ny138:=Aside0.mk hy138;clear hy138;have H':=Aside0.mk H;clear H;(try go_wp2);replace HO_3:=Aside0.mk (Kd.R_drew HO_3.out);replace HB:=Aside0.mk (below_drew1 HB.out);have p27:0≤((ji14):Int):=of_decide_eq_true zz3;have q27:(ji14)<(a0.size:Int):=of_decide_eq_true zz3;have hx27:=bt_at a0 (ji14);replace p27:=eq_true p27;replace q27:=eq_true q27;have p32:0≤((ji29):Int):=of_decide_eq_true zz3;have q32:(ji29)<(a0.size:Int):=of_decide_eq_true zz3;have hx32:=bt_at a0 (ji29);replace p32:=eq_true p32;replace q32:=eq_true q32;refine st_ (n:=14) (S:=fun w'=>True) (ds:= []) trivial (fun hHeld=>?_);refine with_tabW spec_l7percent.tab8 spec_l7percent.bits8 (fun HT_ HW_=>?_);generalize wc.drew=w35 at HO_3 HB hHeld ⊢;refine pz 0 40 ?_;refine pz 1 41 ?_;refine pz 2 42 ?_;refine pz 3 43 ?_;refine pz 6 46 ?_;refine pz 7 47 ?_;refine pz 8 48 ?_;refine tk (i:=4) (N:=some 44) (v:=?_) (a':=?_) rfl rfl (take_ofW HT_.out HW_.out (by kernel_rfl)) (Or.inl ⟨by kernel_rfl,?_⟩) hHeld ?_ ?_;rotate_left
                ·intro w' _;go_simp;with_reducible rfl
                rotate_left
                ·simp only[Act.put,List.setIfInBounds_toArray,List.set_cons_zero,List.set_cons_succ,i64_w,i32_w];rfl
                refine tk (i:=9) (N:=some 49) (v:=?_) (a':=?_) rfl rfl (take_ofW HT_.out HW_.out (by kernel_rfl)) (Or.inl ⟨by kernel_rfl,?_⟩) hHeld ?_ ?_;rotate_left
                ·intro w' _;go_simp;with_reducible rfl
                rotate_left
                ·simp only[Act.put,List.setIfInBounds_toArray,List.set_cons_zero,List.set_cons_succ,i64_w,i32_w];rfl
                refine oz 5 45 (fun K hK=>?_);refine goes_ Tryz.func110 (by kernel_rfl) rfl #[.int .u8 (bt a0 (ji14))] (by kernel_rfl) rfl rfl zz94 ?_;(with_reducible refine(spec_l7upper.calls (bt a0 (ji14)) t133 _ A28.out).mono ?_);rintro e w' ⟨rfl,⟨nd,rfl⟩⟩;refine⟨_,rfl,?_⟩;refine hK.out _ _ trivial (fun hHeld=>?_);clear hK K;refine nz ?_;refine oz 10 50 (fun K hK=>?_);refine goes_ Tryz.func110 (by kernel_rfl) rfl #[.int .u8 (bt a0 (ji29))] (by kernel_rfl) rfl rfl zz93 ?_;(with_reducible refine(spec_l7upper.calls (bt a0 (ji29)) t134 _ A33.out).mono ?_);rintro e w' ⟨rfl,⟨nd,rfl⟩⟩;refine⟨_,rfl,?_⟩;refine hK.out _ _ trivial (fun hHeld=>?_);clear hK K;refine nz ?_;refine oz 11 51 (fun K hK=>?_);refine Kd.R_lit_step (Kd.int .u8) _ 5 ?hg (N:=51) ?hd (xs:=([37,t133,t134]:List Int)) (inner:= [.int .u8 37,.int .u8 t133,.int .u8 t134]) (ok:=fun _=>True) (okp:=fun _=>True) ?hr ?hp (fun _ hk=>hk) trivial (Below.refl _ _) (Nat.le_refl _) (by simp) ?_;(case hd=>rfl);(case hg=>rfl);(case hr=>first|(go_simp;done)|(go_simp;rfl));(case hp=>exact(Reps.one (show Kd.M (Kd.int .u8) _ _ _ 37 [.int .u8 37]from rfl) (Reps.one (show Kd.M (Kd.int .u8) _ _ _ t133 [.int .u8 t133]from rfl) (Reps.one (show Kd.M (Kd.int .u8) _ _ _ t134 [.int .u8 t134]from rfl) (Reps.none _ _)))));intro v136 w36 ho37 hb hg_ hnew_;clear hg_ hnew_;(first|rw[←Ny135.out]at ho37|(simp only[Int.reduceToNat]at ho37;rw[←Ny135.out]at ho37));have HO137:=Aside0.mk (Kd.R_lower (Kd.R_new' ho37 (Kd.R_lt zz6)) (below_size zz0));replace HO_3:=Aside0.mk (Kd.R_elder' zz6 (Kd.R_base ho37) hb);replace HB:=Aside0.mk (below_step zz0 hb);clear hb ho37;obtain⟨Ao39,co39,eo39⟩:=Kd.R_slice HO137.out;(first|subst eo39|(injection eo39 with f1_ f2_ f3_;have f4_:=f1_.symm;have f5_:=f3_.symm;clear f1_ f2_ f3_;subst f4_;subst f5_));refine hK.out _ _ trivial (fun hHeld=>?_);clear hK K;refine nz ?_;refine oz 12 52 (fun K hK=>?_);refine Kd.R_append_rows_step (Kd.int .u8) (w0:=w) w.heap.size (by rfl) (.tmp 40) (.tmp 51) 45 5 (.int .u8 0) 1 rfl Tryz.underlying45 info5 rfl (by decide) (by omega) u3 x3_1 y135 _ _ _ (fun k_=>some k_≠(.slice Ao39 y135.length co39:Value).ownBlock) (fun _=>False) rfl rfl ?aO ?aR (fun _ _ h=>h) (fun _ h=>h.elim) ?aF ?aB ?aS ?aL ?_;(case aR=>repeat(first|exact(Kd.R_reads' HO137.out).2.2|(with_reducible refine Kd.C_alloc ?_ _)|(with_reducible refine Kd.C_drewN ?_ _)|(with_reducible refine Kd.C_drew ?_)));(case aB=>exact zz0);(case aF=>exact(fun k_ hk=>Kd.fresh' (Kd.R_lt (by(with_reducible repeat(first|apply Kd.R_alloc|apply Kd.R_drewN|apply Kd.R_drew));exact HO137.out)) k_ hk));(case aO=>exact zz104);(case aS=>exact(below_size zz0));(case aL=>have:=LMc34.out;omega);intro v139 w38 ho hb hg hat;rw[←Ny138.out]at ho;replace HO137:=Aside0.mk (Kd.R_after (ok:=(fun _=>True)) (by(with_reducible repeat(first|apply Kd.R_alloc|apply Kd.R_drewN|apply Kd.R_drew));exact HO137.out) hg hat);replace HB:=Aside0.mk (hb);have HO140:=Aside0.mk (ho);clear HO_3;clear ho hb hg hat;refine hK.out _ _ trivial (fun hHeld=>?_);clear hK K;refine nz ?_;refine pz 13 3 ?_;refine done_ (done_of HT_.out (by kernel_rfl)) ?_;(try go_wp2);go_roundg kj2
                (case measure=>have:=HK1.out;have:=HJ2.out;omega);case rel=>exact⟨(y138),(wrap64 ((ji29)+1)),(by first|rfl|(simp;done)|(simp only[←hji29]<;>(first|rfl|simp))|(simp[*];done)),H',⟨zz83⟩,⟨by(with_reducible repeat(first|apply Kd.R_alloc|apply Kd.R_drewN|apply Kd.R_drew));exact Kd.R_mono HO140.out (fun _ hk=>trivial)⟩,⟨zz0⟩⟩
               ·rw[if_neg c34]at H;exact absurd H (by simp)
              ·rw[if_neg c31]at H;exact absurd H (by simp)
             ·rw[if_neg c30]at H;exact absurd H (by simp)
            ·rw[if_neg c26]at H;exact absurd H (by simp)
          ·replace c20:=Bool.eq_false_iff.mpr c20;subst c20;rw[if_neg Bool.false_ne_true]at H
           by_cases c40:0≤x4_1
           ·rw[if_pos c40]at H;have c40b0:decide (0≤x4_1)=true:=decide_eq_true c40;clear c40;(first|rw[c40b0]|(simp only[i64_w,i32_w];rw[c40b0])|skip)
            by_cases c41:x4_1<(a0.size:Int)
            ·rw[if_pos c41]at H;have c41b0:decide (x4_1<(a0.size:Int))=true:=decide_eq_true c41;clear c41
             by_cases c43:x3_1.length<140737488355328
             ·rw[if_pos c43]at H;have LMc43:=Aside0.mk c43;clear c43;obtain⟨y141,hy141⟩: ∃y_:List Int,y_=(x3_1++ [bt a0 x4_1]):=⟨_,rfl⟩;replace H:(spec_l7percent.l0 kj2 a0 y141 ji14)=some r:=by first|(rw[hy141];with_reducible exact H)|(have H2_:=(Option.bind_some _ _).symm.trans H;rw[hy141];with_reducible exact H2_)|(have H2_:=(Option.bind_some _ _).symm.trans H;with_reducible exact H2_)|with_reducible exact H|(rw[hy141];exact H)|exact H
              have Ny141:=Aside0.mk hy141;clear hy141;have H':=Aside0.mk H;clear H;have p42:0≤(x4_1:Int):=of_decide_eq_true zz3;have q42:x4_1<(a0.size:Int):=of_decide_eq_true zz3;have hx42:=bt_at a0 x4_1;replace p42:=eq_true p42;replace q42:=eq_true q42;go_wp2_with (first|((with_reducible refine gate_builtin (b:= .append) (xs:= #[.tmp 56,.tmp 60]) rfl ?_);(try(refine gate_guard (by rfl) ?_;dsimp only));at_builtin;refine Kd.R_append (Kd.int .u8) (w0:=w) w.heap.size rfl (.tmp 56) (.tmp 60) 45 5 (.int .u8 0) 1 rfl Tryz.underlying45 info5 rfl (by decide) (by omega) u3 x3_1 (bt a0 x4_1) [.int .u8 (bt a0 x4_1)] (fun _=>True) (fun _=>False) rfl rfl ?aP (fun _ hk=>hk.elim) ?aF ?aO ?aB ?aS ?aL ?_;(case aP=>exact rfl);(case aB=>exact zz0);(case aF=>exact(fun _ _=>trivial));(case aO=>exact zz6);(case aS=>exact(below_size zz0));(case aL=>have:=LMc43.out;omega);intro v142 w44 ho hb hg hat;rw[←Ny141.out]at ho;replace HB:=Aside0.mk (hb);have HO143:=Aside0.mk (ho);clear HO_3;clear ho hb hg hat))
              go_roundg kj2
              (case measure=>have:=HK1.out;have:=HJ2.out;omega);case rel=>exact⟨(y141),(ji14),(by first|rfl|(simp;done)|(simp only[←hji14]<;>(first|rfl|simp))|(simp[*];done)),H',⟨zz83⟩,⟨by(with_reducible repeat(first|apply Kd.R_alloc|apply Kd.R_drewN|apply Kd.R_drew));exact HO143.out⟩,⟨zz0⟩⟩
             ·rw[if_neg c43]at H;exact absurd H (by simp)
            ·rw[if_neg c41]at H;exact absurd H (by simp)
           ·rw[if_neg c40]at H;exact absurd H (by simp)
         ·rw[if_neg c17]at H;exact absurd H (by simp)
        ·rw[if_neg c16]at H;exact absurd H (by simp)
       ·rw[if_neg c15]at H;exact absurd H (by simp)
   ·rw[if_neg c2]at H;have c2b0:decide (x4_1<(a0.size:Int))=false:=decide_eq_false c2;clear c2;obtain rfl:=Option.some.inj H;have hcv45:=own_string (P:=Tryz.prog) Tryz.underlying45 Tryz.underlying5 Tryz.underlying9 (Kd.own_of_R HO_3.out);go_wp2
    go_ret;exact⟨zz2,zz0⟩
end Go.Proofs.YtgkipkifkobjnaaGreatDoor.GFnExactRecOk
