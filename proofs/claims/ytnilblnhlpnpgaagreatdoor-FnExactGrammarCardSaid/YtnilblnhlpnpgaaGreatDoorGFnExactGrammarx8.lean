-- Printed by gen.py and its programs for this claim.
import Derived.Test.YtnilblnhlpnpgaaGreatDoorGFnExactGrammarx0
import Derived.Test.YtnilblnhlpnpgaaGreatDoorGFnExactGrammarx1
import Derived.Test.YtnilblnhlpnpgaaGreatDoorGFnExactGrammarx3
import Derived.Test.YtnilblnhlpnpgaaGreatDoorGFnExactGrammarx5
import Derived.Test.YtnilblnhlpnpgaaGreatDoorGFnExactGrammarx6
import Derived.Test.YtnilblnhlpnpgaaGreatDoorGFnExactGrammarx7
import Derived.Test.YtnilblnhlpnpgaaGreatDoorZFnExactGrammar
namespace Go.Proofs.YtnilblnhlpnpgaaGreatDoor.GFnExactGrammar
open Go.RowKit Go.Proofs.YtnilblnhlpnpgaaGreatDoorW.PrintWords Go.Proofs.YtnilblnhlpnpgaaGreatDoorW.PrintLast Go.Proofs.YtnilblnhlpnpgaaGreatDoorW.PrintMore Go.Proofs.YtnilblnhlpnpgaaGreatDoorW.Zs
set_option maxHeartbeats 40000000
set_option maxRecDepth 100000
attribute [local go_sem] max2_int min2_int max_two min_two max_three min_three max_four min_four
set_option linter.unusedVariables false
set_option linter.unusedSimpArgs false
def spec_ReadWarcDate.f (k:Nat) (a0:ByteArray):Option (Int×Bool):=if(a0.size:Int)=20 then(if 0≤4 then(if 4≤(a0.size:Int)then((spec_l2num.f k (a0.extract 0 4)).bind fun t159=>(if 5≤7 then(if 7≤(a0.size:Int)then((spec_l2num.f k (a0.extract 5 7)).bind fun t160=>(if 8≤10 then(if 10≤(a0.size:Int)then((spec_l2num.f k (a0.extract 8 10)).bind fun t161=>(if 11≤19 then(if 19≤(a0.size:Int)then((spec_l2at.f k t159 t160 t161 (a0.extract 11 19)).bind fun t162=>((spec_WarcDate.f k t162).bind fun t163=>(if t163.toList=a0.toList then(some (t162,true))else(some (0,false)))))else(none))else(none)))else(none))else(none)))else(none))else(none)))else(none))else(none))else(some (0,false))
def spec_ReadWarcDate.T3:Bool×List (List Nat×List Nat):=(true,[([],[]),([0],[0]),([1],[1]),([],[]),([3],[3]),([4,2],[4]),([],[]),([6],[6]),([7,5],[7]),([],[]),([9],[9]),([2,5,8,10,8],[2,5,8,10]),([11,11,0,1,2,3,4,5,6,7,8,9,10,11],[11])])
def spec_ReadWarcDate.B3:List Nat:= [0,1,3,0,8,31,0,64,255,0,512,2047,4095]
theorem spec_ReadWarcDate.tab3:rtab .any (opsOf Tryz.f50 3)=spec_ReadWarcDate.T3:=by kernel_rfl
theorem spec_ReadWarcDate.bits3:waitsOk spec_ReadWarcDate.T3.2 spec_ReadWarcDate.B3=true:=by kernel_rfl
theorem spec_ReadWarcDate.calls (k:Nat) (a0:ByteArray) (r1:Int) (r2:Bool) (w:World) (h:spec_ReadWarcDate.f k a0=some (r1,r2)):
  Calls Tryz.prog 50 #[.string a0] w fun e w'=>e= .returned (.tuple #[.int .i64 r1,.bool r2])∧Below w.heap.size w w':=by
 have HB:=Aside0.mk (Below.refl w.heap.size w);have H:(if(a0.size:Int)=20 then(if 0≤4 then(if 4≤(a0.size:Int)then((spec_l2num.f k (a0.extract 0 4)).bind fun t159=>(if 5≤7 then(if 7≤(a0.size:Int)then((spec_l2num.f k (a0.extract 5 7)).bind fun t160=>(if 8≤10 then(if 10≤(a0.size:Int)then((spec_l2num.f k (a0.extract 8 10)).bind fun t161=>(if 11≤19 then(if 19≤(a0.size:Int)then((spec_l2at.f k t159 t160 t161 (a0.extract 11 19)).bind fun t162=>((spec_WarcDate.f k t162).bind fun t163=>(if t163.toList=a0.toList then(some (t162,true))else(some (0,false)))))else(none))else(none)))else(none))else(none)))else(none))else(none)))else(none))else(none))else(some (0,false)))=some (r1,r2):=h;clear h
 by_cases c2:(a0.size:Int)=20
 ·rw[if_pos c2]at H;have c2b0:((a0.size:Int)==20)=true:=beq_iff_eq.mpr c2;have c2b1:((a0.size:Int)!=20)=false:=bne_eq_false_iff_eq.mpr c2;clear c2
  by_cases c3:0≤4
  ·rw[if_pos c3]at H;have c3b0:=eq_true c3;have c3b1:decide (0≤4)=true:=decide_eq_true c3;clear c3
   by_cases c4:4≤(a0.size:Int)
   ·rw[if_pos c4]at H;have c4b0:=eq_true c4;have c4b1:decide (4≤(a0.size:Int))=true:=decide_eq_true c4;clear c4;replace H:=Option.bind_eq_some_iff.mp H;obtain⟨t159,A50,H⟩:=H;(try dsimp only at H);have A5:=Aside0.mk A50;clear A50
    by_cases c6:5≤7
    ·rw[if_pos c6]at H;have c6b0:=eq_true c6;have c6b1:decide (5≤7)=true:=decide_eq_true c6;clear c6
     by_cases c7:7≤(a0.size:Int)
     ·rw[if_pos c7]at H;have c7b0:=eq_true c7;have c7b1:decide (7≤(a0.size:Int))=true:=decide_eq_true c7;clear c7;replace H:=Option.bind_eq_some_iff.mp H;obtain⟨t160,A80,H⟩:=H;(try dsimp only at H);have A8:=Aside0.mk A80;clear A80
      by_cases c9:8≤10
      ·rw[if_pos c9]at H;have c9b0:=eq_true c9;have c9b1:decide (8≤10)=true:=decide_eq_true c9;clear c9
       by_cases c10:10≤(a0.size:Int)
       ·rw[if_pos c10]at H;have c10b0:=eq_true c10;have c10b1:decide (10≤(a0.size:Int))=true:=decide_eq_true c10;clear c10;replace H:=Option.bind_eq_some_iff.mp H;obtain⟨t161,A110,H⟩:=H;(try dsimp only at H);have A11:=Aside0.mk A110;clear A110
        by_cases c12:11≤19
        ·rw[if_pos c12]at H;have c12b0:=eq_true c12;have c12b1:decide (11≤19)=true:=decide_eq_true c12;clear c12
         by_cases c13:19≤(a0.size:Int)
         ·rw[if_pos c13]at H;have c13b0:=eq_true c13;have c13b1:decide (19≤(a0.size:Int))=true:=decide_eq_true c13;clear c13;replace H:=Option.bind_eq_some_iff.mp H;obtain⟨t162,A140,H⟩:=H;(try dsimp only at H);have A14:=Aside0.mk A140;clear A140;replace H:=Option.bind_eq_some_iff.mp H;obtain⟨t163,A150,H⟩:=H;(try dsimp only at H);have A15:=Aside0.mk A150;clear A150;have HC16:=Aside0.mk H;clear H;go_enter Tryz.func50,Tryz.ntmps50
          (try go_wp2);have n0_:=Aside0.mk (below_drew1 HB.out);clear HB;have HB:=n0_;clear n0_;refine st_ (n:=13) (S:=fun w'=>True) (ds:= []) trivial (fun hHeld=>?_);refine with_tabW spec_ReadWarcDate.tab3 spec_ReadWarcDate.bits3 (fun HT_ HW_=>?_);generalize w.drew=w17 at HB hHeld ⊢;refine pz 0 8 ?_;refine pz 1 9 ?_;refine pz 3 11 ?_;refine pz 4 12 ?_;refine pz 6 14 ?_;refine pz 7 15 ?_;refine pz 9 17 ?_;refine pz 10 18 ?_;refine ozZ 2 10 Tryz.func98 #[.string (a0.extract 0 4)] (spec_l2num.calls k (a0.extract 0 4) t159 _ A5.out) (fun K hK=>?_);rintro w' ⟨nd,rfl⟩;refine hK.out _ _ trivial (fun hHeld=>?_);clear hK K;refine nz ?_;refine ozZ 5 13 Tryz.func98 #[.string (a0.extract 5 7)] (spec_l2num.calls k (a0.extract 5 7) t160 _ A8.out) (fun K hK=>?_);rintro w' ⟨nd,rfl⟩;refine hK.out _ _ trivial (fun hHeld=>?_);clear hK K;refine nz ?_;refine ozZ 8 16 Tryz.func98 #[.string (a0.extract 8 10)] (spec_l2num.calls k (a0.extract 8 10) t161 _ A11.out) (fun K hK=>?_);rintro w' ⟨nd,rfl⟩;refine hK.out _ _ trivial (fun hHeld=>?_);clear hK K;refine nz ?_;refine ozZ 11 19 Tryz.func97 #[.int .i64 t159,.int .i64 t160,.int .i64 t161,.string (a0.extract 11 19)] (spec_l2at.calls k t159 t160 t161 (a0.extract 11 19) t162 _ A14.out) (fun K hK=>?_);rintro w18 hb;have n0_:=Aside0.mk (below_step zz0 hb);clear HB;have HB:=n0_;clear n0_;(try clear hb);(try clear hb2);(try clear hk);(try clear hi);refine hK.out _ _ trivial (fun hHeld=>?_);clear hK K;refine nz ?_;refine pz 12 4 ?_;refine done_ (done_of HT_.out (by kernel_rfl)) ?_;go_upto_if 23 with(first|((with_reducible refine gate_callee (f:=99) rfl ?_);refine goesR_ 21 Tryz.func99 #[.int .i64 t162] (spec_WarcDate.calls k t162 t163 _ A15.out) ?_;rintro w19 hb;replace HB:=Aside0.mk (below_step zz0 hb);(try clear hb)))
          (try simp only[Act.put,List.setIfInBounds_toArray,List.set_cons_zero,List.set_cons_succ]);have H:=HC16.out;clear HC16
          by_cases c20:t163.toList=a0.toList
          ·rw[if_pos c20]at H;have c20b0:(t163.toList==a0.toList)=true:=beq_iff_eq.mpr c20;have c20b1:(t163.toList !=a0.toList)=false:=bne_eq_false_iff_eq.mpr c20;clear c20;(first|rw[c20b0]|(simp only[i64_w,i32_w];rw[c20b0])|rw[c20b1]|(rw[c20b2];simp only[Bool.not_true,Bool.not_false])|skip);simp only[Option.some.injEq,Prod.mk.injEq]at H;obtain⟨rfl,rfl⟩:=H;go_wp2
           go_ret2
           exact⟨zz2,zz0⟩
          ·rw[if_neg c20]at H;have c20b0:(t163.toList==a0.toList)=false:=beq_eq_false_iff_ne.mpr c20;have c20b1:(t163.toList !=a0.toList)=true:=bne_iff_ne.mpr c20;(first|rw[c20b0]|(simp only[i64_w,i32_w];rw[c20b0])|rw[c20b1]|(rw[c20b2];simp only[Bool.not_true,Bool.not_false])|skip);simp only[Option.some.injEq,Prod.mk.injEq]at H;obtain⟨rfl,rfl⟩:=H;go_wp2
           go_ret2
           exact⟨zz2,zz0⟩
         ·rw[if_neg c13]at H;exact absurd H (by simp)
        ·rw[if_neg c12]at H;exact absurd H (by simp)
       ·rw[if_neg c10]at H;exact absurd H (by simp)
      ·rw[if_neg c9]at H;exact absurd H (by simp)
     ·rw[if_neg c7]at H;exact absurd H (by simp)
    ·rw[if_neg c6]at H;exact absurd H (by simp)
   ·rw[if_neg c4]at H;exact absurd H (by simp)
  ·rw[if_neg c3]at H;exact absurd H (by simp)
 ·rw[if_neg c2]at H;have c2b0:((a0.size:Int)==20)=false:=beq_eq_false_iff_ne.mpr c2;have c2b1:((a0.size:Int)!=20)=true:=bne_iff_ne.mpr c2;simp only[Option.some.injEq,Prod.mk.injEq]at H;obtain⟨rfl,rfl⟩:=H;go_enter Tryz.func50,Tryz.ntmps50
  go_wp2
  go_ret2
  exact⟨zz2,zz0⟩
mutual
def spec_ReadDec.j0:Nat→ByteArray→Bool→Option (Int×Bool)
 |0,_,_=>none
 |k+1,x0,x13=>if x13=true then(some (0,false))else(spec_ReadDec.l0 k x0 0 0)
def spec_ReadDec.l0:Nat→ByteArray→Int→Int→Option (Int×Bool)
 |0,_,_,_=>none
 |k+1,x0,x4,x5=>if x5<(x0.size:Int)then(if 0≤x5 then((spec_l1digit.f (bt x0 x5)).bind fun t164=>(if t164=true then(spec_ReadDec.l0 k x0 (wrap64 ((wrap64 (x4*10))+(((bt x0 x5)-48)%256))) (wrap64 (x5+1)))else(some (0,false))))else(none))else((spec_DecText.f k x4).bind fun t165=>(if t165.toList=x0.toList then(some (x4,true))else(some (0,false))))
end
def spec_ReadDec.f (k:Nat) (a0:ByteArray):Option (Int×Bool):=if(a0.size:Int)=0 then(spec_ReadDec.j0 k a0 true)else(spec_ReadDec.j0 k a0 (decide ((a0.size:Int)>15)))
theorem spec_ReadDec.calls (k:Nat) (a0:ByteArray) (r1:Int) (r2:Bool) (w:World) (h:spec_ReadDec.f k a0=some (r1,r2)):
  Calls Tryz.prog 51 #[.string a0] w fun e w'=>e= .returned (.tuple #[.int .i64 r1,.bool r2])∧Below w.heap.size w w':=by
 have HB:=Aside0.mk (Below.refl w.heap.size w);have H:(if(a0.size:Int)=0 then(spec_ReadDec.j0 k a0 true)else(spec_ReadDec.j0 k a0 (decide ((a0.size:Int)>15))))=some (r1,r2):=h;clear h;have HC2:=Aside0.mk H;clear H;go_enter Tryz.func51,Tryz.ntmps51
 go_upto_region 1 with(fail)
 go_cut [13] (fun v13 wc=> ∃(kq:Nat) (x13_1:Bool),v13= .bool x13_1∧Aside0 (spec_ReadDec.j0 kq a0 x13_1=some (r1,r2))∧Aside0 (kq≤k)∧Aside0 (Below w.heap.size w wc))
 case first=>
  have H:=HC2.out;clear HC2
  by_cases c3:(a0.size:Int)=0
  ·rw[if_pos c3]at H;have c3b0:((a0.size:Int)==0)=true:=beq_iff_eq.mpr c3;have c3b1:((a0.size:Int)!=0)=false:=bne_eq_false_iff_eq.mpr c3;clear c3;(first|rw[c3b0]|(simp only[i64_w,i32_w];rw[c3b0])|rw[c3b1]|(rw[c3b2];simp only[Bool.not_true,Bool.not_false])|skip);have H':=Aside0.mk H;clear H;go_wp2
   go_meet
   case rel=>exact⟨_,(true),zz3,H',⟨zz58⟩,⟨zz0⟩⟩
  ·rw[if_neg c3]at H;have c3b0:((a0.size:Int)==0)=false:=beq_eq_false_iff_ne.mpr c3;have c3b1:((a0.size:Int)!=0)=true:=bne_iff_ne.mpr c3;(first|rw[c3b0]|(simp only[i64_w,i32_w];rw[c3b0])|rw[c3b1]|(rw[c3b2];simp only[Bool.not_true,Bool.not_false])|skip);have H':=Aside0.mk H;clear H;go_wp2
   go_meet
   case rel=>exact⟨_,(decide ((a0.size:Int)>15)),zz3,H',⟨zz58⟩,⟨zz0⟩⟩
 case rest=>
  clear HC2;(try clear p2);(try clear c3);(try clear c3b0);(try clear c3b1);obtain⟨kq,x13_1,rfl,HA,HJ1,HB⟩:=hcut
  cases kq with
  |zero=>exact absurd HA.out (by simp[spec_ReadDec.j0])
  |succ kj1=>
   have H:=HA.out;clear HA;simp only[spec_ReadDec.j0]at H
   by_cases c4:x13_1=true
   ·subst c4;rw[if_pos rfl]at H;simp only[Option.some.injEq,Prod.mk.injEq]at H;obtain⟨rfl,rfl⟩:=H;go_wp2
    go_ret2
    exact⟨zz2,zz0⟩
   ·replace c4:=Bool.eq_false_iff.mpr c4;subst c4;rw[if_neg Bool.false_ne_true]at H;have H':=Aside0.mk H;clear H;go_wp2
    go_loopg [4,5] kj1 (fun kq v4 v5 w'=> ∃(x4_2 x5_2:Int),v4= .int .i64 x4_2∧v5= .int .i64 x5_2∧Aside0 (spec_ReadDec.l0 kq a0 x4_2 x5_2=some (r1,r2))∧Aside0 (kq≤kj1)∧Aside0 (Below w.heap.size w w'))
    case atStart=>exact⟨(0),(0),zz3,zz3,H',⟨Nat.le_refl _⟩,⟨zz0⟩⟩
    case round=>
     clear H';(try clear p2);(try clear c3);(try clear c3b0);(try clear c3b1);(try clear c4);(try clear p2);obtain⟨x4_2,x5_2,rfl,rfl,HA,HK2,HB⟩:=hrel
     cases gk with
     |zero=>exact absurd HA.out (by simp[spec_ReadDec.l0])
     |succ k2=>
      have H:=HA.out;clear HA;simp only[spec_ReadDec.l0]at H
      by_cases c5:x5_2<(a0.size:Int)
      ·rw[if_pos c5]at H;have c5b0:decide (x5_2<(a0.size:Int))=true:=decide_eq_true c5;clear c5
       by_cases c6:0≤x5_2
       ·rw[if_pos c6]at H;have c6b0:decide (0≤x5_2)=true:=decide_eq_true c6;clear c6;replace H:=Option.bind_eq_some_iff.mp H;obtain⟨t164,A80,H⟩:=H;(try dsimp only at H);have A8:=Aside0.mk A80;clear A80;have HC9:=Aside0.mk H;clear H;have p7:0≤(x5_2:Int):=of_decide_eq_true zz7;have q7:x5_2<(a0.size:Int):=of_decide_eq_true zz7;have hx7:=bt_at a0 x5_2;replace p7:=eq_true p7;replace q7:=eq_true q7;go_upto_if 24 with(first|((with_reducible refine gate_callee (f:=100) rfl ?_);refine goesR_ 23 Tryz.func100 #[.int .u8 (bt a0 x5_2)] (spec_l1digit.calls (bt a0 x5_2) t164 _ A8.out) ?_;rintro w' ⟨nd,rfl⟩))
        (try simp only[Act.put,List.setIfInBounds_toArray,List.set_cons_zero,List.set_cons_succ]);(try(rw[drewN_self wr];generalize hq_:World.drewN wr _=wr;have n0_:Aside0 (Below w.heap.size w wr):=⟨by rw[←hq_];exact zz0⟩;clear HB hq_;have HB:=n0_;clear n0_));have H:=HC9.out;clear HC9
        by_cases c10:t164=true
        ·subst c10;rw[if_pos rfl]at H;have H':=Aside0.mk H;clear H;have p11:0≤(x5_2:Int):=of_decide_eq_true zz7;have q11:x5_2<(a0.size:Int):=of_decide_eq_true zz7;have hx11:=bt_at a0 x5_2;replace p11:=eq_true p11;replace q11:=eq_true q11;go_wp2
         go_roundg k2
         (case measure=>have:=HJ1.out;have:=HK2.out;omega);case rel=>exact⟨(wrap64 ((wrap64 (x4_2*10))+(((bt a0 x5_2)-48)%256))),(wrap64 (x5_2+1)),zz3,zz3,H',⟨by have:=HJ1.out;have:=HK2.out;omega⟩,⟨zz0⟩⟩
        ·replace c10:=Bool.eq_false_iff.mpr c10;subst c10;rw[if_neg Bool.false_ne_true]at H;simp only[Option.some.injEq,Prod.mk.injEq]at H;obtain⟨rfl,rfl⟩:=H;go_wp2
         go_ret2
         exact⟨zz2,zz0⟩
       ·rw[if_neg c6]at H;exact absurd H (by simp)
      ·rw[if_neg c5]at H;have c5b0:decide (x5_2<(a0.size:Int))=false:=decide_eq_false c5;clear c5;replace H:=Option.bind_eq_some_iff.mp H;obtain⟨t165,A120,H⟩:=H;(try dsimp only at H);have A12:=Aside0.mk A120;clear A120;have HC13:=Aside0.mk H;clear H;go_upto_if 36 with(first|((with_reducible refine gate_callee (f:=81) rfl ?_);refine goesR_ 34 Tryz.func81 #[.int .i64 x4_2] (spec_DecText.calls k2 x4_2 t165 _ A12.out) ?_;rintro w14 hb;replace HB:=Aside0.mk (below_step zz0 hb);(try clear hb)))
       (try simp only[Act.put,List.setIfInBounds_toArray,List.set_cons_zero,List.set_cons_succ]);have H:=HC13.out;clear HC13
       by_cases c15:t165.toList=a0.toList
       ·rw[if_pos c15]at H;have c15b0:(t165.toList==a0.toList)=true:=beq_iff_eq.mpr c15;have c15b1:(t165.toList !=a0.toList)=false:=bne_eq_false_iff_eq.mpr c15;clear c15;(first|rw[c15b0]|(simp only[i64_w,i32_w];rw[c15b0])|rw[c15b1]|(rw[c15b2];simp only[Bool.not_true,Bool.not_false])|skip);simp only[Option.some.injEq,Prod.mk.injEq]at H;obtain⟨rfl,rfl⟩:=H;go_wp2
        go_ret2
        exact⟨zz2,zz0⟩
       ·rw[if_neg c15]at H;have c15b0:(t165.toList==a0.toList)=false:=beq_eq_false_iff_ne.mpr c15;have c15b1:(t165.toList !=a0.toList)=true:=bne_iff_ne.mpr c15;(first|rw[c15b0]|(simp only[i64_w,i32_w];rw[c15b0])|rw[c15b1]|(rw[c15b2];simp only[Bool.not_true,Bool.not_false])|skip);simp only[Option.some.injEq,Prod.mk.injEq]at H;obtain⟨rfl,rfl⟩:=H;go_wp2
        go_ret2
        exact⟨zz2,zz0⟩
def spec_TakeN.f (a0_0:ByteArray) (a0_1 a1:Int):Option (ByteArray×ByteArray×Int×Bool):=(spec_CurOk.f a0_0 a0_1).bind fun t168=>(if t168=true then(if a1<0 then(some ((⟨#[]⟩:ByteArray),(⟨#[]⟩:ByteArray),0,false))else(if a1>(wrap64 ((a0_0.size:Int)-a0_1))then(some ((⟨#[]⟩:ByteArray),(⟨#[]⟩:ByteArray),0,false))else(if 0≤a0_1 then(if a0_1≤(wrap64 (a0_1+a1))then(if(wrap64 (a0_1+a1))≤(a0_0.size:Int)then(some (a0_0.extract (a0_1:Int).toNat ((wrap64 (a0_1+a1)):Int).toNat,a0_0,wrap64 (a0_1+a1),true))else(none))else(none))else(none))))else(some ((⟨#[]⟩:ByteArray),(⟨#[]⟩:ByteArray),0,false)))
def spec_TakeN.T3:Bool×List (List Nat×List Nat):=(true,[([],[]),([0],[0]),([],[]),([2],[2]),([],[]),([4],[4]),([],[]),([5,6],[5,6]),([1,3,7],[1,3,7]),([],[]),([9],[9]),([],[]),([11],[11]),([],[]),([12,13],[12,13]),([10,14],[10,14]),([8,0,1,2,3,4,5,6,7,8],[8]),([15,16,0,1,2,3,4,5,6,7,8,9,10,11,12,13,14,15,16],[15]),([17,0,1,2,3,4,5,6,7,8,9,10,11,12,13,14,15,16,17],[])])
def spec_TakeN.B3:List Nat:= [0,1,0,4,0,16,0,112,255,0,512,0,2048,0,14336,32256,511,131071,262143]
theorem spec_TakeN.tab3:rtab .any (opsOf Tryz.f52 3)=spec_TakeN.T3:=by kernel_rfl
theorem spec_TakeN.bits3:waitsOk spec_TakeN.T3.2 spec_TakeN.B3=true:=by kernel_rfl
theorem spec_TakeN.calls (a0_0:ByteArray) (a0_1 a1:Int) (r1 r2:ByteArray) (r3:Int) (r4:Bool) (w:World) (h:spec_TakeN.f a0_0 a0_1 a1=some (r1,r2,r3,r4)):
  Calls Tryz.prog 52 #[.agg #[.string a0_0,.int .i64 a0_1],.int .i64 a1] w fun e w'=>e= .returned (.tuple #[.string r1,.agg #[.string r2,.int .i64 r3],.bool r4])∧Below w.heap.size w w':=by
 have hu41:=Tryz.underlying41;have HB:=Aside0.mk (Below.refl w.heap.size w);have H:((spec_CurOk.f a0_0 a0_1).bind fun t168=>(if t168=true then(if a1<0 then(some ((⟨#[]⟩:ByteArray),(⟨#[]⟩:ByteArray),0,false))else(if a1>(wrap64 ((a0_0.size:Int)-a0_1))then(some ((⟨#[]⟩:ByteArray),(⟨#[]⟩:ByteArray),0,false))else(if 0≤a0_1 then(if a0_1≤(wrap64 (a0_1+a1))then(if(wrap64 (a0_1+a1))≤(a0_0.size:Int)then(some (a0_0.extract (a0_1:Int).toNat ((wrap64 (a0_1+a1)):Int).toNat,a0_0,wrap64 (a0_1+a1),true))else(none))else(none))else(none))))else(some ((⟨#[]⟩:ByteArray),(⟨#[]⟩:ByteArray),0,false))))=some (r1,r2,r3,r4):=h;clear h;replace H:=Option.bind_eq_some_iff.mp H;obtain⟨t168,A30,H⟩:=H;(try dsimp only at H);have A3:=Aside0.mk A30;clear A30;have HC4:=Aside0.mk H;clear H;go_enter Tryz.func52,Tryz.ntmps52
 repeat' (first|(go_big_may;(first|((with_reducible refine gate_dst (N:=2) rfl ?_);(try(refine gate_guard (by rfl) ?_;dsimp only));refine boxP_ (N:=2) (cs:= #[.string a0_0,.int .i64 a0_1]) (t:=41) ?_;intro gb166 hg w5 hbox hb;have BK166:=Aside0.mk (hbox);have GE166:=geb_ (w:=w) hg zz0;replace HB:=Aside0.mk (below_step zz0 hb);clear hb hbox hg)|((with_reducible refine gate_dst (N:=5) rfl ?_);(try(refine gate_guard (by rfl) ?_;dsimp only));refine boxP_ (N:=5) (cs:= #[.string (⟨#[]⟩:ByteArray),.int .i64 0]) (t:=41) ?_;intro gb167 hg w6 hbox hb;have BK167:=Aside0.mk (hbox);have GE167:=geb_ (w:=w) hg zz107;replace HB:=Aside0.mk (below_step zz107 hb);have NB166_167:=nbL_ (g:=gb166) hg zz84;have NB167_166:=nbG_ (g:=gb166) hg zz84;replace BK166:=Aside0.mk (blk_below zz84 hb);clear hb hbox hg;have hnb7:=NB166_167.out;have hnc7:=NB167_166.out;obtain⟨_,_,_,_⟩:=cells2_ BK166.out)|((with_reducible refine gate_callee (f:=92) rfl ?_);refine goesR_ 8 Tryz.func92 #[.agg #[.string a0_0,.int .i64 a0_1]] (spec_CurOk.calls a0_0 a0_1 t168 _ A3.out) ?_;rintro w9 hb;replace BK166:=Aside0.mk (blk_below zz84 hb);replace BK167:=Aside0.mk (blk_below (by(with_reducible repeat(first|refine blk_drewN ?_ _|refine blk_drew ?_|refine blk_alloc ?_ _));exact BK167.out) hb);replace HB:=Aside0.mk (below_step zz49 hb);(try clear hb))))|go_values|go_skip|go_big_skip|go_big_want|((first|(with_reducible refine gate_nog rfl ?_)|(fail_if_success with_reducible refine gate_any ?_));go_step)|go_upon|simp only[Bool.not_true,Bool.not_false,Bool.true_and,Bool.false_and,Bool.true_or,Bool.false_or]|dsimp only)
 (try simp only[Act.put,List.setIfInBounds_toArray,List.set_cons_zero,List.set_cons_succ]);have H:=HC4.out;clear HC4
 by_cases c10:t168=true
 ·subst c10;rw[if_pos rfl]at H
  by_cases c11:a1<0
  ·rw[if_pos c11]at H;have c11b0:decide (a1<0)=true:=decide_eq_true c11;clear c11;(first|rw[c11b0]|(simp only[i64_w,i32_w];rw[c11b0])|skip);simp only[Option.some.injEq,Prod.mk.injEq]at H;obtain⟨rfl,rfl,rfl,rfl⟩:=H;have hnb12:=NB167_166.out;have hnc12:=NB166_167.out;obtain⟨_,_,_,_⟩:=cells2_ BK167.out;go_wp2
   refine bodyPost_ret (results_list (rs:= [.tmp 4,.cell 5 41,.tmp 6]) rfl (by simp) (.tmp (.cell gb167 41 #[.string (⟨#[]⟩:ByteArray),.int .i64 0] (0,0) _ rfl zz43 Tryz.underlying41 rfl (by kernel_rfl) (.tmp .nil)))) rfl ?_;exact⟨zz2,zz49⟩
  ·rw[if_neg c11]at H;have c11b0:decide (a1<0)=false:=decide_eq_false c11;clear c11;(first|rw[c11b0]|(simp only[i64_w,i32_w];rw[c11b0])|skip)
   by_cases c14:a1>(wrap64 ((a0_0.size:Int)-a0_1))
   ·rw[if_pos c14]at H;have c14b0:decide ((wrap64 ((a0_0.size:Int)-a0_1))<a1)=true:=decide_eq_true c14;clear c14;simp only[Option.some.injEq,Prod.mk.injEq]at H;obtain⟨rfl,rfl,rfl,rfl⟩:=H;have hnb15:=NB166_167.out;have hnc15:=NB167_166.out;obtain⟨_,_,_,_⟩:=cells2_ BK166.out;obtain⟨_,_,_,_⟩:=cells2_ BK167.out;go_wp2
    refine bodyPost_ret (results_list (rs:= [.tmp 4,.cell 5 41,.tmp 6]) rfl (by simp) (.tmp (.cell gb167 41 #[.string (⟨#[]⟩:ByteArray),.int .i64 0] (0,0) _ rfl zz43 Tryz.underlying41 rfl (by kernel_rfl) (.tmp .nil)))) rfl ?_;exact⟨zz2,zz49⟩
   ·rw[if_neg c14]at H;have c14b0:decide ((wrap64 ((a0_0.size:Int)-a0_1))<a1)=false:=decide_eq_false c14;clear c14
    by_cases c18:0≤a0_1
    ·rw[if_pos c18]at H;have c18b0:=eq_true c18;have c18b1:decide (0≤a0_1)=true:=decide_eq_true c18;clear c18
     by_cases c19:a0_1≤(wrap64 (a0_1+a1))
     ·rw[if_pos c19]at H;have c19b0:=eq_true c19;have c19b1:decide (a0_1≤(wrap64 (a0_1+a1)))=true:=decide_eq_true c19
      by_cases c20:(wrap64 (a0_1+a1))≤(a0_0.size:Int)
      ·rw[if_pos c20]at H;have c20b0:=eq_true c20;have c20b1:decide ((wrap64 (a0_1+a1))≤(a0_0.size:Int))=true:=decide_eq_true c20;simp only[Option.some.injEq,Prod.mk.injEq]at H;obtain⟨rfl,rfl,rfl,rfl⟩:=H;have hnb21:=NB166_167.out;have hnc21:=NB167_166.out;obtain⟨_,_,_,_⟩:=cells2_ BK166.out;(try go_wp2);replace BK166:=Aside0.mk (blk_drew BK166.out);replace BK167:=Aside0.mk (blk_drew BK167.out);replace HB:=Aside0.mk (below_drew1 HB.out);refine st_ (n:=19) (S:=fun w'=>w'.cell? ⟨gb166,0,none⟩=some (.string a0_0)∧w'.cell? ⟨gb166,1,none⟩=some (.int .i64 a0_1)) (ds:= []) (hold2_ BK166.out) (fun hHeld=>?_);refine with_tabW spec_TakeN.tab3 spec_TakeN.bits3 (fun HT_ HW_=>?_);generalize w9.drew=w23 at BK166 BK167 HB hHeld ⊢;refine pz 0 25 ?_;refine pz 2 27 ?_;refine pz 4 29 ?_;refine pz 6 31 ?_;refine pz 9 34 ?_;refine pz 11 36 ?_;refine pz 13 38 ?_;refine tk0_ 1 26 hHeld ?_;refine tk0_ 3 28 hHeld ?_;refine tk0_ 5 30 hHeld ?_;refine pz 7 32 ?_;refine pz 8 33 ?_;refine pz 16 4 ?_;refine tk0_ 10 35 hHeld ?_;refine tk0_ 12 37 hHeld ?_;refine pz 14 39 ?_;refine pz 15 40 ?_;refine one_ (i:=17) (N:=none) #[true,true,true,true,true,true,true,true,true,true,true,true,true,true,true,true,true,true,false] rfl rfl (one_of HT_.out (by kernel_rfl)) (by decide) (fun K hK=>?_);have hs24:w23.cell? ⟨gb167,0,none⟩=some (.string (⟨#[]⟩:ByteArray)):=(blk_cell BK167.out 0).trans rfl;have hfs24:=blk_frozen BK167.out 0;have hns24_0:=NB166_167.out;have hms24_0:=NB167_166.out;have hs25:w23.cell? ⟨gb167,1,none⟩=some (.int .i64 0):=(blk_cell BK167.out 1).trans rfl;have hfs25:=blk_frozen BK167.out 1;have hns25_0:=NB166_167.out;have hms25_0:=NB167_166.out;refine skip_ (w1:=?_) (by rfl) rfl ?_ ?_;rotate_left
       ·go_simp;rfl
       refine hK.out _ _ ⟨((cell_far (p:=⟨gb167,_,none⟩) NB166_167.out _).trans (((cell_far (p:=⟨gb167,_,none⟩) NB166_167.out _).trans (hHeld.1)))),((cell_far (p:=⟨gb167,_,none⟩) NB166_167.out _).trans (((cell_far (p:=⟨gb167,_,none⟩) NB166_167.out _).trans (hHeld.2))))⟩ (fun hHeld=>?_);clear hK K;refine pz 18 6 ?_;refine done_ (done_of HT_.out (by kernel_rfl)) ?_;(try go_wp2);refine bodyPost_ret (results_list (rs:= [.tmp 4,.cell 5 41,.tmp 6]) rfl (by simp) (.tmp (.cell gb167 41 #[.string a0_0,.int .i64 (wrap64 (a0_1+a1))] (0,0) _ rfl (by(with_reducible repeat(first|refine blk_drewN ?_ _|refine blk_drew ?_|refine blk_alloc ?_ _));refine blk_put (cs:= #[.string a0_0,.int .i64 0]) ?_ 1 _ rfl;(with_reducible repeat(first|refine blk_drewN ?_ _|refine blk_drew ?_|refine blk_alloc ?_ _));refine blk_put (cs:= #[.string (⟨#[]⟩:ByteArray),.int .i64 0]) ?_ 0 _ rfl;(with_reducible repeat(first|refine blk_drewN ?_ _|refine blk_drew ?_|refine blk_alloc ?_ _));exact BK167.out) Tryz.underlying41 rfl (by kernel_rfl) (.tmp .nil)))) rfl ?_;exact⟨zz2,zz49⟩
      ·rw[if_neg c20]at H;exact absurd H (by simp)
     ·rw[if_neg c19]at H;exact absurd H (by simp)
    ·rw[if_neg c18]at H;exact absurd H (by simp)
 ·replace c10:=Bool.eq_false_iff.mpr c10;subst c10;rw[if_neg Bool.false_ne_true]at H;simp only[Option.some.injEq,Prod.mk.injEq]at H;obtain⟨rfl,rfl,rfl,rfl⟩:=H;have hnb26:=NB167_166.out;have hnc26:=NB166_167.out;obtain⟨_,_,_,_⟩:=cells2_ BK167.out;go_wp2
  refine bodyPost_ret (results_list (rs:= [.tmp 4,.cell 5 41,.tmp 6]) rfl (by simp) (.tmp (.cell gb167 41 #[.string (⟨#[]⟩:ByteArray),.int .i64 0] (0,0) _ rfl zz43 Tryz.underlying41 rfl (by kernel_rfl) (.tmp .nil)))) rfl ?_;exact⟨zz2,zz49⟩
end Go.Proofs.YtnilblnhlpnpgaaGreatDoor.GFnExactGrammar
