-- Printed by gen.py and its programs for this claim.
import Derived.Test.YtgkipkifkobjnaaGreatDoorGFnExactRecOkx0
import Derived.Test.YtgkipkifkobjnaaGreatDoorGFnExactRecOkx1
import Derived.Test.YtgkipkifkobjnaaGreatDoorZFnExactRecOk
namespace Go.Proofs.YtgkipkifkobjnaaGreatDoor.GFnExactRecOk
open Go.RowKit Go.Proofs.YtgkipkifkobjnaaGreatDoorW.PrintWords Go.Proofs.YtgkipkifkobjnaaGreatDoorW.PrintLast Go.Proofs.YtgkipkifkobjnaaGreatDoorW.PrintMore Go.Proofs.YtgkipkifkobjnaaGreatDoorW.Zs
set_option maxHeartbeats 40000000
set_option maxRecDepth 100000
attribute [local go_sem] max2_int min2_int max_two min_two max_three min_three max_four min_four
set_option linter.unusedVariables false
set_option linter.unusedSimpArgs false
mutual
def spec_ReadDec.j0:Nat→ByteArray→Bool→Option (Int×Bool)
 |0,_,_=>none
 |k+1,x0,x13=>if x13=true then(some (0,false))else(spec_ReadDec.l0 k x0 0 0)
def spec_ReadDec.l0:Nat→ByteArray→Int→Int→Option (Int×Bool)
 |0,_,_,_=>none
 |k+1,x0,x4,x5=>if x5<(x0.size:Int)then(if 0≤x5 then((spec_l1digit.f (bt x0 x5)).bind fun t109=>(if t109=true then(spec_ReadDec.l0 k x0 (wrap64 ((wrap64 (x4*10))+(((bt x0 x5)-48)%256))) (wrap64 (x5+1)))else(some (0,false))))else(none))else((spec_DecText.f k x4).bind fun t110=>(if t110.toList=x0.toList then(some (x4,true))else(some (0,false))))
end
def spec_ReadDec.f (k:Nat) (a0:ByteArray):Option (Int×Bool):=if(a0.size:Int)=0 then(spec_ReadDec.j0 k a0 true)else(spec_ReadDec.j0 k a0 (decide ((a0.size:Int)>15)))
theorem spec_ReadDec.calls (k:Nat) (a0:ByteArray) (r1:Int) (r2:Bool) (w:World) (h:spec_ReadDec.f k a0=some (r1,r2)):
  Calls Tryz.prog 49 #[.string a0] w fun e w'=>e= .returned (.tuple #[.int .i64 r1,.bool r2])∧Below w.heap.size w w':=by
 have HB:=Aside0.mk (Below.refl w.heap.size w);have H:(if(a0.size:Int)=0 then(spec_ReadDec.j0 k a0 true)else(spec_ReadDec.j0 k a0 (decide ((a0.size:Int)>15))))=some (r1,r2):=h;clear h;have HC2:=Aside0.mk H;clear H;go_enter Tryz.func49,Tryz.ntmps49
 go_upto_region 1 with(fail)
 go_cut [13] (fun v13 wc=> ∃(kq:Nat) (x13_1:Bool),v13= .bool x13_1∧Aside0 (spec_ReadDec.j0 kq a0 x13_1=some (r1,r2))∧Aside0 (kq≤k)∧Aside0 (Below w.heap.size w wc))
 case first=>
  have H:=HC2.out;clear HC2
  by_cases c3:(a0.size:Int)=0
  ·rw[if_pos c3]at H;have c3b0:((a0.size:Int)==0)=true:=beq_iff_eq.mpr c3;have c3b1:((a0.size:Int)!=0)=false:=bne_eq_false_iff_eq.mpr c3;clear c3;(first|rw[c3b0]|(simp only[i64_w,i32_w];rw[c3b0])|rw[c3b1]|(rw[c3b2];simp only[Bool.not_true,Bool.not_false])|skip);have H':=Aside0.mk H;clear H;go_wp2
   go_meet
   case rel=>exact⟨_,(true),zz1,H',⟨zz23⟩,⟨zz0⟩⟩
  ·rw[if_neg c3]at H;have c3b0:((a0.size:Int)==0)=false:=beq_eq_false_iff_ne.mpr c3;have c3b1:((a0.size:Int)!=0)=true:=bne_iff_ne.mpr c3;(first|rw[c3b0]|(simp only[i64_w,i32_w];rw[c3b0])|rw[c3b1]|(rw[c3b2];simp only[Bool.not_true,Bool.not_false])|skip);have H':=Aside0.mk H;clear H;go_wp2
   go_meet
   case rel=>exact⟨_,(decide ((a0.size:Int)>15)),zz1,H',⟨zz23⟩,⟨zz0⟩⟩
 case rest=>
  clear HC2;(try clear p2);(try clear c3);(try clear c3b0);(try clear c3b1);obtain⟨kq,x13_1,rfl,HA,HJ1,HB⟩:=hcut
  cases kq with
  |zero=>exact absurd HA.out (by simp[spec_ReadDec.j0])
  |succ kj1=>
   have H:=HA.out;clear HA;simp only[spec_ReadDec.j0]at H
   by_cases c4:x13_1=true
   ·subst c4;rw[if_pos rfl]at H;simp only[Option.some.injEq,Prod.mk.injEq]at H;obtain⟨rfl,rfl⟩:=H;go_wp2
    go_ret2
    exact⟨zz2,zz0⟩
   ·replace c4:=Bool.eq_false_iff.mpr c4;subst c4;rw[if_neg Bool.false_ne_true]at H;have H':=Aside0.mk H;clear H;go_wp2
    go_loopg [4,5] kj1 (fun kq v4 v5 w'=> ∃(x4_2 x5_2:Int),v4= .int .i64 x4_2∧v5= .int .i64 x5_2∧Aside0 (spec_ReadDec.l0 kq a0 x4_2 x5_2=some (r1,r2))∧Aside0 (kq≤kj1)∧Aside0 (Below w.heap.size w w'))
    case atStart=>exact⟨(0),(0),zz1,zz1,H',⟨Nat.le_refl _⟩,⟨zz0⟩⟩
    case round=>
     clear H';(try clear p2);(try clear c3);(try clear c3b0);(try clear c3b1);(try clear c4);(try clear p2);obtain⟨x4_2,x5_2,rfl,rfl,HA,HK2,HB⟩:=hrel
     cases gk with
     |zero=>exact absurd HA.out (by simp[spec_ReadDec.l0])
     |succ k2=>
      have H:=HA.out;clear HA;simp only[spec_ReadDec.l0]at H
      by_cases c5:x5_2<(a0.size:Int)
      ·rw[if_pos c5]at H;have c5b0:decide (x5_2<(a0.size:Int))=true:=decide_eq_true c5;clear c5
       by_cases c6:0≤x5_2
       ·rw[if_pos c6]at H;have c6b0:decide (0≤x5_2)=true:=decide_eq_true c6;clear c6;replace H:=Option.bind_eq_some_iff.mp H;obtain⟨t109,A80,H⟩:=H;(try dsimp only at H);have A8:=Aside0.mk A80;clear A80;have HC9:=Aside0.mk H;clear H;have p7:0≤(x5_2:Int):=of_decide_eq_true zz3;have q7:x5_2<(a0.size:Int):=of_decide_eq_true zz3;have hx7:=bt_at a0 x5_2;replace p7:=eq_true p7;replace q7:=eq_true q7;go_upto_if 24 with(first|((with_reducible refine gate_callee (f:=76) rfl ?_);refine goesR_ 23 Tryz.func76 #[.int .u8 (bt a0 x5_2)] (spec_l1digit.calls (bt a0 x5_2) t109 _ A8.out) ?_;rintro w' ⟨nd,rfl⟩))
        (try simp only[Act.put,List.setIfInBounds_toArray,List.set_cons_zero,List.set_cons_succ]);(try(rw[drewN_self wr];generalize hq_:World.drewN wr _=wr;have n0_:Aside0 (Below w.heap.size w wr):=⟨zz107⟩;clear HB hq_;have HB:=n0_;clear n0_));have H:=HC9.out;clear HC9
        by_cases c10:t109=true
        ·subst c10;rw[if_pos rfl]at H;have H':=Aside0.mk H;clear H;have p11:0≤(x5_2:Int):=of_decide_eq_true zz3;have q11:x5_2<(a0.size:Int):=of_decide_eq_true zz3;have hx11:=bt_at a0 x5_2;replace p11:=eq_true p11;replace q11:=eq_true q11;go_wp2
         go_roundg k2
         (case measure=>have:=HJ1.out;have:=HK2.out;omega);case rel=>exact⟨(wrap64 ((wrap64 (x4_2*10))+(((bt a0 x5_2)-48)%256))),(wrap64 (x5_2+1)),zz1,zz1,H',⟨zz85⟩,⟨zz0⟩⟩
        ·replace c10:=Bool.eq_false_iff.mpr c10;subst c10;rw[if_neg Bool.false_ne_true]at H;simp only[Option.some.injEq,Prod.mk.injEq]at H;obtain⟨rfl,rfl⟩:=H;go_wp2
         go_ret2
         exact⟨zz2,zz0⟩
       ·rw[if_neg c6]at H;exact absurd H (by simp)
      ·rw[if_neg c5]at H;have c5b0:decide (x5_2<(a0.size:Int))=false:=decide_eq_false c5;clear c5;replace H:=Option.bind_eq_some_iff.mp H;obtain⟨t110,A120,H⟩:=H;(try dsimp only at H);have A12:=Aside0.mk A120;clear A120;have HC13:=Aside0.mk H;clear H;go_upto_if 36 with(first|((with_reducible refine gate_callee (f:=77) rfl ?_);refine goesR_ 34 Tryz.func77 #[.int .i64 x4_2] (spec_DecText.calls k2 x4_2 t110 _ A12.out) ?_;rintro w14 hb;replace HB:=Aside0.mk (below_step zz0 hb);(try clear hb)))
       (try simp only[Act.put,List.setIfInBounds_toArray,List.set_cons_zero,List.set_cons_succ]);have H:=HC13.out;clear HC13
       by_cases c15:t110.toList=a0.toList
       ·rw[if_pos c15]at H;have c15b0:(t110.toList==a0.toList)=true:=beq_iff_eq.mpr c15;have c15b1:(t110.toList !=a0.toList)=false:=bne_eq_false_iff_eq.mpr c15;clear c15;(first|rw[c15b0]|(simp only[i64_w,i32_w];rw[c15b0])|rw[c15b1]|(rw[c15b2];simp only[Bool.not_true,Bool.not_false])|skip);simp only[Option.some.injEq,Prod.mk.injEq]at H;obtain⟨rfl,rfl⟩:=H;go_wp2
        go_ret2
        exact⟨zz2,zz0⟩
       ·rw[if_neg c15]at H;have c15b0:(t110.toList==a0.toList)=false:=beq_eq_false_iff_ne.mpr c15;have c15b1:(t110.toList !=a0.toList)=true:=bne_iff_ne.mpr c15;(first|rw[c15b0]|(simp only[i64_w,i32_w];rw[c15b0])|rw[c15b1]|(rw[c15b2];simp only[Bool.not_true,Bool.not_false])|skip);simp only[Option.some.injEq,Prod.mk.injEq]at H;obtain⟨rfl,rfl⟩:=H;go_wp2
        go_ret2
        exact⟨zz2,zz0⟩
def spec_l7split.l0:Nat→ByteArray→Int→List ByteArray→Int→Int→Option (List ByteArray)
 |0,_,_,_,_,_=>none
 |k+1,x0,x1,x5,x6,x7=>if x7≤(x0.size:Int)then(if x7=(x0.size:Int)then(if 0≤x6 then(if x6≤x7 then(if x5.length<8796093022208 then(spec_l7split.l0 k x0 x1 (x5++ [x0.extract (x6:Int).toNat (x7:Int).toNat]) (wrap64 (x7+1)) (wrap64 (x7+1)))else(none))else(none))else(none))else(if 0≤x7 then(if x7<(x0.size:Int)then(if(bt x0 x7)=x1 then(if 0≤x6 then(if x6≤x7 then(if x5.length<8796093022208 then(spec_l7split.l0 k x0 x1 (x5++ [x0.extract (x6:Int).toNat (x7:Int).toNat]) (wrap64 (x7+1)) (wrap64 (x7+1)))else(none))else(none))else(none))else(spec_l7split.l0 k x0 x1 x5 x6 (wrap64 (x7+1))))else(none))else(none)))else(some x5)
def spec_l7split.f (k:Nat) (a0:ByteArray) (a1:Int):Option (List ByteArray):=spec_l7split.l0 k a0 a1 ([]:List ByteArray) 0 0
theorem spec_l7split.calls (k:Nat) (a0:ByteArray) (a1:Int) (r:List ByteArray) (w:World) (h:spec_l7split.f k a0 a1=some r):
  Calls Tryz.prog 78 #[.string a0,.int .u8 a1] w fun e w'=> ∃v0_:Value,e= .returned (v0_)∧Kd.R Kd.string 9 w' w.heap.size (fun _=>True) v0_ r∧Below w.heap.size w w':=by
 have HB:=Aside0.mk (Below.refl w.heap.size w);have H:(spec_l7split.l0 k a0 a1 ([]:List ByteArray) 0 0)=some r:=h;clear h;have H':=Aside0.mk H;clear H;go_enter Tryz.func78,Tryz.ntmps78
 go_wp2
 go_loopg [5,6,7] k (fun kq v5 v6 v7 w'=> ∃(x5_1:List ByteArray) (x6_1 x7_1:Int),v6= .int .i64 x6_1∧v7= .int .i64 x7_1∧Aside0 (spec_l7split.l0 kq a0 a1 x5_1 x6_1 x7_1=some r)∧Aside0 (kq≤k)∧Aside0 (Kd.R Kd.string 9 w' w.heap.size (fun _=>True) v5 x5_1)∧Aside0 (Below w.heap.size w w'))
 case atStart=>exact⟨(([]:List ByteArray)),(0),(0),zz1,zz1,H',⟨Nat.le_refl _⟩,⟨zz21⟩,⟨zz0⟩⟩
 case round=>
  clear H';(try clear p2);obtain⟨x5_1,x6_1,x7_1,rfl,rfl,HA,HK1,HO_5,HB⟩:=hrel
  cases gk with
  |zero=>exact absurd HA.out (by simp[spec_l7split.l0])
  |succ k1=>
   have H:=HA.out;clear HA;simp only[spec_l7split.l0]at H
   by_cases c3:x7_1≤(a0.size:Int)
   ·rw[if_pos c3]at H;have c3b0:decide (x7_1≤(a0.size:Int))=true:=decide_eq_true c3;clear c3
    by_cases c4:x7_1=(a0.size:Int)
    ·rw[if_pos c4]at H;have c4b0:(x7_1==(a0.size:Int))=true:=beq_iff_eq.mpr c4;have c4b1:(x7_1 !=(a0.size:Int))=false:=bne_eq_false_iff_eq.mpr c4;clear c4
     by_cases c5:0≤x6_1
     ·rw[if_pos c5]at H;have c5b0:=eq_true c5;have c5b1:decide (0≤x6_1)=true:=decide_eq_true c5;clear c5
      by_cases c6:x6_1≤x7_1
      ·rw[if_pos c6]at H;have c6b0:=eq_true c6;have c6b1:decide (x6_1≤x7_1)=true:=decide_eq_true c6;clear c6;have c7b0:=eq_true (of_decide_eq_true zz3:x7_1≤(a0.size:Int))
       by_cases c8:x5_1.length<8796093022208
       ·rw[if_pos c8]at H;have LMc8:=Aside0.mk c8;clear c8;obtain⟨y111,hy111⟩: ∃y_:List ByteArray,y_=(x5_1++ [a0.extract (x6_1:Int).toNat (x7_1:Int).toNat]):=⟨_,rfl⟩;replace H:(spec_l7split.l0 k1 a0 a1 y111 (wrap64 (x7_1+1)) (wrap64 (x7_1+1)))=some r:=by first|(rw[hy111];with_reducible exact H)|(have H2_:=(Option.bind_some _ _).symm.trans H;rw[hy111];with_reducible exact H2_)|(have H2_:=(Option.bind_some _ _).symm.trans H;with_reducible exact H2_)|with_reducible exact H|(rw[hy111];exact H)|exact H
        have Ny111:=Aside0.mk hy111;clear hy111;have H':=Aside0.mk H;clear H;go_wp2_with (first|((with_reducible refine gate_builtin (b:= .append) (xs:= #[.tmp 25,.tmp 30]) rfl ?_);at_builtin;refine Kd.R_append Kd.string (w0:=w) w.heap.size rfl (.tmp 25) (.tmp 30) 71 9 (.string ⟨#[]⟩) 16 rfl Tryz.underlying71 info9 rfl (by decide) (by omega) u5 x5_1 (a0.extract (x6_1:Int).toNat (x7_1:Int).toNat) [.string (a0.extract (x6_1:Int).toNat (x7_1:Int).toNat)] (fun _=>True) (fun _=>False) rfl rfl ?aP (fun _ hk=>hk.elim) ?aF ?aO ?aB ?aS ?aL ?_;(case aP=>exact rfl);(case aB=>exact zz0);(case aF=>exact(fun _ _=>trivial));(case aO=>exact zz37);(case aS=>exact(below_size zz0));(case aL=>have:=LMc8.out;omega);intro v112 w9 ho hb hg hat;rw[←Ny111.out]at ho;replace HB:=Aside0.mk (hb);have HO113:=Aside0.mk (ho);clear HO_5;clear ho hb hg hat))
        go_roundg k1
        (case measure=>have:=HK1.out;omega);case rel=>exact⟨(y111),(wrap64 (x7_1+1)),(wrap64 (x7_1+1)),zz1,zz1,H',⟨zz60⟩,⟨by(with_reducible repeat(first|apply Kd.R_alloc|apply Kd.R_drewN|apply Kd.R_drew));exact HO113.out⟩,⟨zz0⟩⟩
       ·rw[if_neg c8]at H;exact absurd H (by simp)
      ·rw[if_neg c6]at H;exact absurd H (by simp)
     ·rw[if_neg c5]at H;exact absurd H (by simp)
    ·rw[if_neg c4]at H;have c4b0:(x7_1==(a0.size:Int))=false:=beq_eq_false_iff_ne.mpr c4;have c4b1:(x7_1 !=(a0.size:Int))=true:=bne_iff_ne.mpr c4
     by_cases c10:0≤x7_1
     ·rw[if_pos c10]at H;have c10b0:decide (0≤x7_1)=true:=decide_eq_true c10;clear c10
      by_cases c11:x7_1<(a0.size:Int)
      ·rw[if_pos c11]at H;have c11b0:decide (x7_1<(a0.size:Int))=true:=decide_eq_true c11;clear c11
       by_cases c13:(bt a0 x7_1)=a1
       ·rw[if_pos c13]at H;have c13b0:((bt a0 x7_1)==a1)=true:=beq_iff_eq.mpr c13;have c13b1:((bt a0 x7_1)!=a1)=false:=bne_eq_false_iff_eq.mpr c13;clear c13
        by_cases c14:0≤x6_1
        ·rw[if_pos c14]at H;have c14b0:=eq_true c14;have c14b1:decide (0≤x6_1)=true:=decide_eq_true c14;clear c14
         by_cases c15:x6_1≤x7_1
         ·rw[if_pos c15]at H;have c15b0:=eq_true c15;have c15b1:decide (x6_1≤x7_1)=true:=decide_eq_true c15;clear c15;have c16b0:=eq_true (of_decide_eq_true zz3:x7_1≤(a0.size:Int))
          by_cases c17:x5_1.length<8796093022208
          ·rw[if_pos c17]at H;have LMc17:=Aside0.mk c17;clear c17;obtain⟨y114,hy114⟩: ∃y_:List ByteArray,y_=(x5_1++ [a0.extract (x6_1:Int).toNat (x7_1:Int).toNat]):=⟨_,rfl⟩;replace H:(spec_l7split.l0 k1 a0 a1 y114 (wrap64 (x7_1+1)) (wrap64 (x7_1+1)))=some r:=by first|(rw[hy114];with_reducible exact H)|(have H2_:=(Option.bind_some _ _).symm.trans H;rw[hy114];with_reducible exact H2_)|(have H2_:=(Option.bind_some _ _).symm.trans H;with_reducible exact H2_)|with_reducible exact H|(rw[hy114];exact H)|exact H
           have Ny114:=Aside0.mk hy114;clear hy114;have H':=Aside0.mk H;clear H;have p12:0≤(x7_1:Int):=of_decide_eq_true zz3;have q12:x7_1<(a0.size:Int):=of_decide_eq_true zz3;have hx12:=bt_at a0 x7_1;replace p12:=eq_true p12;replace q12:=eq_true q12;go_wp2_with (first|((with_reducible refine gate_builtin (b:= .append) (xs:= #[.tmp 25,.tmp 30]) rfl ?_);at_builtin;refine Kd.R_append Kd.string (w0:=w) w.heap.size rfl (.tmp 25) (.tmp 30) 71 9 (.string ⟨#[]⟩) 16 rfl Tryz.underlying71 info9 rfl (by decide) (by omega) u5 x5_1 (a0.extract (x6_1:Int).toNat (x7_1:Int).toNat) [.string (a0.extract (x6_1:Int).toNat (x7_1:Int).toNat)] (fun _=>True) (fun _=>False) rfl rfl ?aP (fun _ hk=>hk.elim) ?aF ?aO ?aB ?aS ?aL ?_;(case aP=>exact rfl);(case aB=>exact zz0);(case aF=>exact(fun _ _=>trivial));(case aO=>exact zz37);(case aS=>exact(below_size zz0));(case aL=>have:=LMc17.out;omega);intro v115 w18 ho hb hg hat;rw[←Ny114.out]at ho;replace HB:=Aside0.mk (hb);have HO116:=Aside0.mk (ho);clear HO_5;clear ho hb hg hat))
           go_roundg k1
           (case measure=>have:=HK1.out;omega);case rel=>exact⟨(y114),(wrap64 (x7_1+1)),(wrap64 (x7_1+1)),zz1,zz1,H',⟨zz60⟩,⟨by(with_reducible repeat(first|apply Kd.R_alloc|apply Kd.R_drewN|apply Kd.R_drew));exact HO116.out⟩,⟨zz0⟩⟩
          ·rw[if_neg c17]at H;exact absurd H (by simp)
         ·rw[if_neg c15]at H;exact absurd H (by simp)
        ·rw[if_neg c14]at H;exact absurd H (by simp)
       ·rw[if_neg c13]at H;have c13b0:((bt a0 x7_1)==a1)=false:=beq_eq_false_iff_ne.mpr c13;have c13b1:((bt a0 x7_1)!=a1)=true:=bne_iff_ne.mpr c13;have H':=Aside0.mk H;clear H;have p12:0≤(x7_1:Int):=of_decide_eq_true zz3;have q12:x7_1<(a0.size:Int):=of_decide_eq_true zz3;have hx12:=bt_at a0 x7_1;replace p12:=eq_true p12;replace q12:=eq_true q12;go_wp2
        go_roundg k1
        (case measure=>have:=HK1.out;omega);case rel=>exact⟨(x5_1),(x6_1),(wrap64 (x7_1+1)),zz1,zz1,H',⟨zz60⟩,⟨zz37⟩,⟨zz0⟩⟩
      ·rw[if_neg c11]at H;exact absurd H (by simp)
     ·rw[if_neg c10]at H;exact absurd H (by simp)
   ·rw[if_neg c3]at H;have c3b0:decide (x7_1≤(a0.size:Int))=false:=decide_eq_false c3;clear c3;obtain rfl:=Option.some.inj H;go_wp2
    go_ret;exact⟨_,zz2,zz37,zz0⟩
mutual
def spec_ReadHex.j0:Nat→ByteArray→Bool→Option (Int×Bool)
 |0,_,_=>none
 |k+1,x0,x14=>if x14=true then(some (0,false))else(spec_ReadHex.l0 k x0 0 0)
def spec_ReadHex.l0:Nat→ByteArray→Int→Int→Option (Int×Bool)
 |0,_,_,_=>none
 |k+1,x0,x4,x5=>if x5<(x0.size:Int)then(if 0≤x5 then((spec_l1lower.f (bt x0 x5)).bind fun t117=>((spec_l1digit.f t117).bind fun t118=>(if t118=true then(spec_ReadHex.l0 k x0 (wrap64 ((wrap64 (x4*16))+((t117-48)%256))) (wrap64 (x5+1)))else(if t117≥97 then(if t117≤102 then(spec_ReadHex.l0 k x0 (wrap64 ((wrap64 ((wrap64 (x4*16))+((t117-97)%256)))+10)) (wrap64 (x5+1)))else(some (0,false)))else(some (0,false))))))else(none))else(some (x4,true))
end
def spec_ReadHex.f (k:Nat) (a0:ByteArray):Option (Int×Bool):=if(a0.size:Int)=0 then(spec_ReadHex.j0 k a0 true)else(spec_ReadHex.j0 k a0 (decide ((a0.size:Int)>7)))
theorem spec_ReadHex.calls (k:Nat) (a0:ByteArray) (r1:Int) (r2:Bool) (w:World) (h:spec_ReadHex.f k a0=some (r1,r2)):
  Calls Tryz.prog 108 #[.string a0] w fun e w'=>e= .returned (.tuple #[.int .i64 r1,.bool r2])∧Drawn0 w w':=by
 have H:(if(a0.size:Int)=0 then(spec_ReadHex.j0 k a0 true)else(spec_ReadHex.j0 k a0 (decide ((a0.size:Int)>7))))=some (r1,r2):=h;clear h;have HC2:=Aside0.mk H;clear H;go_enter Tryz.func108,Tryz.ntmps108
 go_upto_region 1 with(fail)
 go_cut [14] (fun v14 wc=> ∃(kq:Nat) (x14_1:Bool),v14= .bool x14_1∧Aside0 (spec_ReadHex.j0 kq a0 x14_1=some (r1,r2))∧Aside0 (kq≤k)∧Drawn0 w wc)
 case first=>
  have H:=HC2.out;clear HC2
  by_cases c3:(a0.size:Int)=0
  ·rw[if_pos c3]at H;have c3b0:((a0.size:Int)==0)=true:=beq_iff_eq.mpr c3;have c3b1:((a0.size:Int)!=0)=false:=bne_eq_false_iff_eq.mpr c3;clear c3;(first|rw[c3b0]|(simp only[i64_w,i32_w];rw[c3b0])|rw[c3b1]|(rw[c3b2];simp only[Bool.not_true,Bool.not_false])|skip);have H':=Aside0.mk H;clear H;go_wp2
   go_meet
   case rel=>exact⟨_,(true),zz1,H',⟨zz23⟩,zz4⟩
  ·rw[if_neg c3]at H;have c3b0:((a0.size:Int)==0)=false:=beq_eq_false_iff_ne.mpr c3;have c3b1:((a0.size:Int)!=0)=true:=bne_iff_ne.mpr c3;(first|rw[c3b0]|(simp only[i64_w,i32_w];rw[c3b0])|rw[c3b1]|(rw[c3b2];simp only[Bool.not_true,Bool.not_false])|skip);have H':=Aside0.mk H;clear H;go_wp2
   go_meet
   case rel=>exact⟨_,(decide ((a0.size:Int)>7)),zz1,H',⟨zz23⟩,zz4⟩
 case rest=>
  clear HC2;(try clear c1);(try clear p2);(try clear c3);(try clear c3b0);(try clear c3b1);obtain⟨kq,x14_1,rfl,HA,HJ1,⟨mc1,rfl⟩⟩:=hcut
  cases kq with
  |zero=>exact absurd HA.out (by simp[spec_ReadHex.j0])
  |succ kj1=>
   have H:=HA.out;clear HA;simp only[spec_ReadHex.j0]at H
   by_cases c4:x14_1=true
   ·subst c4;rw[if_pos rfl]at H;simp only[Option.some.injEq,Prod.mk.injEq]at H;obtain⟨rfl,rfl⟩:=H;go_wp2
    go_ret2
    exact⟨zz1,zz4⟩
   ·replace c4:=Bool.eq_false_iff.mpr c4;subst c4;rw[if_neg Bool.false_ne_true]at H;have H':=Aside0.mk H;clear H;go_wp2
    go_loopg [4,5] kj1 (fun kq v4 v5 w'=> ∃(x4_2 x5_2:Int),v4= .int .i64 x4_2∧v5= .int .i64 x5_2∧Aside0 (spec_ReadHex.l0 kq a0 x4_2 x5_2=some (r1,r2))∧Aside0 (kq≤kj1)∧Drawn0 w w')
    case atStart=>exact⟨(0),(0),zz1,zz1,H',⟨Nat.le_refl _⟩,zz4⟩
    case round=>
     clear H';(try clear c1);(try clear p2);(try clear c3);(try clear c3b0);(try clear c3b1);(try clear c4);(try clear p2);obtain⟨x4_2,x5_2,rfl,rfl,HA,HK2,⟨m2,rfl⟩⟩:=hrel
     cases gk with
     |zero=>exact absurd HA.out (by simp[spec_ReadHex.l0])
     |succ k2=>
      have H:=HA.out;clear HA;simp only[spec_ReadHex.l0]at H
      by_cases c5:x5_2<(a0.size:Int)
      ·rw[if_pos c5]at H;have c5b0:decide (x5_2<(a0.size:Int))=true:=decide_eq_true c5;clear c5
       by_cases c6:0≤x5_2
       ·rw[if_pos c6]at H;have c6b0:decide (0≤x5_2)=true:=decide_eq_true c6;clear c6;replace H:=Option.bind_eq_some_iff.mp H;obtain⟨t117,A80,H⟩:=H;(try dsimp only at H);have A8:=Aside0.mk A80;clear A80;replace H:=Option.bind_eq_some_iff.mp H;obtain⟨t118,A90,H⟩:=H;(try dsimp only at H);have A9:=Aside0.mk A90;clear A90;have HC10:=Aside0.mk H;clear H;have p7:0≤(x5_2:Int):=of_decide_eq_true zz3;have q7:x5_2<(a0.size:Int):=of_decide_eq_true zz3;have hx7:=bt_at a0 x5_2;replace p7:=eq_true p7;replace q7:=eq_true q7;go_upto_if 25 with(first|((with_reducible refine gate_callee (f:=75) rfl ?_);refine goesR_ 24 Tryz.func75 #[.int .u8 (bt a0 x5_2)] (spec_l1lower.calls (bt a0 x5_2) t117 _ A8.out) ?_;rintro w' ⟨nd,rfl⟩)|((with_reducible refine gate_callee (f:=76) rfl ?_);refine goesR_ 27 Tryz.func76 #[.int .u8 t117] (spec_l1digit.calls t117 t118 _ A9.out) ?_;rintro w' ⟨nd,rfl⟩))
        (try simp only[Act.put,List.setIfInBounds_toArray,List.set_cons_zero,List.set_cons_succ]);have H:=HC10.out;clear HC10
        by_cases c11:t118=true
        ·subst c11;rw[if_pos rfl]at H;have H':=Aside0.mk H;clear H;go_wp2
         go_roundg k2
         (case measure=>have:=HJ1.out;have:=HK2.out;omega);case rel=>exact⟨(wrap64 ((wrap64 (x4_2*16))+((t117-48)%256))),(wrap64 (x5_2+1)),zz1,zz1,H',⟨zz85⟩,zz4⟩
        ·replace c11:=Bool.eq_false_iff.mpr c11;subst c11;rw[if_neg Bool.false_ne_true]at H
         by_cases c12:t117≥97
         ·rw[if_pos c12]at H;have c12b0:decide (97≤t117)=true:=decide_eq_true c12;clear c12;(first|rw[c12b0]|(simp only[i64_w,i32_w];rw[c12b0])|skip)
          by_cases c13:t117≤102
          ·rw[if_pos c13]at H;have c13b0:decide (t117≤102)=true:=decide_eq_true c13;clear c13;have H':=Aside0.mk H;clear H;go_wp2
           go_roundg k2
           (case measure=>have:=HJ1.out;have:=HK2.out;omega);case rel=>exact⟨(wrap64 ((wrap64 ((wrap64 (x4_2*16))+((t117-97)%256)))+10)),(wrap64 (x5_2+1)),zz1,zz1,H',⟨zz85⟩,zz4⟩
          ·rw[if_neg c13]at H;have c13b0:decide (t117≤102)=false:=decide_eq_false c13;clear c13;simp only[Option.some.injEq,Prod.mk.injEq]at H;obtain⟨rfl,rfl⟩:=H;go_wp2
           go_ret2
           exact⟨zz1,zz4⟩
         ·rw[if_neg c12]at H;have c12b0:decide (97≤t117)=false:=decide_eq_false c12;clear c12;(first|rw[c12b0]|(simp only[i64_w,i32_w];rw[c12b0])|skip);simp only[Option.some.injEq,Prod.mk.injEq]at H;obtain⟨rfl,rfl⟩:=H;go_wp2
          go_ret2
          exact⟨zz1,zz4⟩
       ·rw[if_neg c6]at H;exact absurd H (by simp)
      ·rw[if_neg c5]at H;have c5b0:decide (x5_2<(a0.size:Int))=false:=decide_eq_false c5;clear c5;simp only[Option.some.injEq,Prod.mk.injEq]at H;obtain⟨rfl,rfl⟩:=H;go_wp2
       go_ret2
       exact⟨zz1,zz4⟩
def spec_l1has.l0:Nat→ByteArray→Int→Int→Option (Bool)
 |0,_,_,_=>none
 |k+1,x0,x1,x5=>if x5<(x0.size:Int)then(if 0≤x5 then(if(bt x0 x5)=x1 then(some true)else(spec_l1has.l0 k x0 x1 (wrap64 (x5+1))))else(none))else(some false)
def spec_l1has.f (k:Nat) (a0:ByteArray) (a1:Int):Option (Bool):=spec_l1has.l0 k a0 a1 0
theorem spec_l1has.calls (k:Nat) (a0:ByteArray) (a1:Int) (r:Bool) (w:World) (h:spec_l1has.f k a0 a1=some r):
  Calls Tryz.prog 127 #[.string a0,.int .u8 a1] w fun e w'=>e= .returned (.bool r)∧Drawn0 w w':=by
 have H:(spec_l1has.l0 k a0 a1 0)=some r:=h;clear h;have H':=Aside0.mk H;clear H;go_enter Tryz.func127,Tryz.ntmps127
 go_wp2
 go_loopg [5] k (fun kq v5 w'=> ∃(x5_1:Int),v5= .int .i64 x5_1∧Aside0 (spec_l1has.l0 kq a0 a1 x5_1=some r)∧Aside0 (kq≤k)∧Drawn0 w w')
 case atStart=>exact⟨(0),zz1,H',⟨Nat.le_refl _⟩,zz4⟩
 case round=>
  clear H';(try clear c1);(try clear p2);obtain⟨x5_1,rfl,HA,HK1,⟨m1,rfl⟩⟩:=hrel
  cases gk with
  |zero=>exact absurd HA.out (by simp[spec_l1has.l0])
  |succ k1=>
   have H:=HA.out;clear HA;simp only[spec_l1has.l0]at H
   by_cases c3:x5_1<(a0.size:Int)
   ·rw[if_pos c3]at H;have c3b0:decide (x5_1<(a0.size:Int))=true:=decide_eq_true c3;clear c3
    by_cases c4:0≤x5_1
    ·rw[if_pos c4]at H;have c4b0:decide (0≤x5_1)=true:=decide_eq_true c4;clear c4
     by_cases c6:(bt a0 x5_1)=a1
     ·rw[if_pos c6]at H;have c6b0:((bt a0 x5_1)==a1)=true:=beq_iff_eq.mpr c6;have c6b1:((bt a0 x5_1)!=a1)=false:=bne_eq_false_iff_eq.mpr c6;clear c6;obtain rfl:=Option.some.inj H;have p5:0≤(x5_1:Int):=of_decide_eq_true zz3;have q5:x5_1<(a0.size:Int):=of_decide_eq_true zz3;have hx5:=bt_at a0 x5_1;replace p5:=eq_true p5;replace q5:=eq_true q5;go_wp2
      go_ret;exact⟨zz1,zz4⟩
     ·rw[if_neg c6]at H;have c6b0:((bt a0 x5_1)==a1)=false:=beq_eq_false_iff_ne.mpr c6;have c6b1:((bt a0 x5_1)!=a1)=true:=bne_iff_ne.mpr c6;have H':=Aside0.mk H;clear H;have p5:0≤(x5_1:Int):=of_decide_eq_true zz3;have q5:x5_1<(a0.size:Int):=of_decide_eq_true zz3;have hx5:=bt_at a0 x5_1;replace p5:=eq_true p5;replace q5:=eq_true q5;go_wp2
      go_roundg k1
      (case measure=>have:=HK1.out;omega);case rel=>exact⟨(wrap64 (x5_1+1)),zz1,H',⟨zz60⟩,zz4⟩
    ·rw[if_neg c4]at H;exact absurd H (by simp)
   ·rw[if_neg c3]at H;have c3b0:decide (x5_1<(a0.size:Int))=false:=decide_eq_false c3;clear c3;obtain rfl:=Option.some.inj H;go_wp2
    go_ret;exact⟨zz1,zz4⟩
def spec_l7free.f (k:Nat) (a0:Int):Option (Bool):=(spec_l1lower.f a0).bind fun t119=>(if t119≥97 then(if t119≤122 then(some true)else((spec_l1digit.f a0).bind fun t120=>(if t120=true then(some true)else((spec_l1has.f k (⟨#[45,46,95,126]⟩:ByteArray) a0).bind fun t121=>(some t121)))))else((spec_l1digit.f a0).bind fun t122=>(if t122=true then(some true)else((spec_l1has.f k (⟨#[45,46,95,126]⟩:ByteArray) a0).bind fun t123=>(some t123)))))
theorem spec_l7free.calls (k:Nat) (a0:Int) (r:Bool) (w:World) (h:spec_l7free.f k a0=some r):
  Calls Tryz.prog 109 #[.int .u8 a0] w fun e w'=>e= .returned (.bool r)∧Drawn0 w w':=by
 have H:((spec_l1lower.f a0).bind fun t119=>(if t119≥97 then(if t119≤122 then(some true)else((spec_l1digit.f a0).bind fun t120=>(if t120=true then(some true)else((spec_l1has.f k (⟨#[45,46,95,126]⟩:ByteArray) a0).bind fun t121=>(some t121)))))else((spec_l1digit.f a0).bind fun t122=>(if t122=true then(some true)else((spec_l1has.f k (⟨#[45,46,95,126]⟩:ByteArray) a0).bind fun t123=>(some t123))))))=some r:=h;clear h;replace H:=Option.bind_eq_some_iff.mp H;obtain⟨t119,A20,H⟩:=H;(try dsimp only at H);have A2:=Aside0.mk A20;clear A20;have HC3:=Aside0.mk H;clear H;go_enter Tryz.func109,Tryz.ntmps109
 repeat' (first|(go_big_may;(first|((with_reducible refine gate_callee (f:=75) rfl ?_);refine goesR_ 5 Tryz.func75 #[.int .u8 a0] (spec_l1lower.calls a0 t119 _ A2.out) ?_;rintro w' ⟨nd,rfl⟩)))|go_values|go_skip|go_big_skip|go_big_want|((first|(with_reducible refine gate_nog rfl ?_)|(fail_if_success with_reducible refine gate_any ?_));go_step)|go_upon|simp only[Bool.not_true,Bool.not_false,Bool.true_and,Bool.false_and,Bool.true_or,Bool.false_or]|dsimp only)
 (try simp only[Act.put,List.setIfInBounds_toArray,List.set_cons_zero,List.set_cons_succ]);have H:=HC3.out;clear HC3
 by_cases c4:t119≥97
 ·rw[if_pos c4]at H;have c4b0:decide (97≤t119)=true:=decide_eq_true c4;clear c4;(first|rw[c4b0]|(simp only[i64_w,i32_w];rw[c4b0])|skip)
  by_cases c5:t119≤122
  ·rw[if_pos c5]at H;have c5b0:decide (t119≤122)=true:=decide_eq_true c5;clear c5;obtain rfl:=Option.some.inj H;go_wp2
   go_ret;exact⟨zz1,zz4⟩
  ·rw[if_neg c5]at H;have c5b0:decide (t119≤122)=false:=decide_eq_false c5;clear c5;replace H:=Option.bind_eq_some_iff.mp H;obtain⟨t120,A60,H⟩:=H;(try dsimp only at H);have A6:=Aside0.mk A60;clear A60;have HC7:=Aside0.mk H;clear H
   repeat' (first|(go_big_may;(first|(go_at_call 76;(with_reducible refine(spec_l1digit.calls a0 t120 _ A6.out).mono ?_);rintro e w' ⟨rfl,⟨nd,rfl⟩⟩)))|go_values|go_skip|go_big_skip|go_big_want|((first|(with_reducible refine gate_nog rfl ?_)|(fail_if_success with_reducible refine gate_any ?_));go_step)|go_upon|simp only[Bool.not_true,Bool.not_false,Bool.true_and,Bool.false_and,Bool.true_or,Bool.false_or]|dsimp only)
   (try simp only[Act.put,List.setIfInBounds_toArray,List.set_cons_zero,List.set_cons_succ]);have H:=HC7.out;clear HC7
   by_cases c8:t120=true
   ·subst c8;rw[if_pos rfl]at H;obtain rfl:=Option.some.inj H;go_wp2
    go_ret;exact⟨zz1,zz4⟩
   ·replace c8:=Bool.eq_false_iff.mpr c8;subst c8;rw[if_neg Bool.false_ne_true]at H;replace H:=Option.bind_eq_some_iff.mp H;obtain⟨t121,A90,H⟩:=H;(try dsimp only at H);have A9:=Aside0.mk A90;clear A90;obtain rfl:=Option.some.inj H;go_wp2_with (first|(go_at_call 127;(with_reducible refine(spec_l1has.calls k (⟨#[45,46,95,126]⟩:ByteArray) a0 t121 _ A9.out).mono ?_);rintro e w' ⟨rfl,⟨nd,rfl⟩⟩))
    go_ret;exact⟨zz1,zz4⟩
 ·rw[if_neg c4]at H;have c4b0:decide (97≤t119)=false:=decide_eq_false c4;clear c4;(first|rw[c4b0]|(simp only[i64_w,i32_w];rw[c4b0])|skip);replace H:=Option.bind_eq_some_iff.mp H;obtain⟨t122,A100,H⟩:=H;(try dsimp only at H);have A10:=Aside0.mk A100;clear A100;have HC11:=Aside0.mk H;clear H
  repeat' (first|(go_big_may;(first|(go_at_call 76;(with_reducible refine(spec_l1digit.calls a0 t122 _ A10.out).mono ?_);rintro e w' ⟨rfl,⟨nd,rfl⟩⟩)))|go_values|go_skip|go_big_skip|go_big_want|((first|(with_reducible refine gate_nog rfl ?_)|(fail_if_success with_reducible refine gate_any ?_));go_step)|go_upon|simp only[Bool.not_true,Bool.not_false,Bool.true_and,Bool.false_and,Bool.true_or,Bool.false_or]|dsimp only)
  (try simp only[Act.put,List.setIfInBounds_toArray,List.set_cons_zero,List.set_cons_succ]);have H:=HC11.out;clear HC11
  by_cases c12:t122=true
  ·subst c12;rw[if_pos rfl]at H;obtain rfl:=Option.some.inj H;go_wp2
   go_ret;exact⟨zz1,zz4⟩
  ·replace c12:=Bool.eq_false_iff.mpr c12;subst c12;rw[if_neg Bool.false_ne_true]at H;replace H:=Option.bind_eq_some_iff.mp H;obtain⟨t123,A130,H⟩:=H;(try dsimp only at H);have A13:=Aside0.mk A130;clear A130;obtain rfl:=Option.some.inj H;go_wp2_with (first|(go_at_call 127;(with_reducible refine(spec_l1has.calls k (⟨#[45,46,95,126]⟩:ByteArray) a0 t123 _ A13.out).mono ?_);rintro e w' ⟨rfl,⟨nd,rfl⟩⟩))
   go_ret;exact⟨zz1,zz4⟩
end Go.Proofs.YtgkipkifkobjnaaGreatDoor.GFnExactRecOk
