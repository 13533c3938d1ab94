-- Laid by gen.py of this session (over the kit's printing program): what the law FnExactIndexOk reaches, as Lean functions, and that Go comes to just that.
import Derived.Test.YteojcbbifacpnaaGreatDoorGFnExactIndexOkx0
import Derived.Test.YteojcbbifacpnaaGreatDoorGFnExactIndexOkx1
import Derived.Test.YteojcbbifacpnaaGreatDoorZFnExactIndexOk
namespace Go.Proofs.YteojcbbifacpnaaGreatDoor.GFnExactIndexOk
open Go.RowKit Go.Proofs.YteojcbbifacpnaaGreatDoorW.PrintWords Go.Proofs.YteojcbbifacpnaaGreatDoorW.PrintLast Go.Proofs.YteojcbbifacpnaaGreatDoorW.PrintMore Go.Proofs.YteojcbbifacpnaaGreatDoorW.Zs
attribute [local go_sem] max2_int min2_int max_two min_two max_three min_three max_four min_four -- for this text's walks alone
set_option linter.unusedVariables false
set_option linter.unusedSimpArgs false
/-! ### spec_ReadDec: function 49 -/
mutual
def spec_ReadDec.j0:Nat→ByteArray→Bool→Option (Int×Bool)
 |0,_,_=>none
 |k+1,x0,x13=>if x13=true then(some (0,false))else(spec_ReadDec.l0 k x0 0 0)
def spec_ReadDec.l0:Nat→ByteArray→Int→Int→Option (Int×Bool)
 |0,_,_,_=>none
 |k+1,x0,x4,x5=>if x5<(x0.size:Int)then(if 0≤x5 then((spec_l1digit.f (bt x0 x5)).bind fun t111=>(if t111=true then(spec_ReadDec.l0 k x0 (wrap64 ((wrap64 (x4*10))+(((bt x0 x5)-48)%256))) (wrap64 (x5+1)))else(some (0,false))))else(none))else((spec_DecText.f k x4).bind fun t112=>(if t112.toList=x0.toList then(some (x4,true))else(some (0,false))))
end
def spec_ReadDec.f (k:Nat) (a0:ByteArray):Option (Int×Bool):=if(a0.size:Int)=0 then(spec_ReadDec.j0 k a0 true)else(spec_ReadDec.j0 k a0 (decide ((a0.size:Int)>15)))
theorem spec_ReadDec.mono_l: ∀k,(∀y0 y1,LeO (spec_ReadDec.j0 k y0 y1) (spec_ReadDec.j0 (k+1) y0 y1))∧(∀y0 y1 y2,LeO (spec_ReadDec.l0 k y0 y1 y2) (spec_ReadDec.l0 (k+1) y0 y1 y2))
 |0=>⟨fun _ _ r h=>by simp[spec_ReadDec.j0]at h,fun _ _ _ r h=>by simp[spec_ReadDec.l0]at h⟩
 |k+1=>by
  obtain⟨ih0,ih1⟩:=spec_ReadDec.mono_l k;refine⟨?_,?_⟩
  ·intro y0 y1;unfold spec_ReadDec.j0
   repeat' first|(with_reducible first|exact ih0 _ _|exact ih1 _ _ _|exact spec_DecText.mono _ _|exact LeO.refl _|exact LeO.none _|refine LeO.ite ?_ ?_|refine LeO.bind ?_ (fun _=>?_))|exact ih0 _ _|exact ih1 _ _ _|exact spec_DecText.mono _ _|exact LeO.none _|refine LeO.ite ?_ ?_|refine LeO.bind ?_ (fun _=>?_)
  ·intro y0 y1 y2;unfold spec_ReadDec.l0
   repeat' first|(with_reducible first|exact ih0 _ _|exact ih1 _ _ _|exact spec_DecText.mono _ _|exact LeO.refl _|exact LeO.none _|refine LeO.ite ?_ ?_|refine LeO.bind ?_ (fun _=>?_))|exact ih0 _ _|exact ih1 _ _ _|exact spec_DecText.mono _ _|exact LeO.none _|refine LeO.ite ?_ ?_|refine LeO.bind ?_ (fun _=>?_)
theorem spec_ReadDec.mono: ∀a0 k,LeO (spec_ReadDec.f k a0) (spec_ReadDec.f (k+1) a0):=by
 intro a0 k;obtain⟨ih0,ih1⟩:=spec_ReadDec.mono_l k;unfold spec_ReadDec.f
 repeat' first|(with_reducible first|exact ih0 _ _|exact ih1 _ _ _|exact spec_DecText.mono _ _|exact LeO.refl _|exact LeO.none _|refine LeO.ite ?_ ?_|refine LeO.bind ?_ (fun _=>?_))|exact ih0 _ _|exact ih1 _ _ _|exact spec_DecText.mono _ _|exact LeO.none _|refine LeO.ite ?_ ?_|refine LeO.bind ?_ (fun _=>?_)
set_option maxHeartbeats 40000000 in
set_option maxRecDepth 100000 in
theorem spec_ReadDec.calls (k : Nat) (a0 : ByteArray) (r1 : Int) (r2 : Bool) (w : World) (h : spec_ReadDec.f k a0 = some (r1, r2)) :
  Calls Tryz.prog 49 #[.string a0] w fun e w'=>e= .returned (.tuple #[.int .i64 r1,.bool r2])∧Below w.heap.size w w':=by
 have HB:=Aside0.mk (Below.refl w.heap.size w);have H:(if(a0.size:Int)=0 then(spec_ReadDec.j0 k a0 true)else(spec_ReadDec.j0 k a0 (decide ((a0.size:Int)>15))))=some (r1,r2):=h;clear h;have HC2:=Aside0.mk H;clear H;go_enter Tryz.func49,Tryz.ntmps49
 go_upto_region 1 with(fail)
 go_cut [13] (fun v13 wc=> ∃(kq:Nat) (x13_1:Bool),v13= .bool x13_1∧Aside0 (spec_ReadDec.j0 kq a0 x13_1=some (r1,r2))∧Aside0 (kq≤k)∧Aside0 (Below w.heap.size w wc))
 case first=>
  have H:=HC2.out;clear HC2
  by_cases c3:(a0.size:Int)=0
  ·rw[if_pos c3]at H;have c3b0:((a0.size:Int)==0)=true:=beq_iff_eq.mpr c3;have c3b1:((a0.size:Int)!=0)=false:=bne_eq_false_iff_eq.mpr c3;clear c3;(first|rw[c3b0]|(simp only[i64_w,i32_w];rw[c3b0])|rw[c3b1]|(rw[c3b2];simp only[Bool.not_true,Bool.not_false])|skip);have H':=Aside0.mk H;clear H;go_wp2
   go_meet
   case rel=>exact⟨_,(true),zz2,H',⟨zz24⟩,⟨zz0⟩⟩
  ·rw[if_neg c3]at H;have c3b0:((a0.size:Int)==0)=false:=beq_eq_false_iff_ne.mpr c3;have c3b1:((a0.size:Int)!=0)=true:=bne_iff_ne.mpr c3;(first|rw[c3b0]|(simp only[i64_w,i32_w];rw[c3b0])|rw[c3b1]|(rw[c3b2];simp only[Bool.not_true,Bool.not_false])|skip);have H':=Aside0.mk H;clear H;go_wp2
   go_meet
   case rel=>exact⟨_,(decide ((a0.size:Int)>15)),zz2,H',⟨zz24⟩,⟨zz0⟩⟩
 case rest=>
  clear HC2;(try clear p2);(try clear c3);(try clear c3b0);(try clear c3b1);obtain⟨kq,x13_1,rfl,HA,HJ1,HB⟩:=hcut
  cases kq with
  |zero=>exact absurd HA.out (by simp[spec_ReadDec.j0])
  |succ kj1=>
   have H:=HA.out;clear HA;simp only[spec_ReadDec.j0]at H
   by_cases c4:x13_1=true
   ·subst c4;rw[if_pos rfl]at H;simp only[Option.some.injEq,Prod.mk.injEq]at H;obtain⟨rfl,rfl⟩:=H;go_wp2
    go_ret2
    exact⟨zz1,zz0⟩
   ·replace c4:=Bool.eq_false_iff.mpr c4;subst c4;rw[if_neg Bool.false_ne_true]at H;have H':=Aside0.mk H;clear H;go_wp2
    go_loopg [4,5] kj1 (fun kq v4 v5 w'=> ∃(x4_2:Int) (x5_2:Int),v4= .int .i64 x4_2∧v5= .int .i64 x5_2∧Aside0 (spec_ReadDec.l0 kq a0 x4_2 x5_2=some (r1,r2))∧Aside0 (kq≤kj1)∧Aside0 (Below w.heap.size w w'))
    case atStart=>exact⟨(0),(0),zz2,zz2,H',⟨Nat.le_refl _⟩,⟨zz0⟩⟩
    case round=>
     clear H';(try clear p2);(try clear c3);(try clear c3b0);(try clear c3b1);(try clear c4);(try clear p2);obtain⟨x4_2,x5_2,rfl,rfl,HA,HK2,HB⟩:=hrel
     cases gk with
     |zero=>exact absurd HA.out (by simp[spec_ReadDec.l0])
     |succ k2=>
      have H:=HA.out;clear HA;simp only[spec_ReadDec.l0]at H
      by_cases c5:x5_2<(a0.size:Int)
      ·rw[if_pos c5]at H;have c5b0:decide (x5_2<(a0.size:Int))=true:=decide_eq_true c5;clear c5
       by_cases c6:0≤x5_2
       ·rw[if_pos c6]at H;have c6b0:decide (0≤x5_2)=true:=decide_eq_true c6;clear c6;replace H:=Option.bind_eq_some_iff.mp H;obtain⟨t111,A80,H⟩:=H;(try dsimp only at H);have A8:=Aside0.mk A80;clear A80;have HC9:=Aside0.mk H;clear H;have p7:0≤(x5_2:Int):=of_decide_eq_true zz3;have q7:x5_2<(a0.size:Int):=of_decide_eq_true zz3;have hx7:=bt_at a0 x5_2;replace p7:=eq_true p7;replace q7:=eq_true q7;go_upto_if 24 with(first|((with_reducible refine gate_callee (f:=79) rfl ?_);refine goesR_ 23 Tryz.func79 #[.int .u8 (bt a0 x5_2)] (spec_l1digit.calls (bt a0 x5_2) t111 _ A8.out) ?_;rintro w' ⟨nd,rfl⟩))
        (try simp only[Act.put,List.setIfInBounds_toArray,List.set_cons_zero,List.set_cons_succ]);(try(rw[drewN_self wr];generalize hq_:World.drewN wr _=wr;have n0_:Aside0 (Below w.heap.size w wr):=⟨zz96⟩;clear HB hq_;have HB:=n0_;clear n0_));have H:=HC9.out;clear HC9
        by_cases c10:t111=true
        ·subst c10;rw[if_pos rfl]at H;have H':=Aside0.mk H;clear H;have p11:0≤(x5_2:Int):=of_decide_eq_true zz3;have q11:x5_2<(a0.size:Int):=of_decide_eq_true zz3;have hx11:=bt_at a0 x5_2;replace p11:=eq_true p11;replace q11:=eq_true q11;go_wp2
         go_roundg k2
         (case measure=>have:=HJ1.out;have:=HK2.out;omega);case rel=>exact⟨(wrap64 ((wrap64 (x4_2*10))+(((bt a0 x5_2)-48)%256))),(wrap64 (x5_2+1)),zz2,zz2,H',⟨zz69⟩,⟨zz0⟩⟩
        ·replace c10:=Bool.eq_false_iff.mpr c10;subst c10;rw[if_neg Bool.false_ne_true]at H;simp only[Option.some.injEq,Prod.mk.injEq]at H;obtain⟨rfl,rfl⟩:=H;go_wp2
         go_ret2
         exact⟨zz1,zz0⟩
       ·rw[if_neg c6]at H;exact absurd H (by simp)
      ·rw[if_neg c5]at H;have c5b0:decide (x5_2<(a0.size:Int))=false:=decide_eq_false c5;clear c5;replace H:=Option.bind_eq_some_iff.mp H;obtain⟨t112,A120,H⟩:=H;(try dsimp only at H);have A12:=Aside0.mk A120;clear A120;have HC13:=Aside0.mk H;clear H;go_upto_if 36 with(first|((with_reducible refine gate_callee (f:=70) rfl ?_);refine goesR_ 34 Tryz.func70 #[.int .i64 x4_2] (spec_DecText.calls k2 x4_2 t112 _ A12.out) ?_;rintro w14 hb;replace HB:=Aside0.mk (below_step zz0 hb);(try clear hb)))
       (try simp only[Act.put,List.setIfInBounds_toArray,List.set_cons_zero,List.set_cons_succ]);have H:=HC13.out;clear HC13
       by_cases c15:t112.toList=a0.toList
       ·rw[if_pos c15]at H;have c15b0:(t112.toList==a0.toList)=true:=beq_iff_eq.mpr c15;have c15b1:(t112.toList !=a0.toList)=false:=bne_eq_false_iff_eq.mpr c15;clear c15;(first|rw[c15b0]|(simp only[i64_w,i32_w];rw[c15b0])|rw[c15b1]|(rw[c15b2];simp only[Bool.not_true,Bool.not_false])|skip);simp only[Option.some.injEq,Prod.mk.injEq]at H;obtain⟨rfl,rfl⟩:=H;go_wp2
        go_ret2
        exact⟨zz1,zz0⟩
       ·rw[if_neg c15]at H;have c15b0:(t112.toList==a0.toList)=false:=beq_eq_false_iff_ne.mpr c15;have c15b1:(t112.toList !=a0.toList)=true:=bne_iff_ne.mpr c15;(first|rw[c15b0]|(simp only[i64_w,i32_w];rw[c15b0])|rw[c15b1]|(rw[c15b2];simp only[Bool.not_true,Bool.not_false])|skip);simp only[Option.some.injEq,Prod.mk.injEq]at H;obtain⟨rfl,rfl⟩:=H;go_wp2
        go_ret2
        exact⟨zz1,zz0⟩
/-! ### spec_l6upto: function 55 -/
def spec_l6upto.l0:Nat→ByteArray→Int→Int→Option (ByteArray)
 |0,_,_,_=>none
 |k+1,x0,x1,x5=>if x5<(x0.size:Int)then(if 0≤x5 then(if(bt x0 x5)=x1 then(if x5≤(x0.size:Int)then(some (x0.extract 0 (x5:Int).toNat))else(none))else(spec_l6upto.l0 k x0 x1 (wrap64 (x5+1))))else(none))else(some x0)
def spec_l6upto.f (k:Nat) (a0:ByteArray) (a1:Int):Option (ByteArray):=spec_l6upto.l0 k a0 a1 0
theorem spec_l6upto.mono_l: ∀k,(∀y0 y1 y2,LeO (spec_l6upto.l0 k y0 y1 y2) (spec_l6upto.l0 (k+1) y0 y1 y2))
 |0=>fun _ _ _ r h=>by simp[spec_l6upto.l0]at h
 |k+1=>by
  have ih0:=spec_l6upto.mono_l k
  ·intro y0 y1 y2;unfold spec_l6upto.l0
   repeat' first|(with_reducible first|exact ih0 _ _ _|exact LeO.refl _|exact LeO.none _|refine LeO.ite ?_ ?_|refine LeO.bind ?_ (fun _=>?_))|exact ih0 _ _ _|exact LeO.none _|refine LeO.ite ?_ ?_|refine LeO.bind ?_ (fun _=>?_)
theorem spec_l6upto.mono: ∀a0 a1 k,LeO (spec_l6upto.f k a0 a1) (spec_l6upto.f (k+1) a0 a1):=by
 intro a0 a1 k;have ih0:=spec_l6upto.mono_l k;unfold spec_l6upto.f
 repeat' first|(with_reducible first|exact ih0 _ _ _|exact LeO.refl _|exact LeO.none _|refine LeO.ite ?_ ?_|refine LeO.bind ?_ (fun _=>?_))|exact ih0 _ _ _|exact LeO.none _|refine LeO.ite ?_ ?_|refine LeO.bind ?_ (fun _=>?_)
set_option maxHeartbeats 40000000 in
set_option maxRecDepth 100000 in
theorem spec_l6upto.calls (k : Nat) (a0 : ByteArray) (a1 : Int) (r : ByteArray) (w : World) (h : spec_l6upto.f k a0 a1 = some r) :
  Calls Tryz.prog 55 #[.string a0,.int .u8 a1] w fun e w'=>e= .returned (.string r)∧Drawn0 w w':=by
 have H:(spec_l6upto.l0 k a0 a1 0)=some r:=h;clear h;have H':=Aside0.mk H;clear H;go_enter Tryz.func55,Tryz.ntmps55
 go_wp2
 go_loopg [5] k (fun kq v5 w'=> ∃(x5_1:Int),v5= .int .i64 x5_1∧Aside0 (spec_l6upto.l0 kq a0 a1 x5_1=some r)∧Aside0 (kq≤k)∧Drawn0 w w')
 case atStart=>exact⟨(0),zz2,H',⟨Nat.le_refl _⟩,zz4⟩
 case round=>
  clear H';(try clear p2);obtain⟨x5_1,rfl,HA,HK1,⟨m1,rfl⟩⟩:=hrel
  cases gk with
  |zero=>exact absurd HA.out (by simp[spec_l6upto.l0])
  |succ k1=>
   have H:=HA.out;clear HA;simp only[spec_l6upto.l0]at H
   by_cases c3:x5_1<(a0.size:Int)
   ·rw[if_pos c3]at H;have c3b0:decide (x5_1<(a0.size:Int))=true:=decide_eq_true c3;clear c3
    by_cases c4:0≤x5_1
    ·rw[if_pos c4]at H;have c4b0:decide (0≤x5_1)=true:=decide_eq_true c4;clear c4
     by_cases c6:(bt a0 x5_1)=a1
     ·rw[if_pos c6]at H;have c6b0:((bt a0 x5_1)==a1)=true:=beq_iff_eq.mpr c6;have c6b1:((bt a0 x5_1)!=a1)=false:=bne_eq_false_iff_eq.mpr c6;clear c6;have c7b0:=eq_true (of_decide_eq_true zz3:0≤x5_1)
      by_cases c8:x5_1≤(a0.size:Int)
      ·rw[if_pos c8]at H;have c8b0:=eq_true c8;have c8b1:decide (x5_1≤(a0.size:Int))=true:=decide_eq_true c8;clear c8;obtain rfl:=Option.some.inj H;have p5:0≤(x5_1:Int):=of_decide_eq_true zz3;have q5:x5_1<(a0.size:Int):=of_decide_eq_true zz3;have hx5:=bt_at a0 x5_1;replace p5:=eq_true p5;replace q5:=eq_true q5;go_wp2
       go_ret;exact⟨zz2,zz4⟩
      ·rw[if_neg c8]at H;exact absurd H (by simp)
     ·rw[if_neg c6]at H;have c6b0:((bt a0 x5_1)==a1)=false:=beq_eq_false_iff_ne.mpr c6;have c6b1:((bt a0 x5_1)!=a1)=true:=bne_iff_ne.mpr c6;have H':=Aside0.mk H;clear H;have p5:0≤(x5_1:Int):=of_decide_eq_true zz3;have q5:x5_1<(a0.size:Int):=of_decide_eq_true zz3;have hx5:=bt_at a0 x5_1;replace p5:=eq_true p5;replace q5:=eq_true q5;go_wp2
      go_roundg k1
      (case measure=>have:=HK1.out;omega);case rel=>exact⟨(wrap64 (x5_1+1)),zz2,H',⟨zz49⟩,zz4⟩
    ·rw[if_neg c4]at H;exact absurd H (by simp)
   ·rw[if_neg c3]at H;have c3b0:decide (x5_1<(a0.size:Int))=false:=decide_eq_false c3;clear c3;obtain rfl:=Option.some.inj H;go_wp2
    go_ret;exact⟨zz2,zz4⟩
/-! ### spec_l7split: function 47 -/
def spec_l7split.l0:Nat→ByteArray→Int→List ByteArray→Int→Int→Option (List ByteArray)
 |0,_,_,_,_,_=>none
 |k+1,x0,x1,x5,x6,x7=>if x7≤(x0.size:Int)then(if x7=(x0.size:Int)then(if 0≤x6 then(if x6≤x7 then(if x5.length<8796093022208 then(spec_l7split.l0 k x0 x1 (x5++ [x0.extract (x6:Int).toNat (x7:Int).toNat]) (wrap64 (x7+1)) (wrap64 (x7+1)))else(none))else(none))else(none))else(if 0≤x7 then(if x7<(x0.size:Int)then(if(bt x0 x7)=x1 then(if 0≤x6 then(if x6≤x7 then(if x5.length<8796093022208 then(spec_l7split.l0 k x0 x1 (x5++ [x0.extract (x6:Int).toNat (x7:Int).toNat]) (wrap64 (x7+1)) (wrap64 (x7+1)))else(none))else(none))else(none))else(spec_l7split.l0 k x0 x1 x5 x6 (wrap64 (x7+1))))else(none))else(none)))else(some x5)
def spec_l7split.f (k:Nat) (a0:ByteArray) (a1:Int):Option (List ByteArray):=spec_l7split.l0 k a0 a1 ([]:List ByteArray) 0 0
theorem spec_l7split.mono_l: ∀k,(∀y0 y1 y2 y3 y4,LeO (spec_l7split.l0 k y0 y1 y2 y3 y4) (spec_l7split.l0 (k+1) y0 y1 y2 y3 y4))
 |0=>fun _ _ _ _ _ r h=>by simp[spec_l7split.l0]at h
 |k+1=>by
  have ih0:=spec_l7split.mono_l k
  ·intro y0 y1 y2 y3 y4;unfold spec_l7split.l0
   repeat' first|(with_reducible first|exact ih0 _ _ _ _ _|exact LeO.refl _|exact LeO.none _|refine LeO.ite ?_ ?_|refine LeO.bind ?_ (fun _=>?_))|exact ih0 _ _ _ _ _|exact LeO.none _|refine LeO.ite ?_ ?_|refine LeO.bind ?_ (fun _=>?_)
theorem spec_l7split.mono: ∀a0 a1 k,LeO (spec_l7split.f k a0 a1) (spec_l7split.f (k+1) a0 a1):=by
 intro a0 a1 k;have ih0:=spec_l7split.mono_l k;unfold spec_l7split.f
 repeat' first|(with_reducible first|exact ih0 _ _ _ _ _|exact LeO.refl _|exact LeO.none _|refine LeO.ite ?_ ?_|refine LeO.bind ?_ (fun _=>?_))|exact ih0 _ _ _ _ _|exact LeO.none _|refine LeO.ite ?_ ?_|refine LeO.bind ?_ (fun _=>?_)
set_option maxHeartbeats 40000000 in
set_option maxRecDepth 100000 in
theorem spec_l7split.calls (k : Nat) (a0 : ByteArray) (a1 : Int) (r : List ByteArray) (w : World) (h : spec_l7split.f k a0 a1 = some r) :
  Calls Tryz.prog 47 #[.string a0,.int .u8 a1] w fun e w'=> ∃v0_:Value,e= .returned (v0_)∧Kd.R Kd.string 9 w' w.heap.size (fun _=>True) v0_ r∧Below w.heap.size w w':=by
 have HB:=Aside0.mk (Below.refl w.heap.size w);have H:(spec_l7split.l0 k a0 a1 ([]:List ByteArray) 0 0)=some r:=h;clear h;have H':=Aside0.mk H;clear H;go_enter Tryz.func47,Tryz.ntmps47
 go_wp2
 go_loopg [5,6,7] k (fun kq v5 v6 v7 w'=> ∃(x5_1:List ByteArray) (x6_1:Int) (x7_1:Int),v6= .int .i64 x6_1∧v7= .int .i64 x7_1∧Aside0 (spec_l7split.l0 kq a0 a1 x5_1 x6_1 x7_1=some r)∧Aside0 (kq≤k)∧Aside0 (Kd.R Kd.string 9 w' w.heap.size (fun _=>True) v5 x5_1)∧Aside0 (Below w.heap.size w w'))
 case atStart=>exact⟨(([]:List ByteArray)),(0),(0),zz2,zz2,H',⟨Nat.le_refl _⟩,⟨zz29⟩,⟨zz0⟩⟩
 case round=>
  clear H';(try clear p2);obtain⟨x5_1,x6_1,x7_1,rfl,rfl,HA,HK1,HO_5,HB⟩:=hrel
  cases gk with
  |zero=>exact absurd HA.out (by simp[spec_l7split.l0])
  |succ k1=>
   have H:=HA.out;clear HA;simp only[spec_l7split.l0]at H
   by_cases c3:x7_1≤(a0.size:Int)
   ·rw[if_pos c3]at H;have c3b0:decide (x7_1≤(a0.size:Int))=true:=decide_eq_true c3;clear c3
    by_cases c4:x7_1=(a0.size:Int)
    ·rw[if_pos c4]at H;have c4b0:(x7_1==(a0.size:Int))=true:=beq_iff_eq.mpr c4;have c4b1:(x7_1 !=(a0.size:Int))=false:=bne_eq_false_iff_eq.mpr c4;clear c4
     by_cases c5:0≤x6_1
     ·rw[if_pos c5]at H;have c5b0:=eq_true c5;have c5b1:decide (0≤x6_1)=true:=decide_eq_true c5;clear c5
      by_cases c6:x6_1≤x7_1
      ·rw[if_pos c6]at H;have c6b0:=eq_true c6;have c6b1:decide (x6_1≤x7_1)=true:=decide_eq_true c6;clear c6;have c7b0:=eq_true (of_decide_eq_true zz3:x7_1≤(a0.size:Int))
       by_cases c8:x5_1.length<8796093022208
       ·rw[if_pos c8]at H;have LMc8:=Aside0.mk c8;clear c8;obtain⟨y113,hy113⟩: ∃y_:List ByteArray,y_=(x5_1++ [a0.extract (x6_1:Int).toNat (x7_1:Int).toNat]):=⟨_,rfl⟩;replace H:(spec_l7split.l0 k1 a0 a1 y113 (wrap64 (x7_1+1)) (wrap64 (x7_1+1)))=some r:=by first|(rw[hy113];with_reducible exact H)|(have H2_:=(Option.bind_some _ _).symm.trans H;rw[hy113];with_reducible exact H2_)|(have H2_:=(Option.bind_some _ _).symm.trans H;with_reducible exact H2_)|with_reducible exact H|(rw[hy113];exact H)|exact H
        have Ny113:=Aside0.mk hy113;clear hy113;have H':=Aside0.mk H;clear H;go_wp2_with (first|((with_reducible refine gate_builtin (b:= .append) (xs:= #[.tmp 25,.tmp 30]) rfl ?_);at_builtin;refine Kd.R_append Kd.string (w0:=w) w.heap.size rfl (.tmp 25) (.tmp 30) 57 9 (.string ⟨#[]⟩) 16 rfl Tryz.underlying57 info9 rfl (by decide) (by omega) u5 x5_1 (a0.extract (x6_1:Int).toNat (x7_1:Int).toNat) [.string (a0.extract (x6_1:Int).toNat (x7_1:Int).toNat)] (fun _=>True) (fun _=>False) rfl rfl ?aP (fun _ hk=>hk.elim) ?aF ?aO ?aB ?aS ?aL ?_;(case aP=>exact rfl);(case aB=>exact zz0);(case aF=>exact(fun _ _=>trivial));(case aO=>exact zz43);(case aS=>exact(below_size zz0));(case aL=>have:=LMc8.out;omega);intro v114 w9 ho hb hg hat;rw[←Ny113.out]at ho;replace HB:=Aside0.mk (hb);have HO115:=Aside0.mk (ho);clear HO_5;clear ho hb hg hat))
        go_roundg k1
        (case measure=>have:=HK1.out;omega);case rel=>exact⟨(y113),(wrap64 (x7_1+1)),(wrap64 (x7_1+1)),zz2,zz2,H',⟨zz49⟩,⟨by(with_reducible repeat(first|apply Kd.R_alloc|apply Kd.R_drewN|apply Kd.R_drew));exact HO115.out⟩,⟨zz0⟩⟩
       ·rw[if_neg c8]at H;exact absurd H (by simp)
      ·rw[if_neg c6]at H;exact absurd H (by simp)
     ·rw[if_neg c5]at H;exact absurd H (by simp)
    ·rw[if_neg c4]at H;have c4b0:(x7_1==(a0.size:Int))=false:=beq_eq_false_iff_ne.mpr c4;have c4b1:(x7_1 !=(a0.size:Int))=true:=bne_iff_ne.mpr c4
     by_cases c10:0≤x7_1
     ·rw[if_pos c10]at H;have c10b0:decide (0≤x7_1)=true:=decide_eq_true c10;clear c10
      by_cases c11:x7_1<(a0.size:Int)
      ·rw[if_pos c11]at H;have c11b0:decide (x7_1<(a0.size:Int))=true:=decide_eq_true c11;clear c11
       by_cases c13:(bt a0 x7_1)=a1
       ·rw[if_pos c13]at H;have c13b0:((bt a0 x7_1)==a1)=true:=beq_iff_eq.mpr c13;have c13b1:((bt a0 x7_1)!=a1)=false:=bne_eq_false_iff_eq.mpr c13;clear c13
        by_cases c14:0≤x6_1
        ·rw[if_pos c14]at H;have c14b0:=eq_true c14;have c14b1:decide (0≤x6_1)=true:=decide_eq_true c14;clear c14
         by_cases c15:x6_1≤x7_1
         ·rw[if_pos c15]at H;have c15b0:=eq_true c15;have c15b1:decide (x6_1≤x7_1)=true:=decide_eq_true c15;clear c15;have c16b0:=eq_true (of_decide_eq_true zz3:x7_1≤(a0.size:Int))
          by_cases c17:x5_1.length<8796093022208
          ·rw[if_pos c17]at H;have LMc17:=Aside0.mk c17;clear c17;obtain⟨y116,hy116⟩: ∃y_:List ByteArray,y_=(x5_1++ [a0.extract (x6_1:Int).toNat (x7_1:Int).toNat]):=⟨_,rfl⟩;replace H:(spec_l7split.l0 k1 a0 a1 y116 (wrap64 (x7_1+1)) (wrap64 (x7_1+1)))=some r:=by first|(rw[hy116];with_reducible exact H)|(have H2_:=(Option.bind_some _ _).symm.trans H;rw[hy116];with_reducible exact H2_)|(have H2_:=(Option.bind_some _ _).symm.trans H;with_reducible exact H2_)|with_reducible exact H|(rw[hy116];exact H)|exact H
           have Ny116:=Aside0.mk hy116;clear hy116;have H':=Aside0.mk H;clear H;have p12:0≤(x7_1:Int):=of_decide_eq_true zz3;have q12:x7_1<(a0.size:Int):=of_decide_eq_true zz3;have hx12:=bt_at a0 x7_1;replace p12:=eq_true p12;replace q12:=eq_true q12;go_wp2_with (first|((with_reducible refine gate_builtin (b:= .append) (xs:= #[.tmp 25,.tmp 30]) rfl ?_);at_builtin;refine Kd.R_append Kd.string (w0:=w) w.heap.size rfl (.tmp 25) (.tmp 30) 57 9 (.string ⟨#[]⟩) 16 rfl Tryz.underlying57 info9 rfl (by decide) (by omega) u5 x5_1 (a0.extract (x6_1:Int).toNat (x7_1:Int).toNat) [.string (a0.extract (x6_1:Int).toNat (x7_1:Int).toNat)] (fun _=>True) (fun _=>False) rfl rfl ?aP (fun _ hk=>hk.elim) ?aF ?aO ?aB ?aS ?aL ?_;(case aP=>exact rfl);(case aB=>exact zz0);(case aF=>exact(fun _ _=>trivial));(case aO=>exact zz43);(case aS=>exact(below_size zz0));(case aL=>have:=LMc17.out;omega);intro v117 w18 ho hb hg hat;rw[←Ny116.out]at ho;replace HB:=Aside0.mk (hb);have HO118:=Aside0.mk (ho);clear HO_5;clear ho hb hg hat))
           go_roundg k1
           (case measure=>have:=HK1.out;omega);case rel=>exact⟨(y116),(wrap64 (x7_1+1)),(wrap64 (x7_1+1)),zz2,zz2,H',⟨zz49⟩,⟨by(with_reducible repeat(first|apply Kd.R_alloc|apply Kd.R_drewN|apply Kd.R_drew));exact HO118.out⟩,⟨zz0⟩⟩
          ·rw[if_neg c17]at H;exact absurd H (by simp)
         ·rw[if_neg c15]at H;exact absurd H (by simp)
        ·rw[if_neg c14]at H;exact absurd H (by simp)
       ·rw[if_neg c13]at H;have c13b0:((bt a0 x7_1)==a1)=false:=beq_eq_false_iff_ne.mpr c13;have c13b1:((bt a0 x7_1)!=a1)=true:=bne_iff_ne.mpr c13;have H':=Aside0.mk H;clear H;have p12:0≤(x7_1:Int):=of_decide_eq_true zz3;have q12:x7_1<(a0.size:Int):=of_decide_eq_true zz3;have hx12:=bt_at a0 x7_1;replace p12:=eq_true p12;replace q12:=eq_true q12;go_wp2
        go_roundg k1
        (case measure=>have:=HK1.out;omega);case rel=>exact⟨(x5_1),(x6_1),(wrap64 (x7_1+1)),zz2,zz2,H',⟨zz49⟩,⟨zz43⟩,⟨zz0⟩⟩
      ·rw[if_neg c11]at H;exact absurd H (by simp)
     ·rw[if_neg c10]at H;exact absurd H (by simp)
   ·rw[if_neg c3]at H;have c3b0:decide (x7_1≤(a0.size:Int))=false:=decide_eq_false c3;clear c3;obtain rfl:=Option.some.inj H;go_wp2
    go_ret;exact⟨_,zz1,zz43,zz0⟩
/-! ### spec_l7turned: function 56 -/
def spec_l7turned.l0:Nat→ByteArray→List ByteArray→ByteArray→Int→Option (ByteArray)
 |0,_,_,_,_=>none
 |k+1,x2,x7,x8,x9=>if x9≥0 then(if x8.toList=([]:List UInt8)then(if 0≤x9 then(if x9<(x7.length:Int)then(if x8.size+(rdOf ByteArray.empty x7 x9).size≤9223372036854775807 then(spec_l7turned.l0 k x2 x7 (x8++(rdOf ByteArray.empty x7 x9)) (wrap64 (x9-1)))else(none))else(none))else(none))else(if x8.size+x2.size≤9223372036854775807 then(if 0≤x9 then(if x9<(x7.length:Int)then(if(x8++x2).size+(rdOf ByteArray.empty x7 x9).size≤9223372036854775807 then(spec_l7turned.l0 k x2 x7 ((x8++x2)++(rdOf ByteArray.empty x7 x9)) (wrap64 (x9-1)))else(none))else(none))else(none))else(none)))else(some x8)
def spec_l7turned.f (k:Nat) (a0:ByteArray) (a1:Int) (a2:ByteArray):Option (ByteArray):=(spec_l7split.f k a0 a1).bind fun t119=>(spec_l7turned.l0 k a2 t119 (⟨#[]⟩:ByteArray) (wrap64 ((t119.length:Int)-1)))
theorem spec_l7turned.mono_l: ∀k,(∀y0 y1 y2 y3,LeO (spec_l7turned.l0 k y0 y1 y2 y3) (spec_l7turned.l0 (k+1) y0 y1 y2 y3))
 |0=>fun _ _ _ _ r h=>by simp[spec_l7turned.l0]at h
 |k+1=>by
  have ih0:=spec_l7turned.mono_l k
  ·intro y0 y1 y2 y3;unfold spec_l7turned.l0
   repeat' first|(with_reducible first|exact ih0 _ _ _ _|exact spec_l7split.mono _ _ _|exact LeO.refl _|exact LeO.none _|refine LeO.ite ?_ ?_|refine LeO.bind ?_ (fun _=>?_))|exact ih0 _ _ _ _|exact spec_l7split.mono _ _ _|exact LeO.none _|refine LeO.ite ?_ ?_|refine LeO.bind ?_ (fun _=>?_)
theorem spec_l7turned.mono: ∀a0 a1 a2 k,LeO (spec_l7turned.f k a0 a1 a2) (spec_l7turned.f (k+1) a0 a1 a2):=by
 intro a0 a1 a2 k;have ih0:=spec_l7turned.mono_l k;unfold spec_l7turned.f
 repeat' first|(with_reducible first|exact ih0 _ _ _ _|exact spec_l7split.mono _ _ _|exact LeO.refl _|exact LeO.none _|refine LeO.ite ?_ ?_|refine LeO.bind ?_ (fun _=>?_))|exact ih0 _ _ _ _|exact spec_l7split.mono _ _ _|exact LeO.none _|refine LeO.ite ?_ ?_|refine LeO.bind ?_ (fun _=>?_)
set_option maxHeartbeats 40000000 in
set_option maxRecDepth 100000 in
theorem spec_l7turned.calls (k : Nat) (a0 : ByteArray) (a1 : Int) (a2 : ByteArray) (r : ByteArray) (w : World) (h : spec_l7turned.f k a0 a1 a2 = some r) :
  Calls Tryz.prog 56 #[.string a0,.int .u8 a1,.string a2] w fun e w'=>e= .returned (.string r)∧Below w.heap.size w w':=by
 have HB:=Aside0.mk (Below.refl w.heap.size w);have H:((spec_l7split.f k a0 a1).bind fun t119=>(spec_l7turned.l0 k a2 t119 (⟨#[]⟩:ByteArray) (wrap64 ((t119.length:Int)-1))))=some r:=h;clear h;replace H:=Option.bind_eq_some_iff.mp H;obtain⟨t119,A40,H⟩:=H;(try dsimp only at H);have A4:=Aside0.mk A40;clear A40;have H':=Aside0.mk H;clear H;go_enter Tryz.func56,Tryz.ntmps56
 go_wp2_with (first|((with_reducible refine gate_callee (f:=47) rfl ?_);refine goesQ_ 12 Tryz.func47 #[.string a0,.int .u8 a1] ?_;(with_reducible refine(spec_l7split.calls k a0 a1 t119 _ A4.out).mono ?_);rintro e w5 ⟨v120,rfl,ho0,hb⟩;refine⟨_,rfl,?_⟩;have HO121:=Aside0.mk (Kd.R_lower ho0 (below_size zz0));replace HB:=Aside0.mk (below_step zz0 hb);(try clear hb);(try clear ho0);obtain⟨Ao6,co6,eo6⟩:=Kd.R_slice HO121.out;subst eo6))
 go_loopg [8,9] k (fun kq v8 v9 w'=> ∃(x8_1:ByteArray) (x9_1:Int),v8= .string x8_1∧v9= .int .i64 x9_1∧Aside0 (spec_l7turned.l0 kq a2 t119 x8_1 x9_1=some r)∧Aside0 (kq≤k)∧Aside0 (Kd.R Kd.string 9 w' w.heap.size (fun _=>True) (.slice Ao6 t119.length co6) t119)∧Aside0 (Below w.heap.size w w'))
 case atStart=>exact⟨((⟨#[]⟩:ByteArray)),(wrap64 ((t119.length:Int)-1)),zz2,zz2,H',⟨Nat.le_refl _⟩,⟨by(with_reducible repeat(first|apply Kd.R_alloc|apply Kd.R_drewN|apply Kd.R_drew));exact HO121.out⟩,⟨zz0⟩⟩
 case round=>
  clear H';(try clear p2);(try clear c4);(try clear c5);(try clear p6);obtain⟨x8_1,x9_1,rfl,rfl,HA,HK1,HO_7,HB⟩:=hrel
  cases gk with
  |zero=>exact absurd HA.out (by simp[spec_l7turned.l0])
  |succ k1=>
   have H:=HA.out;clear HA;simp only[spec_l7turned.l0]at H
   by_cases c7:x9_1≥0
   ·rw[if_pos c7]at H;have c7b0:decide (0≤x9_1)=true:=decide_eq_true c7;clear c7
    by_cases c8:x8_1.toList=([]:List UInt8)
    ·rw[if_pos c8]at H;have c8b0:(x8_1.toList==([]:List UInt8))=true:=beq_iff_eq.mpr c8;have c8e:x8_1.toList.isEmpty=true:=by have hz_:=beq_iff_eq.1 c8b0;rw[hz_];rfl
     (try rw[c8e]);have c8b1:(x8_1.toList !=([]:List UInt8))=false:=bne_eq_false_iff_eq.mpr c8;clear c8
     by_cases c9:0≤x9_1
     ·rw[if_pos c9]at H;have c9b0:decide (0≤x9_1)=true:=decide_eq_true c9;clear c9
      by_cases c10:x9_1<(t119.length:Int)
      ·rw[if_pos c10]at H;have c10b0:decide (x9_1<(t119.length:Int))=true:=decide_eq_true c10;clear c10
       by_cases c11:x8_1.size+(rdOf ByteArray.empty t119 x9_1).size≤9223372036854775807
       ·rw[if_pos c11]at H;have c11b0:=eq_true c11;have c11b1:decide (x8_1.size+(rdOf ByteArray.empty t119 x9_1).size≤9223372036854775807)=true:=decide_eq_true c11;(try have c11b2:(9223372036854775807<x8_1.size+(rdOf ByteArray.empty t119 x9_1).size)=False:=eq_false (Nat.not_lt.2 c11));have H':=Aside0.mk H;clear H;have p122:0≤(x9_1:Int):=of_decide_eq_true zz3;have q122:x9_1<(t119.length:Int):=of_decide_eq_true zz3;obtain⟨ad122,e122,hx122_0⟩:=Kd.at_string (Kd.R_reads' HO_7.out).2.2 x9_1 p122 q122;cases e122;replace p122:=eq_true p122;replace q122:=eq_true q122;go_wp2
        go_roundg k1
        (case measure=>have:=HK1.out;omega);case rel=>exact⟨(x8_1++(rdOf ByteArray.empty t119 x9_1)),(wrap64 (x9_1-1)),zz2,zz2,H',⟨zz49⟩,⟨by(with_reducible repeat(first|apply Kd.R_alloc|apply Kd.R_drewN|apply Kd.R_drew));exact HO_7.out⟩,⟨zz0⟩⟩
       ·rw[if_neg c11]at H;exact absurd H (by simp)
      ·rw[if_neg c10]at H;exact absurd H (by simp)
     ·rw[if_neg c9]at H;exact absurd H (by simp)
    ·rw[if_neg c8]at H;have c8b0:(x8_1.toList==([]:List UInt8))=false:=beq_eq_false_iff_ne.mpr c8;have c8e:x8_1.toList.isEmpty=false:=by cases hz_:x8_1.toList with|nil=>(rw[hz_]at c8b0;exact absurd c8b0 (by decide))|cons _ _=>rfl
     (try rw[c8e]);have c8b1:(x8_1.toList !=([]:List UInt8))=true:=bne_iff_ne.mpr c8
     by_cases c12:x8_1.size+a2.size≤9223372036854775807
     ·rw[if_pos c12]at H;have c12b0:=eq_true c12;have c12b1:decide (x8_1.size+a2.size≤9223372036854775807)=true:=decide_eq_true c12;try have c12b2:(9223372036854775807<x8_1.size+a2.size)=False:=eq_false (Nat.not_lt.2 c12)
      by_cases c13:0≤x9_1
      ·rw[if_pos c13]at H;have c13b0:decide (0≤x9_1)=true:=decide_eq_true c13;clear c13
       by_cases c14:x9_1<(t119.length:Int)
       ·rw[if_pos c14]at H;have c14b0:decide (x9_1<(t119.length:Int))=true:=decide_eq_true c14;clear c14
        by_cases c15:(x8_1++a2).size+(rdOf ByteArray.empty t119 x9_1).size≤9223372036854775807
        ·rw[if_pos c15]at H;have c15b0:=eq_true c15;have c15b1:decide ((x8_1++a2).size+(rdOf ByteArray.empty t119 x9_1).size≤9223372036854775807)=true:=decide_eq_true c15;(try have c15b2:(9223372036854775807<(x8_1++a2).size+(rdOf ByteArray.empty t119 x9_1).size)=False:=eq_false (Nat.not_lt.2 c15));(try have c15z:=c15b2;simp only[ByteArray.size_append]at c15z;have c15b3:=c15z);have H':=Aside0.mk H;clear H;have p123:0≤(x9_1:Int):=of_decide_eq_true zz3;have q123:x9_1<(t119.length:Int):=of_decide_eq_true zz3;obtain⟨ad123,e123,hx123_0⟩:=Kd.at_string (Kd.R_reads' HO_7.out).2.2 x9_1 p123 q123;cases e123;replace p123:=eq_true p123;replace q123:=eq_true q123;go_wp2
         go_roundg k1
         (case measure=>have:=HK1.out;omega);case rel=>exact⟨((x8_1++a2)++(rdOf ByteArray.empty t119 x9_1)),(wrap64 (x9_1-1)),zz2,zz2,H',⟨zz49⟩,⟨by(with_reducible repeat(first|apply Kd.R_alloc|apply Kd.R_drewN|apply Kd.R_drew));exact HO_7.out⟩,⟨zz0⟩⟩
        ·rw[if_neg c15]at H;exact absurd H (by simp)
       ·rw[if_neg c14]at H;exact absurd H (by simp)
      ·rw[if_neg c13]at H;exact absurd H (by simp)
     ·rw[if_neg c12]at H;exact absurd H (by simp)
   ·rw[if_neg c7]at H;have c7b0:decide (0≤x9_1)=false:=decide_eq_false c7;clear c7;obtain rfl:=Option.some.inj H;go_wp2
    go_ret;exact⟨zz1,zz0⟩
end Go.Proofs.YteojcbbifacpnaaGreatDoor.GFnExactIndexOk
