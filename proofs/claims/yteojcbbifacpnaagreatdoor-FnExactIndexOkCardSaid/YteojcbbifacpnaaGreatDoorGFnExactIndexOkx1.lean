-- Laid by gen.py of this session (over the kit's printing program): what the law FnExactIndexOk reaches, as Lean functions, and that Go comes to just that.
import Derived.Test.YteojcbbifacpnaaGreatDoorGFnExactIndexOkx0
import Derived.Test.YteojcbbifacpnaaGreatDoorZFnExactIndexOk
namespace Go.Proofs.YteojcbbifacpnaaGreatDoor.GFnExactIndexOk
open Go.RowKit Go.Proofs.YteojcbbifacpnaaGreatDoorW.PrintWords Go.Proofs.YteojcbbifacpnaaGreatDoorW.PrintLast Go.Proofs.YteojcbbifacpnaaGreatDoorW.PrintMore Go.Proofs.YteojcbbifacpnaaGreatDoorW.Zs
attribute [local go_sem] max2_int min2_int max_two min_two max_three min_three max_four min_four -- for this text's walks alone
set_option linter.unusedVariables false
set_option linter.unusedSimpArgs false
/-! ### laws_szLine: function 10 -/
def laws_szLine.f (a0_0:ByteArray) (a0_1:Int) (a0_2:Int) (a0_3:ByteArray) (a0_4:Int) (a0_5:ByteArray) (a0_6:Bool) (a0_7:Int) (a0_8:Int) (a0_9:Int) (a1:Int):Option (Int):=if(wrap64 (a1-(a0_0.size:Int)))<0 then(some (-1))else(if(wrap64 ((wrap64 (a1-(a0_0.size:Int)))-(a0_3.size:Int)))<0 then(some (-1))else(if(wrap64 ((wrap64 ((wrap64 (a1-(a0_0.size:Int)))-(a0_3.size:Int)))-(a0_5.size:Int)))<0 then(some (-1))else(some (wrap64 ((wrap64 ((wrap64 (a1-(a0_0.size:Int)))-(a0_3.size:Int)))-(a0_5.size:Int))))))
set_option maxHeartbeats 40000000 in
set_option maxRecDepth 100000 in
theorem laws_szLine.calls (a0_0 : ByteArray) (a0_1 : Int) (a0_2 : Int) (a0_3 : ByteArray) (a0_4 : Int) (a0_5 : ByteArray) (a0_6 : Bool) (a0_7 : Int) (a0_8 : Int) (a0_9 : Int) (a1 : Int) (r : Int) (w : World) (h : laws_szLine.f a0_0 a0_1 a0_2 a0_3 a0_4 a0_5 a0_6 a0_7 a0_8 a0_9 a1 = some r) :
  Calls Tryz.prog 10 #[.agg #[.string a0_0,.int .i64 a0_1,.int .i64 a0_2,.string a0_3,.int .i64 a0_4,.string a0_5,.bool a0_6,.int .i64 a0_7,.int .i64 a0_8,.int .i64 a0_9],.int .i64 a1] w fun e w'=>e= .returned (.int .i64 r)∧Below w.heap.size w w':=by
 have hu23:=Tryz.underlying23;have HB:=Aside0.mk (Below.refl w.heap.size w);have H:(if(wrap64 (a1-(a0_0.size:Int)))<0 then(some (-1))else(if(wrap64 ((wrap64 (a1-(a0_0.size:Int)))-(a0_3.size:Int)))<0 then(some (-1))else(if(wrap64 ((wrap64 ((wrap64 (a1-(a0_0.size:Int)))-(a0_3.size:Int)))-(a0_5.size:Int)))<0 then(some (-1))else(some (wrap64 ((wrap64 ((wrap64 (a1-(a0_0.size:Int)))-(a0_3.size:Int)))-(a0_5.size:Int)))))))=some r:=h;clear h;have HC3:=Aside0.mk H;clear H;go_enter Tryz.func10,Tryz.ntmps10
 go_upto_if 11 with(first|((with_reducible refine gate_dst (N:=2) rfl ?_);refine boxP_ (N:=2) (cs:= #[.string a0_0,.int .i64 a0_1,.int .i64 a0_2,.string a0_3,.int .i64 a0_4,.string a0_5,.bool a0_6,.int .i64 a0_7,.int .i64 a0_8,.int .i64 a0_9]) (t:=23) ?_;intro gb101 hg w4 hbox hb;have BK101:=Aside0.mk (hbox);have GE101:=geb_ (w:=w) hg zz0;replace HB:=Aside0.mk (below_step zz0 hb);clear hb hbox hg;obtain⟨_,_,_,_,_,_,_,_,_,_,_,_,_,_,_,_,_,_,_,_⟩:=cells10_ BK101.out))
 (try simp only[Act.put,List.setIfInBounds_toArray,List.set_cons_zero,List.set_cons_succ]);have H:=HC3.out;clear HC3
 by_cases c6:(wrap64 (a1-(a0_0.size:Int)))<0
 ·rw[if_pos c6]at H;have c6b0:decide ((wrap64 (a1-(a0_0.size:Int)))<0)=true:=decide_eq_true c6;clear c6;(first|rw[c6b0]|(simp only[i64_w,i32_w];rw[c6b0])|skip);obtain rfl:=Option.some.inj H;go_wp2
  go_ret;exact⟨zz1,zz47⟩
 ·rw[if_neg c6]at H;have c6b0:decide ((wrap64 (a1-(a0_0.size:Int)))<0)=false:=decide_eq_false c6;clear c6;(first|rw[c6b0]|(simp only[i64_w,i32_w];rw[c6b0])|skip)
  by_cases c7:(wrap64 ((wrap64 (a1-(a0_0.size:Int)))-(a0_3.size:Int)))<0
  ·rw[if_pos c7]at H;have c7b0:decide ((wrap64 ((wrap64 (a1-(a0_0.size:Int)))-(a0_3.size:Int)))<0)=true:=decide_eq_true c7;clear c7;obtain rfl:=Option.some.inj H;obtain⟨_,_,_,_,_,_,_,_,_,_,_,_,_,_,_,_,_,_,_,_⟩:=cells10_ BK101.out;go_wp2
   go_ret;exact⟨zz1,zz47⟩
  ·rw[if_neg c7]at H;have c7b0:decide ((wrap64 ((wrap64 (a1-(a0_0.size:Int)))-(a0_3.size:Int)))<0)=false:=decide_eq_false c7;clear c7
   by_cases c9:(wrap64 ((wrap64 ((wrap64 (a1-(a0_0.size:Int)))-(a0_3.size:Int)))-(a0_5.size:Int)))<0
   ·rw[if_pos c9]at H;have c9b0:decide ((wrap64 ((wrap64 ((wrap64 (a1-(a0_0.size:Int)))-(a0_3.size:Int)))-(a0_5.size:Int)))<0)=true:=decide_eq_true c9;clear c9;obtain rfl:=Option.some.inj H;obtain⟨_,_,_,_,_,_,_,_,_,_,_,_,_,_,_,_,_,_,_,_⟩:=cells10_ BK101.out;go_wp2
    go_ret;exact⟨zz1,zz47⟩
   ·rw[if_neg c9]at H;have c9b0:decide ((wrap64 ((wrap64 ((wrap64 (a1-(a0_0.size:Int)))-(a0_3.size:Int)))-(a0_5.size:Int)))<0)=false:=decide_eq_false c9;clear c9;obtain rfl:=Option.some.inj H;obtain⟨_,_,_,_,_,_,_,_,_,_,_,_,_,_,_,_,_,_,_,_⟩:=cells10_ BK101.out;go_wp2
    go_ret;exact⟨zz1,zz47⟩
/-! ### laws_szLineS: function 16 -/
def laws_szLineS.l0:Nat→List (S23)→Int→Int→Option (Int)
 |0,_,_,_=>none
 |k+1,x0,x1,x5=>if x5<(x0.length:Int)then(if 0≤x5 then((laws_szLine.f ((rd_T23 x0 x5).f0) ((rd_T23 x0 x5).f1) ((rd_T23 x0 x5).f2) ((rd_T23 x0 x5).f3) ((rd_T23 x0 x5).f4) ((rd_T23 x0 x5).f5) ((rd_T23 x0 x5).f6) ((rd_T23 x0 x5).f7) ((rd_T23 x0 x5).f8) ((rd_T23 x0 x5).f9) x1).bind fun t103=>(if t103<0 then(some (-1))else(laws_szLineS.l0 k x0 t103 (wrap64 (x5+1)))))else(none))else(some x1)
def laws_szLineS.f (k:Nat) (l0:List (S23)) (a1:Int):Option (Int):=if(wrap64 (a1-(l0.length:Int)))<0 then(some (-1))else(laws_szLineS.l0 k l0 (wrap64 (a1-(l0.length:Int))) 0)
theorem laws_szLineS.mono_l: ∀k,(∀y0 y1 y2,LeO (laws_szLineS.l0 k y0 y1 y2) (laws_szLineS.l0 (k+1) y0 y1 y2))
 |0=>fun _ _ _ r h=>by simp[laws_szLineS.l0]at h
 |k+1=>by
  have ih0:=laws_szLineS.mono_l k
  ·intro y0 y1 y2;unfold laws_szLineS.l0
   repeat' first|(with_reducible first|exact ih0 _ _ _|exact LeO.refl _|exact LeO.none _|refine LeO.ite ?_ ?_|refine LeO.bind ?_ (fun _=>?_))|exact ih0 _ _ _|exact LeO.none _|refine LeO.ite ?_ ?_|refine LeO.bind ?_ (fun _=>?_)
theorem laws_szLineS.mono: ∀a0 a1 k,LeO (laws_szLineS.f k a0 a1) (laws_szLineS.f (k+1) a0 a1):=by
 intro a0 a1 k;have ih0:=laws_szLineS.mono_l k;unfold laws_szLineS.f
 repeat' first|(with_reducible first|exact ih0 _ _ _|exact LeO.refl _|exact LeO.none _|refine LeO.ite ?_ ?_|refine LeO.bind ?_ (fun _=>?_))|exact ih0 _ _ _|exact LeO.none _|refine LeO.ite ?_ ?_|refine LeO.bind ?_ (fun _=>?_)
set_option maxHeartbeats 40000000 in
set_option maxRecDepth 100000 in
theorem laws_szLineS.calls (k : Nat) (A0 : Option Addr) (c0 : Nat) (l0 : List (S23)) (a1 : Int) (r : Int) (w : World) (hr0 : Kd.C k23 w A0 l0.length l0) (hc0 : l0.length ≤ c0) (h : laws_szLineS.f k l0 a1 = some r) :
  Calls Tryz.prog 16 #[.slice A0 l0.length c0,.int .i64 a1] w fun e w'=>e= .returned (.int .i64 r)∧Below w.heap.size w w':=by
 have hu23:=Tryz.underlying23;have HR0:=Aside0.mk hr0;have HC0:=Aside0.mk hc0;clear hr0 hc0;have HB:=Aside0.mk (Below.refl w.heap.size w);have H:(if(wrap64 (a1-(l0.length:Int)))<0 then(some (-1))else(laws_szLineS.l0 k l0 (wrap64 (a1-(l0.length:Int))) 0))=some r:=h;clear h
 by_cases c3:(wrap64 (a1-(l0.length:Int)))<0
 ·rw[if_pos c3]at H;have c3b0:decide ((wrap64 (a1-(l0.length:Int)))<0)=true:=decide_eq_true c3;clear c3;obtain rfl:=Option.some.inj H;go_enter Tryz.func16,Tryz.ntmps16
  go_wp2
  go_ret;exact⟨zz1,zz0⟩
 ·rw[if_neg c3]at H;have c3b0:decide ((wrap64 (a1-(l0.length:Int)))<0)=false:=decide_eq_false c3;clear c3;have H':=Aside0.mk H;clear H;go_enter Tryz.func16,Tryz.ntmps16
  go_wp2
  go_loopg [1,5] k (fun kq v1 v5 w'=> ∃(x1_1:Int) (x5_1:Int),v1= .int .i64 x1_1∧v5= .int .i64 x5_1∧Aside0 (laws_szLineS.l0 kq l0 x1_1 x5_1=some r)∧Aside0 (kq≤k)∧Aside0 (Below w.heap.size w w'))
  case atStart=>exact⟨(wrap64 (a1-(l0.length:Int))),(0),zz2,zz2,H',⟨Nat.le_refl _⟩,⟨zz0⟩⟩
  case round=>
   clear H';(try clear c1);(try clear p2);(try clear c3);(try clear c3b0);obtain⟨x1_1,x5_1,rfl,rfl,HA,HK1,HB⟩:=hrel
   cases gk with
   |zero=>exact absurd HA.out (by simp[laws_szLineS.l0])
   |succ k1=>
    have H:=HA.out;clear HA;simp only[laws_szLineS.l0]at H
    by_cases c4:x5_1<(l0.length:Int)
    ·rw[if_pos c4]at H;have c4b0:decide (x5_1<(l0.length:Int))=true:=decide_eq_true c4;clear c4
     by_cases c5:0≤x5_1
     ·rw[if_pos c5]at H;have c5b0:decide (0≤x5_1)=true:=decide_eq_true c5;clear c5;replace H:=Option.bind_eq_some_iff.mp H;obtain⟨t103,A60,H⟩:=H;(try dsimp only at H);have A6:=Aside0.mk A60;clear A60;have HC7:=Aside0.mk H;clear H;have p102:0≤(x5_1:Int):=of_decide_eq_true zz3;have q102:x5_1<(l0.length:Int):=of_decide_eq_true zz3;obtain⟨ad102,e102,W102⟩:=at_T23 HR0.out x5_1 p102 q102;cases e102;obtain⟨hx102_0,hx102_1,hx102_2,hx102_3,hx102_4,hx102_5,hx102_6,hx102_7,hx102_8,hx102_9⟩:=El23.up HB.out W102;replace p102:=eq_true p102;replace q102:=eq_true q102;go_upto_if 25 with(first|((with_reducible refine gate_callee (f:=10) rfl ?_);refine goesR_ 23 Tryz.func10 #[.agg #[.string ((rd_T23 l0 x5_1).f0),.int .i64 ((rd_T23 l0 x5_1).f1),.int .i64 ((rd_T23 l0 x5_1).f2),.string ((rd_T23 l0 x5_1).f3),.int .i64 ((rd_T23 l0 x5_1).f4),.string ((rd_T23 l0 x5_1).f5),.bool ((rd_T23 l0 x5_1).f6),.int .i64 ((rd_T23 l0 x5_1).f7),.int .i64 ((rd_T23 l0 x5_1).f8),.int .i64 ((rd_T23 l0 x5_1).f9)],.int .i64 x1_1] (laws_szLine.calls ((rd_T23 l0 x5_1).f0) ((rd_T23 l0 x5_1).f1) ((rd_T23 l0 x5_1).f2) ((rd_T23 l0 x5_1).f3) ((rd_T23 l0 x5_1).f4) ((rd_T23 l0 x5_1).f5) ((rd_T23 l0 x5_1).f6) ((rd_T23 l0 x5_1).f7) ((rd_T23 l0 x5_1).f8) ((rd_T23 l0 x5_1).f9) x1_1 t103 _ A6.out) ?_;rintro w8 hb;replace HB:=Aside0.mk (below_step zz0 hb);(try clear hb)))
      (try simp only[Act.put,List.setIfInBounds_toArray,List.set_cons_zero,List.set_cons_succ]);have H:=HC7.out;clear HC7
      by_cases c9:t103<0
      ·rw[if_pos c9]at H;have c9b0:decide (t103<0)=true:=decide_eq_true c9;clear c9;(first|rw[c9b0]|(simp only[i64_w,i32_w];rw[c9b0])|skip);obtain rfl:=Option.some.inj H;go_wp2
       go_ret;exact⟨zz1,zz0⟩
      ·rw[if_neg c9]at H;have c9b0:decide (t103<0)=false:=decide_eq_false c9;clear c9;(first|rw[c9b0]|(simp only[i64_w,i32_w];rw[c9b0])|skip);have H':=Aside0.mk H;clear H;go_wp2
       go_roundg k1
       (case measure=>have:=HK1.out;omega);case rel=>exact⟨(t103),(wrap64 (x5_1+1)),zz2,zz2,H',⟨zz49⟩,⟨zz0⟩⟩
     ·rw[if_neg c5]at H;exact absurd H (by simp)
    ·rw[if_neg c4]at H;have c4b0:decide (x5_1<(l0.length:Int))=false:=decide_eq_false c4;clear c4;obtain rfl:=Option.some.inj H;go_wp2
     go_ret;exact⟨zz1,zz0⟩
/-! ### spec_DecText: function 70 -/
mutual
def spec_DecText.j0:Nat→Int→Bool→Option (ByteArray)
 |0,_,_=>none
 |k+1,x0,x8=>if x8=true then(some (⟨#[]⟩:ByteArray))else(if x0<10 then(some (strOfNums (([(wrap64 (48+x0))%256]:List Int))))else((spec_DecText.f k (wrap64 (Int.tdiv x0 10))).bind fun t107=>((some (([(wrap64 (48+(Int.tmod x0 10)))%256]:List Int):List Int)).bind fun y108=>(if t107.size+(strOfNums y108).size≤9223372036854775807 then(some (t107++(strOfNums y108)))else(none)))))
def spec_DecText.f:Nat→Int→Option (ByteArray)
 |0,_=>none
 |k+1,a0=>if a0<0 then(spec_DecText.j0 k a0 true)else(spec_DecText.j0 k a0 (decide (a0>999999999999999)))
end
theorem spec_DecText.mono_l: ∀k,(∀y0,LeO (spec_DecText.f k y0) (spec_DecText.f (k+1) y0))∧(∀y0 y1,LeO (spec_DecText.j0 k y0 y1) (spec_DecText.j0 (k+1) y0 y1))
 |0=>⟨fun _ r h=>by simp[spec_DecText.f]at h,fun _ _ r h=>by simp[spec_DecText.j0]at h⟩
 |k+1=>by
  obtain⟨ih0,ih1⟩:=spec_DecText.mono_l k;refine⟨?_,?_⟩
  ·intro y0;unfold spec_DecText.f
   repeat' first|(with_reducible first|exact ih0 _|exact ih1 _ _|exact LeO.refl _|exact LeO.none _|refine LeO.ite ?_ ?_|refine LeO.bind ?_ (fun _=>?_))|exact ih0 _|exact ih1 _ _|exact LeO.none _|refine LeO.ite ?_ ?_|refine LeO.bind ?_ (fun _=>?_)
  ·intro y0 y1;unfold spec_DecText.j0
   repeat' first|(with_reducible first|exact ih0 _|exact ih1 _ _|exact LeO.refl _|exact LeO.none _|refine LeO.ite ?_ ?_|refine LeO.bind ?_ (fun _=>?_))|exact ih0 _|exact ih1 _ _|exact LeO.none _|refine LeO.ite ?_ ?_|refine LeO.bind ?_ (fun _=>?_)
theorem spec_DecText.mono: ∀a0 k,LeO (spec_DecText.f k a0) (spec_DecText.f (k+1) a0):=by
 intro a0 k;obtain⟨ih0,ih1⟩:=spec_DecText.mono_l k;exact ih0 a0
def spec_DecText.T5:Bool×List (List Nat×List Nat):=(true,[([],[]),([0],[0]),([1],[1]),([],[]),([3],[3]),([4],[4]),([5],[5]),([6],[6]),([7],[7]),([2,8],[2,8]),([9,2,0,1,2,3,4,5,6,7,8,9],[9])])
def spec_DecText.B5:List Nat:= [0,1,3,0,8,24,56,120,248,511,1023]
theorem spec_DecText.tab5:rtab .any (opsOf Tryz.f70 5)=spec_DecText.T5:=by kernel_rfl
theorem spec_DecText.bits5:waitsOk spec_DecText.T5.2 spec_DecText.B5=true:=by kernel_rfl
set_option maxHeartbeats 40000000 in
set_option maxRecDepth 100000 in
theorem spec_DecText.calls (k : Nat) : ∀ (a0 : Int) (r : ByteArray) (w : World) (h : spec_DecText.f k a0 = some r),
  Calls Tryz.prog 70 #[.int .i64 a0] w fun e w'=>e= .returned (.string r)∧Below w.heap.size w w':=by
 induction k using Nat.strongRecOn with
 |_ k ih=>
 intro a0 r w h
 cases k with
 |zero=>exact absurd h (by simp[spec_DecText.f])
 |succ k=>
 simp only[spec_DecText.f]at h;have HB:=Aside0.mk (Below.refl w.heap.size w);have H:(if a0<0 then(spec_DecText.j0 k a0 true)else(spec_DecText.j0 k a0 (decide (a0>999999999999999))))=some r:=h;clear h;have HC2:=Aside0.mk H;clear H;go_enter Tryz.func70,Tryz.ntmps70
 go_upto_region 1 with(fail)
 go_cut [8] (fun v8 wc=> ∃(kq:Nat) (x8_1:Bool),v8= .bool x8_1∧Aside0 (spec_DecText.j0 kq a0 x8_1=some r)∧Aside0 (kq≤k)∧Aside0 (Below w.heap.size w wc))
 case first=>
  have H:=HC2.out;clear HC2
  by_cases c3:a0<0
  ·rw[if_pos c3]at H;have c3b0:decide (a0<0)=true:=decide_eq_true c3;clear c3;(first|rw[c3b0]|(simp only[i64_w,i32_w];rw[c3b0])|skip);have H':=Aside0.mk H;clear H;go_wp2
   go_meet
   case rel=>exact⟨_,(true),zz2,H',⟨zz24⟩,⟨zz0⟩⟩
  ·rw[if_neg c3]at H;have c3b0:decide (a0<0)=false:=decide_eq_false c3;clear c3;(first|rw[c3b0]|(simp only[i64_w,i32_w];rw[c3b0])|skip);have H':=Aside0.mk H;clear H;go_wp2
   go_meet
   case rel=>exact⟨_,(decide (a0>999999999999999)),zz2,H',⟨zz24⟩,⟨zz0⟩⟩
 case rest=>
  clear HC2;(try clear p2);(try clear c3);(try clear c3b0);obtain⟨kq,x8_1,rfl,HA,HJ1,HB⟩:=hcut
  cases kq with
  |zero=>exact absurd HA.out (by simp[spec_DecText.j0])
  |succ kj1=>
   have H:=HA.out;clear HA;simp only[spec_DecText.j0]at H
   by_cases c4:x8_1=true
   ·subst c4;rw[if_pos rfl]at H;obtain rfl:=Option.some.inj H;go_wp2
    go_ret;exact⟨zz1,zz0⟩
   ·replace c4:=Bool.eq_false_iff.mpr c4;subst c4;rw[if_neg Bool.false_ne_true]at H
    by_cases c5:a0<10
    ·rw[if_pos c5]at H;have c5b0:decide (a0<10)=true:=decide_eq_true c5;clear c5;obtain⟨y104,hy104⟩: ∃y_:List Int,y_=(([(wrap64 (48+a0))%256]:List Int)):=⟨_,rfl⟩;replace H:(some (strOfNums y104))=some r:=by first|(rw[hy104];with_reducible exact H)|(have H2_:=(Option.bind_some _ _).symm.trans H;rw[hy104];with_reducible exact H2_)|(have H2_:=(Option.bind_some _ _).symm.trans H;with_reducible exact H2_)|with_reducible exact H|(rw[hy104];exact H)|exact H
     have Ny104:=Aside0.mk hy104;clear hy104;obtain rfl:=Option.some.inj H;go_wp2_with (first|((with_reducible refine gate_dst (N:=14) rfl ?_);refine Kd.R_lit (Kd.int .u8) _ 5 ?hg (N:=14) ?hd (xs:=([(wrap64 (48+a0))%256]:List Int)) (inner:= [.int .u8 ((wrap64 (48+a0))%256)]) (ok:=fun _=>True) (okp:=fun _=>True) ?hr ?hp (fun _ hk=>hk) trivial (Below.refl _ _) (Nat.le_refl _) (by simp) ?_;(case hd=>rfl);(case hg=>rfl);(case hr=>first|(go_simp;done)|(go_simp;rfl));(case hp=>exact(Reps.one (show Kd.M (Kd.int .u8) _ _ _ ((wrap64 (48+a0))%256) [.int .u8 ((wrap64 (48+a0))%256)]from rfl) (Reps.none _ _)));intro v105 w6 ho7 hb hg_ hnew_;clear hg_ hnew_;(first|rw[←Ny104.out]at ho7|(simp only[Int.reduceToNat]at ho7;rw[←Ny104.out]at ho7));have HO106:=Aside0.mk (Kd.R_lower ho7 (below_size zz0));replace HB:=Aside0.mk (below_step zz0 hb);clear hb ho7;have hcv8:=own_string (P:=Tryz.prog) Tryz.underlying63 Tryz.underlying5 Tryz.underlying9 (Kd.own_of_R HO106.out)))
     go_ret;exact⟨zz1,zz0⟩
    ·rw[if_neg c5]at H;have c5b0:decide (a0<10)=false:=decide_eq_false c5;clear c5;replace H:=Option.bind_eq_some_iff.mp H;obtain⟨t107,A90,H⟩:=H;(try dsimp only at H);have A9:=Aside0.mk A90;clear A90;obtain⟨y108,hy108⟩: ∃y_:List Int,y_=(([(wrap64 (48+(Int.tmod a0 10)))%256]:List Int)):=⟨_,rfl⟩;replace H:(if t107.size+(strOfNums y108).size≤9223372036854775807 then(some (t107++(strOfNums y108)))else(none))=some r:=by first|(rw[hy108];with_reducible exact H)|(have H2_:=(Option.bind_some _ _).symm.trans H;rw[hy108];with_reducible exact H2_)|(have H2_:=(Option.bind_some _ _).symm.trans H;with_reducible exact H2_)|with_reducible exact H|(rw[hy108];exact H)|exact H
     have Ny108:=Aside0.mk hy108;clear hy108
     by_cases c10:t107.size+(strOfNums y108).size≤9223372036854775807
     ·rw[if_pos c10]at H;have c10b0:=eq_true c10;have c10b1:decide (t107.size+(strOfNums y108).size≤9223372036854775807)=true:=decide_eq_true c10;(try have c10b2:(9223372036854775807<t107.size+(strOfNums y108).size)=False:=eq_false (Nat.not_lt.2 c10));obtain rfl:=Option.some.inj H;(try go_wp2);replace HB:=Aside0.mk (below_drew1 HB.out);refine st_ (n:=11) (S:=fun w'=>True) (ds:= []) trivial (fun hHeld=>?_);refine with_tabW spec_DecText.tab5 spec_DecText.bits5 (fun HT_ HW_=>?_);generalize wc.drew=w11 at HB hHeld ⊢;refine pz 0 16 ?_;refine pz 1 17 ?_;refine pz 3 19 ?_;refine pz 4 20 ?_;refine pz 5 21 ?_;refine pz 6 22 ?_;refine join_ (σ:=Value) 2 #[true,true,true,true,true,true,true,true,true,false,false] (fun s_=> [(18,.string t107),(23,s_),(24,.string (strOfNums y108))]) (fun s_ w'=>(Kd.R (Kd.int .u8) 5 w' w.heap.size (fun _=>True) s_ y108)∧(Below w.heap.size w w')) ?_ ?_;rotate_left
      ·intro hCont;refine two_ (i:=2) (j:=7) (Ni:=some 18) (Nj:=some 23) #[true,true,true,true,true,true,true,false,false,false,false] #[true,true,false,true,true,true,true,true,false,false,false] rfl rfl rfl rfl (two_of HT_.out (by kernel_rfl)) (by decide) (by decide) (fun K hK=>?_) (fun K hK=>?_)
       ·skip
        refine goZ Tryz.func70 #[.int .i64 (wrap64 (Int.tdiv a0 10))] (ih kj1 (by have:=HJ1.out;omega) (wrap64 (Int.tdiv a0 10)) t107 _ A9.out) ?_;rintro w12 hb;replace HB:=Aside0.mk (below_step zz0 hb);(try clear hb);(try clear hb2);(try clear hk);(try clear hi);refine hK.out _ _ trivial (fun hHeld=>?_);clear hK K;refine nz ?_;refine oz 7 23 (fun K hK=>?_);refine Kd.R_lit_step (Kd.int .u8) _ 5 ?hg (N:=23) ?hd (xs:=([(wrap64 (48+(Int.tmod a0 10)))%256]:List Int)) (inner:= [.int .u8 ((wrap64 (48+(Int.tmod a0 10)))%256)]) (ok:=fun _=>True) (okp:=fun _=>True) ?hr ?hp (fun _ hk=>hk) trivial (Below.refl _ _) (Nat.le_refl _) (by simp) ?_;(case hd=>rfl);(case hg=>rfl);(case hr=>first|(go_simp;done)|(go_simp;rfl));(case hp=>exact(Reps.one (show Kd.M (Kd.int .u8) _ _ _ ((wrap64 (48+(Int.tmod a0 10)))%256) [.int .u8 ((wrap64 (48+(Int.tmod a0 10)))%256)]from rfl) (Reps.none _ _)));intro v109 w13 ho14 hb hg_ hnew_;clear hg_ hnew_;(first|rw[←Ny108.out]at ho14|(simp only[Int.reduceToNat]at ho14;rw[←Ny108.out]at ho14));have HO110:=Aside0.mk (Kd.R_lower ho14 (below_size zz0));replace HB:=Aside0.mk (below_step zz0 hb);clear hb ho14;refine hK.out _ _ trivial (fun hHeld=>?_);clear hK K;refine nz ?_;refine oz 8 24 (fun K hK=>?_);have hcv15:=own_string (P:=Tryz.prog) Tryz.underlying63 Tryz.underlying5 Tryz.underlying9 (Kd.own_of_R HO110.out);refine value_ (w1:=?_) (v:=?_) (by rfl) rfl ?_ ?_;rotate_left 2
        ·go_simp;constructor
         ·rfl
         ·rfl
        clear hcv15;refine hK.out _ _ trivial (fun hHeld=>?_);clear hK K;refine nz ?_;exact norm_ (by first|(simp only[putAll,Act.put,List.setIfInBounds_toArray,List.set_cons_zero,List.set_cons_succ];done)|(simp only[putAll,Act.put,List.setIfInBounds_toArray,List.set_cons_zero,List.set_cons_succ];rfl)) (hCont (v109) _ ⟨zz51,zz0⟩)
       ·skip
        refine Kd.R_lit_step (Kd.int .u8) _ 5 ?hg (N:=23) ?hd (xs:=([(wrap64 (48+(Int.tmod a0 10)))%256]:List Int)) (inner:= [.int .u8 ((wrap64 (48+(Int.tmod a0 10)))%256)]) (ok:=fun _=>True) (okp:=fun _=>True) ?hr ?hp (fun _ hk=>hk) trivial (Below.refl _ _) (Nat.le_refl _) (by simp) ?_;(case hd=>rfl);(case hg=>rfl);(case hr=>first|(go_simp;done)|(go_simp;rfl));(case hp=>exact(Reps.one (show Kd.M (Kd.int .u8) _ _ _ ((wrap64 (48+(Int.tmod a0 10)))%256) [.int .u8 ((wrap64 (48+(Int.tmod a0 10)))%256)]from rfl) (Reps.none _ _)));intro v109 w12 ho13 hb hg_ hnew_;clear hg_ hnew_;(first|rw[←Ny108.out]at ho13|(simp only[Int.reduceToNat]at ho13;rw[←Ny108.out]at ho13));have HO110:=Aside0.mk (Kd.R_lower ho13 (below_size zz0));replace HB:=Aside0.mk (below_step zz0 hb);clear hb ho13;refine hK.out _ _ trivial (fun hHeld=>?_);clear hK K;refine nz ?_;refine two_ (i:=2) (j:=8) (Ni:=some 18) (Nj:=some 24) #[true,true,true,true,true,true,true,true,false,false,false] #[true,true,false,true,true,true,true,true,true,false,false] rfl rfl rfl rfl (two_of HT_.out (by kernel_rfl)) (by decide) (by decide) (fun K hK=>?_) (fun K hK=>?_)
        ·skip
         refine goZ Tryz.func70 #[.int .i64 (wrap64 (Int.tdiv a0 10))] (ih kj1 (by have:=HJ1.out;omega) (wrap64 (Int.tdiv a0 10)) t107 _ A9.out) ?_;rintro w14 hb;replace HO110:=Aside0.mk (Kd.R_below zz51 hb);replace HB:=Aside0.mk (below_step zz0 hb);(try clear hb);(try clear hb2);(try clear hk);(try clear hi);refine hK.out _ _ trivial (fun hHeld=>?_);clear hK K;refine nz ?_;refine oz 8 24 (fun K hK=>?_);have hcv15:=own_string (P:=Tryz.prog) Tryz.underlying63 Tryz.underlying5 Tryz.underlying9 (Kd.own_of_R HO110.out);refine value_ (w1:=?_) (v:=?_) (by rfl) rfl ?_ ?_;rotate_left 2
         ·go_simp;constructor
          ·rfl
          ·rfl
         clear hcv15;refine hK.out _ _ trivial (fun hHeld=>?_);clear hK K;refine nz ?_;exact norm_ (by first|(simp only[putAll,Act.put,List.setIfInBounds_toArray,List.set_cons_zero,List.set_cons_succ];done)|(simp only[putAll,Act.put,List.setIfInBounds_toArray,List.set_cons_zero,List.set_cons_succ];rfl)) (hCont (v109) _ ⟨zz51,zz0⟩)
        ·skip
         have hcv14:=own_string (P:=Tryz.prog) Tryz.underlying63 Tryz.underlying5 Tryz.underlying9 (Kd.own_of_R HO110.out);refine value_ (w1:=?_) (v:=?_) (by rfl) rfl ?_ ?_;rotate_left 2
         ·go_simp;constructor
          ·rfl
          ·rfl
         clear hcv14;refine hK.out _ _ trivial (fun hHeld=>?_);clear hK K;refine nz ?_;refine oz 2 18 (fun K hK=>?_);refine goZ Tryz.func70 #[.int .i64 (wrap64 (Int.tdiv a0 10))] (ih kj1 (by have:=HJ1.out;omega) (wrap64 (Int.tdiv a0 10)) t107 _ A9.out) ?_;rintro w15 hb;replace HO110:=Aside0.mk (Kd.R_below zz51 hb);replace HB:=Aside0.mk (below_step zz0 hb);(try clear hb);(try clear hb2);(try clear hk);(try clear hi);refine hK.out _ _ trivial (fun hHeld=>?_);clear hK K;refine nz ?_;exact norm_ (by first|(simp only[putAll,Act.put,List.setIfInBounds_toArray,List.set_cons_zero,List.set_cons_succ];done)|(simp only[putAll,Act.put,List.setIfInBounds_toArray,List.set_cons_zero,List.set_cons_succ];rfl)) (hCont (v109) _ ⟨zz51,zz0⟩)
      rintro v109 w16 ⟨h0_,h1_⟩;have n0_:Aside0 (Kd.R (Kd.int .u8) 5 w16 w.heap.size (fun _=>True) v109 y108):=⟨h0_⟩;have n1_:Aside0 (Below w.heap.size w w16):=⟨h1_⟩;clear HB;clear h0_ h1_;have HO110:=n0_;have HB:=n1_;clear n0_ n1_;have hHeld:=trivial;refine norm_ (a':=?_) ?_ ?_;rotate_left
      ·simp only[putAll,Act.put,List.setIfInBounds_toArray,List.set_cons_zero,List.set_cons_succ];rfl
      refine pz 9 25 ?_;refine pz 10 2 ?_;refine done_ (done_of HT_.out (by kernel_rfl)) ?_;(try go_wp2);go_ret;exact⟨zz1,zz0⟩
     ·rw[if_neg c10]at H;exact absurd H (by simp)
/-! ### spec_l1digit: function 79 -/
def spec_l1digit.f (a0:Int):Option (Bool):=if a0≥48 then(some (decide (a0≤57)))else(some false)
set_option maxHeartbeats 40000000 in
set_option maxRecDepth 100000 in
theorem spec_l1digit.calls (a0 : Int) (r : Bool) (w : World) (h : spec_l1digit.f a0 = some r) :
  Calls Tryz.prog 79 #[.int .u8 a0] w fun e w'=>e= .returned (.bool r)∧Drawn0 w w':=by
 have H:(if a0≥48 then(some (decide (a0≤57)))else(some false))=some r:=h;clear h
 by_cases c2:a0≥48
 ·rw[if_pos c2]at H;have c2b0:decide (48≤a0)=true:=decide_eq_true c2;clear c2;obtain rfl:=Option.some.inj H;go_enter Tryz.func79,Tryz.ntmps79
  go_wp2
  go_ret;exact⟨zz2,zz4⟩
 ·rw[if_neg c2]at H;have c2b0:decide (48≤a0)=false:=decide_eq_false c2;clear c2;obtain rfl:=Option.some.inj H;go_enter Tryz.func79,Tryz.ntmps79
  go_wp2
  go_ret;exact⟨zz2,zz4⟩
end Go.Proofs.YteojcbbifacpnaaGreatDoor.GFnExactIndexOk
