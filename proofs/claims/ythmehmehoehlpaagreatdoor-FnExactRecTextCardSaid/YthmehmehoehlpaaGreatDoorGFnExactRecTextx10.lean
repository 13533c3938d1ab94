-- Printed by gen.py and its programs for this claim.
import Derived.Test.YthmehmehoehlpaaGreatDoorGFnExactRecTextx0
import Derived.Test.YthmehmehoehlpaaGreatDoorGFnExactRecTextx9
import Derived.Test.YthmehmehoehlpaaGreatDoorZFnExactRecText
namespace Go.Proofs.YthmehmehoehlpaaGreatDoor.GFnExactRecText
open Go.RowKit Go.Proofs.YthmehmehoehlpaaGreatDoorW.PrintWords Go.Proofs.YthmehmehoehlpaaGreatDoorW.PrintLast Go.Proofs.YthmehmehoehlpaaGreatDoorW.PrintMore Go.Proofs.YthmehmehoehlpaaGreatDoorW.Zs
set_option maxHeartbeats 40000000
set_option maxRecDepth 100000
attribute [local go_sem] max2_int min2_int max_two min_two max_three min_three max_four min_four
set_option linter.unusedVariables false
set_option linter.unusedSimpArgs false
def spec_Schedule.l0:Nat→ByteArray→List Int→Int→Option (List Int)
 |0,_,_,_=>none
 |k+1,x0,x1,x2=>if x2<80 then(if x2<16 then(if 0≤(wrap64 (4*x2))then(if(wrap64 (4*x2))<(x0.size:Int)then(if 0≤(wrap64 ((wrap64 (4*x2))+1))then(if(wrap64 ((wrap64 (4*x2))+1))<(x0.size:Int)then(if 0≤(wrap64 ((wrap64 (4*x2))+2))then(if(wrap64 ((wrap64 (4*x2))+2))<(x0.size:Int)then(if 0≤(wrap64 ((wrap64 (4*x2))+3))then(if(wrap64 ((wrap64 (4*x2))+3))<(x0.size:Int)then(if 0≤x2 then(if x2<(x1.length:Int)then(spec_Schedule.l0 k x0 (x1.set (x2:Int).toNat (Go.bits .or .i64 (Go.bits .or .i64 (Go.bits .or .i64 (wrap64 ((wrap64 (bt x0 (wrap64 (4*x2))))*16777216)) (wrap64 ((wrap64 (bt x0 (wrap64 ((wrap64 (4*x2))+1))))*65536))) (wrap64 ((wrap64 (bt x0 (wrap64 ((wrap64 (4*x2))+2))))*256))) (wrap64 (bt x0 (wrap64 ((wrap64 (4*x2))+3)))))) (wrap64 (x2+1)))else(none))else(none))else(none))else(none))else(none))else(none))else(none))else(none))else(none))else(none))else(if 0≤(wrap64 (x2-3))then(if(wrap64 (x2-3))<(x1.length:Int)then(if 0≤(wrap64 (x2-8))then(if(wrap64 (x2-8))<(x1.length:Int)then(if 0≤(wrap64 (x2-14))then(if(wrap64 (x2-14))<(x1.length:Int)then(if 0≤(wrap64 (x2-16))then(if(wrap64 (x2-16))<(x1.length:Int)then((spec_l3turn.f (Go.bits .xor .i64 (Go.bits .xor .i64 (Go.bits .xor .i64 (rd x1 (wrap64 (x2-3))) (rd x1 (wrap64 (x2-8)))) (rd x1 (wrap64 (x2-14)))) (rd x1 (wrap64 (x2-16)))) 1).bind fun t0=>(if 0≤x2 then(if x2<(x1.length:Int)then(spec_Schedule.l0 k x0 (x1.set (x2:Int).toNat t0) (wrap64 (x2+1)))else(none))else(none)))else(none))else(none))else(none))else(none))else(none))else(none))else(none))else(none)))else(some x1)
def spec_Schedule.f (k:Nat) (a0:ByteArray):Option (List Int):=if(a0.size:Int)=64 then(if 80≤35184372088832 then(spec_Schedule.l0 k a0 (List.replicate 80 0) 0)else(none))else(some ([]:List Int))
def spec_Schedule.T8:Bool×List (List Nat×List Nat):=(true,[([],[]),([],[]),([],[]),([],[]),([3],[3]),([2,4],[2,4]),([5],[5]),([6],[6]),([],[]),([],[]),([9],[9]),([10],[10]),([8,11],[8,11]),([12],[12]),([13],[13]),([7,14],[7,14]),([],[]),([],[]),([17],[17]),([18],[18]),([16,19],[16,19]),([20],[20]),([21],[21]),([15,22],[15,22]),([],[]),([],[]),([25],[25]),([26],[26]),([24,27],[24,27]),([28],[28]),([23,29],[23,29]),([0,1,0,1,2,3,4,5,6,7,8,9,10,11,12,13,14,15,16,17,18,19,20,21,22,23,24,25,26,27,28,29,30],[0,1]),([31,30,0,1,2,3,4,5,6,7,8,9,10,11,12,13,14,15,16,17,18,19,20,21,22,23,24,25,26,27,28,29,30],[30,31])])
def spec_Schedule.B8:List Nat:= [0,0,0,0,8,28,60,124,0,0,512,1536,3840,7936,16128,32764,0,0,131072,393216,983040,2031616,4128768,8388604,0,0,33554432,100663296,251658240,520093696,1073741820,2147483647,4294967295]
theorem spec_Schedule.tab8:rtab .any (opsOf Tryz.f117 8)=spec_Schedule.T8:=by kernel_rfl
theorem spec_Schedule.bits8:waitsOk spec_Schedule.T8.2 spec_Schedule.B8=true:=by kernel_rfl
def spec_Schedule.T9:Bool×List (List Nat×List Nat):=(true,[([],[]),([],[]),([],[]),([],[]),([3],[3]),([2,4],[2,4]),([5],[5]),([],[]),([],[]),([8],[8]),([7,9],[7,9]),([10],[10]),([6,11],[6,11]),([],[]),([],[]),([14],[14]),([13,15],[13,15]),([16],[16]),([12,17],[12,17]),([],[]),([],[]),([20],[20]),([19,21],[19,21]),([22],[22]),([18,23],[18,23]),([24],[24]),([0,1,0,1,2,3,4,5,6,7,8,9,10,11,12,13,14,15,16,17,18,19,20,21,22,23,24,25],[0,1]),([26,25,25,0,1,2,3,4,5,6,7,8,9,10,11,12,13,14,15,16,17,18,19,20,21,22,23,24,25],[25,26])])
def spec_Schedule.B9:List Nat:= [0,0,0,0,8,28,60,0,0,256,896,1920,4092,0,0,16384,57344,122880,262140,0,0,1048576,3670016,7864320,16777212,33554428,67108863,134217727]
theorem spec_Schedule.tab9:rtab .any (opsOf Tryz.f117 9)=spec_Schedule.T9:=by kernel_rfl
theorem spec_Schedule.bits9:waitsOk spec_Schedule.T9.2 spec_Schedule.B9=true:=by kernel_rfl
theorem spec_Schedule.calls (k:Nat) (a0:ByteArray) (r:List Int) (w:World) (H:spec_Schedule.f k a0=some r):
  Calls Tryz.prog 117 #[.string a0] w fun e w'=> ∃v0:Value,e= .returned (v0)∧Kd.R (Kd.int .i64) 3 w' w.heap.size (fun _=>True) v0 r∧Below w.heap.size w w':=by
 have HB:=Aside0.mk (Below.refl w.heap.size w);unfold spec_Schedule.f at H
 by_cases c0:(a0.size:Int)=64
 ·rw[if_pos c0]at H;obtain⟨f0,f1⟩:=bqT_ c0;clear c0
  replace H:=ifS_ H;obtain⟨c1,H⟩:=H;obtain⟨f2,f3⟩:=dT_ c1;clear c1;generalize h0:(List.replicate 80 0:List Int)=y0 at H;have Y0:=Aside0.mk h0.symm;clear h0;have H':=Aside0.mk H;clear H;go_enter Tryz.func117,Tryz.ntmps117
  go_wp2_with (first|((with_reducible refine gate_dst (N:=8) rfl ?_);refine Kd.R_make (Kd.int .i64) _ 3 rfl (N:=8) rfl 69 _ _ rfl 80 rfl rfl Tryz.underlying69 (.int .i64 0) 8 info3 rfl zz2 zz5 0 (ok:=fun _=>True) (okp:=fun _=>True) rfl (fun _ hk=>hk) trivial zz5 zz5 (Below.refl _ _) (Nat.le_refl _) ?_;intro v1 w0 h1 hb hg_ hnew_;clear hg_ hnew_;(first|rw[←Y0.out]at h1|(simp only[Int.reduceToNat]at h1;rw[←Y0.out]at h1));have O0:=Aside0.mk (Kd.R_lower h1 (below_size zb_));replace HB:=Aside0.mk (below_step zb_ hb);clear hb h1))
  go_loopg [4] k (fun kq v2 w'=> ∃(x0:List Int) (x1:Int),v2= .int .i64 x1∧Aside0 (spec_Schedule.l0 kq a0 x0 x1=some r)∧Aside0 (kq≤k)∧Aside0 (Kd.R (Kd.int .i64) 3 w' w.heap.size (fun _=>True) v1 x0)∧Aside0 (Below w.heap.size w w'))
  case atStart=>exact⟨(y0),(0),zr_,H',⟨Nat.le_refl _⟩,⟨by(with_reducible repeat(first|apply Kd.R_alloc|apply Kd.R_drewN|apply Kd.R_drew));exact O0.out⟩,⟨zb_⟩⟩
  case round=>
   clear H';(try clear c2);(try clear c0);(try clear f0);(try clear f1);(try clear p0);(try clear c1);(try clear f2);(try clear f3);obtain⟨x0,x1,rfl,HA,K0,O1,HB⟩:=hrel
   cases gk with
   |zero=>exact absurd HA.out (by simp[spec_Schedule.l0])
   |succ k0=>
    have H:=HA.out;clear HA;simp only[spec_Schedule.l0]at H
    by_cases c3:x1<80
    ·rw[if_pos c3]at H;have f4:=decide_eq_true c3;clear c3
     by_cases c4:x1<16
     ·rw[if_pos c4]at H;have f5:=decide_eq_true c4;clear c4;generalize h2:(wrap64 (4*x1))=j0 at H
      have h3:(IntKind.i64.wrap (4*x1))=j0:=(i64_w _).trans h2
      replace H:=ifS_ H;obtain⟨c5,H⟩:=H;have f6:=decide_eq_true c5;clear c5
      replace H:=ifS_ H;obtain⟨c6,H⟩:=H;have f7:=decide_eq_true c6;clear c6;generalize h4:(wrap64 ((j0)+1))=j1 at H
      have h5:(IntKind.i64.wrap ((j0)+1))=j1:=(i64_w _).trans h4
      replace H:=ifS_ H;obtain⟨c7,H⟩:=H;have f8:=decide_eq_true c7;clear c7
      replace H:=ifS_ H;obtain⟨c8,H⟩:=H;have f9:=decide_eq_true c8;clear c8;generalize h6:(wrap64 ((j0)+2))=j2 at H
      have h7:(IntKind.i64.wrap ((j0)+2))=j2:=(i64_w _).trans h6
      replace H:=ifS_ H;obtain⟨c9,H⟩:=H;have f10:=decide_eq_true c9;clear c9
      replace H:=ifS_ H;obtain⟨c10,H⟩:=H;have f11:=decide_eq_true c10;clear c10;generalize h8:(wrap64 ((j0)+3))=j3 at H
      have h9:(IntKind.i64.wrap ((j0)+3))=j3:=(i64_w _).trans h8
      replace H:=ifS_ H;obtain⟨c11,H⟩:=H;have f12:=decide_eq_true c11;clear c11
      replace H:=ifS_ H;obtain⟨c12,H⟩:=H;have f13:=decide_eq_true c12;clear c12
      replace H:=ifS_ H;obtain⟨c13,H⟩:=H;have f14:=decide_eq_true c13;clear c13
      replace H:=ifS_ H;obtain⟨c14,H⟩:=H;have f15:=decide_eq_true c14;clear c14;generalize h10:(x0.set (x1:Int).toNat (Go.bits .or .i64 (Go.bits .or .i64 (Go.bits .or .i64 (wrap64 ((wrap64 (bt a0 (j0)))*16777216)) (wrap64 ((wrap64 (bt a0 (j1)))*65536))) (wrap64 ((wrap64 (bt a0 (j2)))*256))) (wrap64 (bt a0 (j3)))):List Int)=y1 at H;have Y1:=Aside0.mk h10.symm;clear h10;have H':=Aside0.mk H;clear H;(try go_wp2);replace O1:=Aside0.mk (Kd.R_drew O1.out);replace HB:=Aside0.mk (below_drew1 HB.out);have p1:0≤((j0):Int):=of_decide_eq_true za_;have q0:(j0)<(a0.size:Int):=of_decide_eq_true za_;have h11:=bt_at a0 (j0);replace p1:=eq_true p1;replace q0:=eq_true q0;have p2:0≤((j1):Int):=of_decide_eq_true za_;have q1:(j1)<(a0.size:Int):=of_decide_eq_true za_;have h12:=bt_at a0 (j1);replace p2:=eq_true p2;replace q1:=eq_true q1;have p3:0≤((j2):Int):=of_decide_eq_true za_;have q2:(j2)<(a0.size:Int):=of_decide_eq_true za_;have h13:=bt_at a0 (j2);replace p3:=eq_true p3;replace q2:=eq_true q2;have p4:0≤((j3):Int):=of_decide_eq_true za_;have q3:(j3)<(a0.size:Int):=of_decide_eq_true za_;have h14:=bt_at a0 (j3);replace p4:=eq_true p4;replace q3:=eq_true q3;have p5:0≤(x1:Int):=of_decide_eq_true za_;have q4:(x1:Int)<((x0.length:Int):Int):=of_decide_eq_true za_;obtain⟨go26,o0,e0,g0,gl26,cl26,HG26⟩:=Kd.R_form O1.out zz5;(first|cases e0|(injection e0 with ea_ en_ ec_;(first|subst ea_|(injection ea_ with ea_;subst ea_));subst ec_;clear en_));have GB26:=Aside0.mk g0;have GG26:=Aside0.mk HG26;clear g0 gl26 HG26;obtain⟨h15,hf26_0⟩:=Kd.R_celln 0 O1.out (x1:Int) p5 q4;replace p5:=eq_true p5;replace q4:=eq_true q4;have HP28:=Kd.R_putn O1.out (x1:Int) (Go.bits .or .i64 (Go.bits .or .i64 (Go.bits .or .i64 (wrap64 ((wrap64 (bt a0 (j0)))*16777216)) (wrap64 ((wrap64 (bt a0 (j1)))*65536))) (wrap64 ((wrap64 (bt a0 (j2)))*256))) (wrap64 (bt a0 (j3))));rw[←Y1.out]at HP28;have HQ28:=Aside0.mk HP28;clear HP28;refine st_ (n:=33) (S:=fun w'=>True) (ds:= [32]) trivial (fun hHeld=>?_);refine with_tabW spec_Schedule.tab8 spec_Schedule.bits8 (fun HT_ HW_=>?_);generalize wr.drew=w2 at O1 HB GG26 HQ28 hf26_0 h15 hHeld ⊢;refine pz 0 15 ?_;refine pz 1 16 ?_;refine pz 2 17 ?_;refine pz 3 18 ?_;refine pz 4 19 ?_;refine pz 8 23 ?_;refine pz 9 24 ?_;refine pz 10 25 ?_;refine pz 11 26 ?_;refine pz 16 31 ?_;refine pz 17 32 ?_;refine pz 18 33 ?_;refine pz 19 34 ?_;refine pz 24 39 ?_;refine pz 25 40 ?_;refine pz 26 41 ?_;refine pz 27 42 ?_;refine tk (i:=5) (N:=some 20) (v:=?_) (a':=?_) rfl rfl (take_ofW HT_.out HW_.out zz0) (Or.inl ⟨by kernel_rfl,?_⟩) hHeld ?_ ?_;rotate_left
      ·intro w' _;go_simp;with_reducible rfl
      rotate_left
      ·simp only[Act.put,List.setIfInBounds_toArray,List.set_cons_zero,List.set_cons_succ,i64_w,i32_w];rfl
      refine pz 6 21 ?_;refine pz 7 22 ?_;refine tk (i:=12) (N:=some 27) (v:=?_) (a':=?_) rfl rfl (take_ofW HT_.out HW_.out zz0) (Or.inl ⟨by kernel_rfl,?_⟩) hHeld ?_ ?_;rotate_left
      ·intro w' _;go_simp;with_reducible rfl
      rotate_left
      ·simp only[Act.put,List.setIfInBounds_toArray,List.set_cons_zero,List.set_cons_succ,i64_w,i32_w];rfl
      refine pz 13 28 ?_;refine pz 14 29 ?_;refine pz 15 30 ?_;refine tk (i:=20) (N:=some 35) (v:=?_) (a':=?_) rfl rfl (take_ofW HT_.out HW_.out zz0) (Or.inl ⟨by kernel_rfl,?_⟩) hHeld ?_ ?_;rotate_left
      ·intro w' _;go_simp;with_reducible rfl
      rotate_left
      ·simp only[Act.put,List.setIfInBounds_toArray,List.set_cons_zero,List.set_cons_succ,i64_w,i32_w];rfl
      refine pz 21 36 ?_;refine pz 22 37 ?_;refine pz 23 38 ?_;refine tk (i:=28) (N:=some 43) (v:=?_) (a':=?_) rfl rfl (take_ofW HT_.out HW_.out zz0) (Or.inl ⟨by kernel_rfl,?_⟩) hHeld ?_ ?_;rotate_left
      ·intro w' _;go_simp;with_reducible rfl
      rotate_left
      ·simp only[Act.put,List.setIfInBounds_toArray,List.set_cons_zero,List.set_cons_succ,i64_w,i32_w];rfl
      refine pz 29 44 ?_;refine pz 30 45 ?_;refine pz 31 46 ?_;refine last_ (i:=32) (N:=none) #[true,true,true,true,true,true,true,true,true,true,true,true,true,true,true,true,true,true,true,true,true,true,true,true,true,true,true,true,true,true,true,true,true] rfl rfl (one_of HT_.out zz0) zz2 (fun K hK=>?_);refine skip_ (w1:=?_) (by rfl) rfl ?_ ?_;rotate_left
      ·go_simp;rfl
      refine hK.out _ _ ?_;clear hK K;refine done_ (done_of HT_.out zz0) ?_;(try go_wp2);go_roundg k0
      (case measure=>have:=K0.out;omega);case rel=>exact⟨(y1),(wrap64 (x1+1)),zr_,H',⟨zz4⟩,⟨by(with_reducible repeat(first|apply Kd.R_alloc|apply Kd.R_drewN|apply Kd.R_drew));exact HQ28.out⟩,⟨by repeat(first|(with_reducible first|exact HB.out|apply below_alloc|apply pw_below_drewN|apply below_drew1|refine below_set ?_ GB26.out)|exact HB.out)⟩⟩
     ·rw[if_neg c4]at H;have f5:=decide_eq_false c4;clear c4;generalize h16:(wrap64 (x1-3))=j4 at H
      have h17:(IntKind.i64.wrap (x1-3))=j4:=(i64_w _).trans h16
      replace H:=ifS_ H;obtain⟨c15,H⟩:=H;have f16:=decide_eq_true c15;clear c15
      replace H:=ifS_ H;obtain⟨c16,H⟩:=H;have f17:=decide_eq_true c16;clear c16;generalize h18:(wrap64 (x1-8))=j5 at H
      have h19:(IntKind.i64.wrap (x1-8))=j5:=(i64_w _).trans h18
      replace H:=ifS_ H;obtain⟨c17,H⟩:=H;have f18:=decide_eq_true c17;clear c17
      replace H:=ifS_ H;obtain⟨c18,H⟩:=H;have f19:=decide_eq_true c18;clear c18;generalize h20:(wrap64 (x1-14))=j6 at H
      have h21:(IntKind.i64.wrap (x1-14))=j6:=(i64_w _).trans h20
      replace H:=ifS_ H;obtain⟨c19,H⟩:=H;have f20:=decide_eq_true c19;clear c19
      replace H:=ifS_ H;obtain⟨c20,H⟩:=H;have f21:=decide_eq_true c20;clear c20;generalize h22:(wrap64 (x1-16))=j7 at H
      have h23:(IntKind.i64.wrap (x1-16))=j7:=(i64_w _).trans h22
      replace H:=ifS_ H;obtain⟨c21,H⟩:=H;have f22:=decide_eq_true c21;clear c21
      replace H:=ifS_ H;obtain⟨c22,H⟩:=H;have f23:=decide_eq_true c22;clear c22;replace H:=bS_ H;obtain⟨t0,A0,H⟩:=H;(try dsimp only at H)
      replace H:=ifS_ H;obtain⟨c23,H⟩:=H;have f24:=decide_eq_true c23;clear c23
      replace H:=ifS_ H;obtain⟨c24,H⟩:=H;have f25:=decide_eq_true c24;clear c24;generalize h24:(x0.set (x1:Int).toNat t0:List Int)=y2 at H;have Y2:=Aside0.mk h24.symm;clear h24;have H':=Aside0.mk H;clear H;(try go_wp2);replace O1:=Aside0.mk (Kd.R_drew O1.out);replace HB:=Aside0.mk (below_drew1 HB.out);obtain⟨a1,o1,e1⟩:=Kd.R_slice O1.out;(first|subst e1|(injection e1 with f1_ f2_ f3_;have f4_:=f1_.symm;have f5_:=f3_.symm;clear f1_ f2_ f3_;subst f4_;subst f5_));have p6:0≤((j4):Int):=of_decide_eq_true za_;have q5:(j4)<(x0.length:Int):=of_decide_eq_true za_;obtain⟨d0,e2,h25⟩:=Kd.at_int (Kd.R_reads' O1.out).2.2 (j4) p6 q5;cases e2;replace p6:=eq_true p6;replace q5:=eq_true q5;have p7:0≤((j5):Int):=of_decide_eq_true za_;have q6:(j5)<(x0.length:Int):=of_decide_eq_true za_;obtain⟨d1,e3,h26⟩:=Kd.at_int (Kd.R_reads' O1.out).2.2 (j5) p7 q6;obtain rfl:d0=d1:=(by injection e3);replace p7:=eq_true p7;replace q6:=eq_true q6;have p8:0≤((j6):Int):=of_decide_eq_true za_;have q7:(j6)<(x0.length:Int):=of_decide_eq_true za_;obtain⟨d2,e4,h27⟩:=Kd.at_int (Kd.R_reads' O1.out).2.2 (j6) p8 q7;obtain rfl:d0=d2:=(by injection e4);replace p8:=eq_true p8;replace q7:=eq_true q7;have p9:0≤((j7):Int):=of_decide_eq_true za_;have q8:(j7)<(x0.length:Int):=of_decide_eq_true za_;obtain⟨d3,e5,h28⟩:=Kd.at_int (Kd.R_reads' O1.out).2.2 (j7) p9 q8;obtain rfl:d0=d3:=(by injection e5);replace p9:=eq_true p9;replace q8:=eq_true q8;refine st_ (n:=28) (S:=fun w'=>w'.cell? (d0.add ((j4)).toNat)=some (.int .i64 (rd x0 (j4)))∧w'.cell? (d0.add ((j5)).toNat)=some (.int .i64 (rd x0 (j5)))∧w'.cell? (d0.add ((j6)).toNat)=some (.int .i64 (rd x0 (j6)))∧w'.cell? (d0.add ((j7)).toNat)=some (.int .i64 (rd x0 (j7)))) (ds:= [27]) ⟨h25,h26,h27,h28⟩ (fun hHeld=>?_);refine with_tabW spec_Schedule.tab9 spec_Schedule.bits9 (fun HT_ HW_=>?_);generalize wr.drew=w3 at O1 HB h25 h26 h27 h28 hHeld ⊢;refine pz 0 47 ?_;refine pz 1 48 ?_;refine pz 2 49 ?_;refine pz 3 50 ?_;refine pz 4 51 ?_;refine pz 5 52 ?_;refine pz 7 54 ?_;refine pz 8 55 ?_;refine pz 9 56 ?_;refine pz 10 57 ?_;refine pz 13 60 ?_;refine pz 14 61 ?_;refine pz 15 62 ?_;refine pz 16 63 ?_;refine pz 19 66 ?_;refine pz 20 67 ?_;refine pz 21 68 ?_;refine pz 22 69 ?_;refine tk1_ 6 53 hHeld ?_;refine tk1_ 11 58 hHeld ?_;refine pz 12 59 ?_;refine tk1_ 17 64 hHeld ?_;refine pz 18 65 ?_;refine tk1_ 23 70 hHeld ?_;refine pz 24 71 ?_;refine oz 25 72 (fun K hK=>?_);refine goes_ Tryz.func118 zz0 rfl #[.int .i64 (Go.bits .xor .i64 (Go.bits .xor .i64 (Go.bits .xor .i64 (rd x0 (j4)) (rd x0 (j5))) (rd x0 (j6))) (rd x0 (j7))),.int .i64 1] zz0 rfl rfl (by(try simp only[List.map_toArray,List.map_cons,List.map_nil]);first|done|(simp only[h16,h18,h20,h22];rfl)|rfl|(simp only[List.length_drop,List.length_take];rfl)) ?_;(with_reducible refine(spec_l3turn.calls (Go.bits .xor .i64 (Go.bits .xor .i64 (Go.bits .xor .i64 (rd x0 (j4)) (rd x0 (j5))) (rd x0 (j6))) (rd x0 (j7))) 1 t0 _ A0.out).mono ?_);rintro e w' ⟨rfl,⟨nd,rfl⟩⟩;refine⟨_,rfl,?_⟩;have p10:0≤(x1:Int):=of_decide_eq_true za_;have q9:(x1:Int)<((x0.length:Int):Int):=of_decide_eq_true za_;obtain⟨go44,o2,e6,g1,gl44,cl44,HG44⟩:=Kd.R_form O1.out zz5;(first|cases e6|(injection e6 with ea_ en_ ec_;(first|subst ea_|(injection ea_ with ea_;subst ea_));subst ec_;clear en_));have GB44:=Aside0.mk g1;have GG44:=Aside0.mk HG44;clear g1 gl44 HG44;(first|simp only[add_plain]at h25|skip);(first|simp only[add_plain]at h26|skip);(first|simp only[add_plain]at h27|skip);(first|simp only[add_plain]at h28|skip);obtain⟨h29,hf44_0⟩:=Kd.R_celln 0 O1.out (x1:Int) p10 q9;replace p10:=eq_true p10;replace q9:=eq_true q9;have HP47:=Kd.R_putn O1.out (x1:Int) t0;rw[←Y2.out]at HP47;have HQ47:=Aside0.mk HP47;clear HP47;refine hK.out _ _ ⟨hHeld.1,hHeld.2.1,hHeld.2.2.1,hHeld.2.2.2⟩ (fun hHeld=>?_);clear hK K;refine nz ?_;refine pz 26 73 ?_;refine last_ (i:=27) (N:=none) #[true,true,true,true,true,true,true,true,true,true,true,true,true,true,true,true,true,true,true,true,true,true,true,true,true,true,true,true] rfl rfl (one_of HT_.out zz0) zz2 (fun K hK=>?_);refine skip_ (w1:=?_) (by rfl) rfl ?_ ?_;rotate_left
      ·go_simp;rfl
      refine hK.out _ _ ?_;clear hK K;refine done_ (done_of HT_.out zz0) ?_;(try go_wp2);go_roundg k0
      (case measure=>have:=K0.out;omega);case rel=>exact⟨(y2),(wrap64 (x1+1)),zr_,H',⟨zz4⟩,⟨by(with_reducible repeat(first|apply Kd.R_alloc|apply Kd.R_drewN|apply Kd.R_drew));exact HQ47.out⟩,⟨by repeat(first|(with_reducible first|exact HB.out|apply below_alloc|apply pw_below_drewN|apply below_drew1|refine below_set ?_ GB44.out)|exact HB.out)⟩⟩
    ·rw[if_neg c3]at H;have f4:=decide_eq_false c3;clear c3;obtain rfl:=Option.some.inj H;go_wp2
     go_ret;exact⟨_,ze_,(kr_ O1),zb_⟩
 ·rw[if_neg c0]at H;obtain⟨f0,f1⟩:=bqF_ c0;obtain rfl:=Option.some.inj H;go_enter Tryz.func117,Tryz.ntmps117
  go_wp2
  go_ret;exact⟨_,ze_,zn_,zb_⟩
end Go.Proofs.YthmehmehoehlpaaGreatDoor.GFnExactRecText
