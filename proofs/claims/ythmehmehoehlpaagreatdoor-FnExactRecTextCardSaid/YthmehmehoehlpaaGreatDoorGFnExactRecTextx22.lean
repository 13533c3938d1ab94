-- Printed by gen.py and its programs for this claim.
import Derived.Test.YthmehmehoehlpaaGreatDoorGFnExactRecTextx0
import Derived.Test.YthmehmehoehlpaaGreatDoorGFnExactRecTextx20
import Derived.Test.YthmehmehoehlpaaGreatDoorGFnExactRecTextx21
import Derived.Test.YthmehmehoehlpaaGreatDoorZFnExactRecText
namespace Go.Proofs.YthmehmehoehlpaaGreatDoor.GFnExactRecText
open Go.RowKit Go.Proofs.YthmehmehoehlpaaGreatDoorW.PrintWords Go.Proofs.YthmehmehoehlpaaGreatDoorW.PrintLast Go.Proofs.YthmehmehoehlpaaGreatDoorW.PrintMore Go.Proofs.YthmehmehoehlpaaGreatDoorW.Zs
set_option maxHeartbeats 40000000
set_option maxRecDepth 100000
attribute [local go_sem] max2_int min2_int max_two min_two max_three min_three max_four min_four
set_option linter.unusedVariables false
set_option linter.unusedSimpArgs false
mutual
def impl_unescaped.l0:Nat→ByteArray→List Int→Int→Option (ByteArray)
 |0,_,_,_=>none
 |k+1,x0,x1,x2=>if x2<(x0.size:Int)then(if 0≤x2 then(if(bt x0 x2)=37 then(if(wrap64 (x2+2))≥(x0.size:Int)then(impl_unescaped.j1 k x0 x1 x2 true)else(if 0≤(wrap64 (x2+1))then(if(wrap64 (x2+1))<(x0.size:Int)then((impl_hexOf.f k (bt x0 (wrap64 (x2+1)))).bind fun t0=>(if t0<0 then(impl_unescaped.j1 k x0 x1 x2 true)else(if 0≤(wrap64 (x2+2))then(if(wrap64 (x2+2))<(x0.size:Int)then((impl_hexOf.f k (bt x0 (wrap64 (x2+2)))).bind fun t1=>(impl_unescaped.j1 k x0 x1 x2 (decide (t1<0))))else(none))else(none))))else(none))else(none)))else(impl_unescaped.j1 k x0 x1 x2 true))else(none))else(some (strOfNums x1))
def impl_unescaped.j1:Nat→ByteArray→List Int→Int→Bool→Option (ByteArray)
 |0,_,_,_,_=>none
 |k+1,x0,x1,x2,x3=>if x3=true then(if 0≤x2 then(if x2<(x0.size:Int)then(if x1.length<140737488355328 then(impl_unescaped.l0 k x0 (x1++ [bt x0 x2]) (wrap64 (x2+1)))else(none))else(none))else(none))else(if 0≤(wrap64 (x2+1))then(if(wrap64 (x2+1))<(x0.size:Int)then((impl_hexOf.f k (bt x0 (wrap64 (x2+1)))).bind fun t0=>(if 0≤(wrap64 (x2+2))then(if(wrap64 (x2+2))<(x0.size:Int)then((impl_hexOf.f k (bt x0 (wrap64 (x2+2)))).bind fun t1=>((impl_isFree.f ((wrap64 ((wrap64 (16*t0))+t1))%256)).bind fun t2=>(if t2=true then(if x1.length<140737488355328 then(impl_unescaped.l0 k x0 (x1++ [(wrap64 ((wrap64 (16*t0))+t1))%256]) (wrap64 ((wrap64 (x2+2))+1)))else(none))else(if 0≤(((wrap64 ((wrap64 (16*t0))+t1))%256)/16)then(if(((wrap64 ((wrap64 (16*t0))+t1))%256)/16)<16 then(if 0≤(Go.bits .and .u8 ((wrap64 ((wrap64 (16*t0))+t1))%256) 15)then(if(Go.bits .and .u8 ((wrap64 ((wrap64 (16*t0))+t1))%256) 15)<16 then((some (([37,bt (⟨#[48,49,50,51,52,53,54,55,56,57,65,66,67,68,69,70]⟩:ByteArray) (((wrap64 ((wrap64 (16*t0))+t1))%256)/16),bt (⟨#[48,49,50,51,52,53,54,55,56,57,65,66,67,68,69,70]⟩:ByteArray) (Go.bits .and .u8 ((wrap64 ((wrap64 (16*t0))+t1))%256) 15)]:List Int):List Int)).bind fun y0=>(if x1.length+y0.length<140737488355328 then(impl_unescaped.l0 k x0 (x1++y0) (wrap64 ((wrap64 (x2+2))+1)))else(none)))else(none))else(none))else(none))else(none)))))else(none))else(none)))else(none))else(none))
end
def impl_unescaped.f (k:Nat) (a0:ByteArray):Option (ByteArray):=impl_unescaped.l0 k a0 ([]:List Int) 0
def impl_unescaped.T7:Bool×List (List Nat×List Nat):=(true,[([],[]),([],[]),([1],[1]),([0,2],[0,2]),([3],[3]),([4],[4]),([],[]),([],[]),([7],[7]),([6,8],[6,8]),([9,4],[9]),([5,10],[5,10]),([11],[11]),([12,10,0,1,2,3,4,5,6,7,8,9,10,11,12],[12])])
def impl_unescaped.B7:List Nat:= [0,0,2,7,15,31,0,0,128,448,991,2047,4095,8191]
theorem impl_unescaped.tab7:rtab .any (opsOf Tryz.f132 7)=impl_unescaped.T7:=by kernel_rfl
theorem impl_unescaped.bits7:waitsOk impl_unescaped.T7.2 impl_unescaped.B7=true:=by kernel_rfl
def impl_unescaped.T10:Bool×List (List Nat×List Nat):=(true,[([],[]),([],[]),([1],[1]),([2],[2]),([],[]),([4],[4]),([5],[5]),([3,6],[3,6]),([0,7],[0,7]),([8,8,0,1,2,3,4,5,6,7,8],[0,8])])
def impl_unescaped.B10:List Nat:= [0,0,2,6,0,16,48,126,255,511]
theorem impl_unescaped.tab10:rtab .any (opsOf Tryz.f132 10)=impl_unescaped.T10:=by kernel_rfl
theorem impl_unescaped.bits10:waitsOk impl_unescaped.T10.2 impl_unescaped.B10=true:=by kernel_rfl
theorem impl_unescaped.calls (k:Nat) (a0 r:ByteArray) (w:World) (H:impl_unescaped.f k a0=some r):
  Calls Tryz.prog 132 #[.string a0] w fun e w'=>e= .returned (.string r)∧Below w.heap.size w w':=by
 have hu8_: ∀x_:Int,IntKind.u8.wrap x_=x_%256:=fun _=>rfl;have HB:=Aside0.mk (Below.refl w.heap.size w);unfold impl_unescaped.f at H;have H':=Aside0.mk H;clear H;go_enter Tryz.func132,Tryz.ntmps132
 go_wp2
 go_loopg [3,4] k (fun kq v0 v1 w'=> ∃(x0:List Int) (x1:Int),v1= .int .i64 x1∧Aside0 (impl_unescaped.l0 kq a0 x0 x1=some r)∧Aside0 (kq≤k)∧Aside0 (Kd.R (Kd.int .u8) 5 w' w.heap.size (fun _=>True) v0 x0)∧Aside0 (Below w.heap.size w w'))
 case atStart=>exact⟨(([]:List Int)),(0),zr_,H',⟨Nat.le_refl _⟩,⟨zn_⟩,⟨zb_⟩⟩
 case round=>
  clear H';(try clear c0);obtain⟨x0,x1,rfl,HA,K0,O0,HB⟩:=hrel
  cases gk with
  |zero=>exact absurd HA.out (by simp[impl_unescaped.l0])
  |succ k0=>
   have H:=HA.out;clear HA;simp only[impl_unescaped.l0]at H
   by_cases c1:x1<(a0.size:Int)
   ·rw[if_pos c1]at H;have f0:=decide_eq_true c1;clear c1;have C0:=Aside0.mk H;clear H;go_upto_region 5 with(fail)
    go_cut [38] (fun v2 wc=> ∃(kq:Nat) (x2:Bool),v2= .bool x2∧Aside0 (impl_unescaped.j1 kq a0 x0 x1 x2=some r)∧Aside0 (kq≤k0)∧Aside0 (Kd.R (Kd.int .u8) 5 wc w.heap.size (fun _=>True) u3 x0)∧Aside0 (Below w.heap.size w wc))
    case first=>
     have H:=C0.out;clear C0
     replace H:=ifS_ H;obtain⟨c2,H⟩:=H;have f1:=decide_eq_true c2;clear c2;(first|rw[f1]|(simp only[i64_w,i32_w];rw[f1])|skip);have C1:=Aside0.mk H;clear H;have p0:0≤(x1:Int):=of_decide_eq_true za_;have q0:x1<(a0.size:Int):=of_decide_eq_true za_;have h0:=bt_at a0 x1;replace p0:=eq_true p0;replace q0:=eq_true q0
     repeat' (first|(go_big_may;(fail))|go_values|go_skip|go_big_skip|go_big_want|((first|(with_reducible refine gate_nog rfl ?_)|(fail_if_success with_reducible refine gate_any ?_));go_step)|go_upon|simp only[Bool.not_true,Bool.not_false,Bool.true_and,Bool.false_and,Bool.true_or,Bool.false_or]|dsimp only)
     have H:=C1.out;clear C1
     by_cases c3:(bt a0 x1)=37
     ·rw[if_pos c3]at H;obtain⟨f2,f3⟩:=bqT_ c3;clear c3;(first|rw[f2]|(simp only[i64_w,i32_w];rw[f2])|rw[f3]|(rw[f4];simp only[Bool.not_true,Bool.not_false])|skip)
      by_cases c4:(wrap64 (x1+2))≥(a0.size:Int)
      ·rw[if_pos c4]at H;have f5:=decide_eq_true c4;clear c4;have H':=Aside0.mk H;clear H;go_wp2
       go_meet
       case rel=>exact⟨_,(true),zr_,H',⟨zz17⟩,⟨(kr_ O0)⟩,⟨zb_⟩⟩
      ·rw[if_neg c4]at H;have f5:=decide_eq_false c4;clear c4;generalize h1:(wrap64 (x1+1))=j0 at H
       have h2:(IntKind.i64.wrap (x1+1))=j0:=(i64_w _).trans h1
       replace H:=ifS_ H;obtain⟨c5,H⟩:=H;have f6:=decide_eq_true c5;clear c5
       replace H:=ifS_ H;obtain⟨c6,H⟩:=H;have f7:=decide_eq_true c6;clear c6;replace H:=bS_ H;obtain⟨t0,A0,H⟩:=H;(try dsimp only at H);have C2:=Aside0.mk H;clear H;have p1:0≤((j0):Int):=of_decide_eq_true za_;have q1:(j0)<(a0.size:Int):=of_decide_eq_true za_;have h3:=bt_at a0 (j0);replace p1:=eq_true p1;replace q1:=eq_true q1
       repeat' (first|(go_big_may;(first|(go_at_call 153;(with_reducible refine(impl_hexOf.calls k0 (bt a0 (j0)) t0 _ A0.out).mono ?_);rintro e w' ⟨rfl,⟨nd,rfl⟩⟩)))|go_values|go_skip|go_big_skip|go_big_want|((first|(with_reducible refine gate_nog rfl ?_)|(fail_if_success with_reducible refine gate_any ?_));go_step)|go_upon|simp only[Bool.not_true,Bool.not_false,Bool.true_and,Bool.false_and,Bool.true_or,Bool.false_or]|dsimp only)
       (try simp only[Act.put,List.setIfInBounds_toArray,List.set_cons_zero,List.set_cons_succ]);(try simp only[World.drewN_drewN]);(try(rw[drewN_self wr];generalize hq_:World.drewN wr _=wr;have n0_:Aside0 (Kd.R (Kd.int .u8) 5 wr w.heap.size (fun _=>True) u3 x0):=⟨by rw[←hq_];exact (kr_ O0)⟩;have n1_:Aside0 (Below w.heap.size w wr):=⟨zz14⟩;clear O0 HB hq_;have O0:=n0_;have HB:=n1_;clear n0_ n1_));have H:=C2.out;clear C2
       by_cases c7:t0<0
       ·rw[if_pos c7]at H;have f8:=decide_eq_true c7;clear c7;(first|rw[f8]|(simp only[i64_w,i32_w];rw[f8])|skip);have H':=Aside0.mk H;clear H;go_wp2
        go_meet
        case rel=>exact⟨_,(true),zr_,H',⟨zz17⟩,⟨(kr_ O0)⟩,⟨zb_⟩⟩
       ·rw[if_neg c7]at H;have f8:=decide_eq_false c7;clear c7;(first|rw[f8]|(simp only[i64_w,i32_w];rw[f8])|skip);generalize h4:(wrap64 (x1+2))=j2 at H
        (try rw[h4]at f5);have h5:(IntKind.i64.wrap (x1+2))=j2:=(i64_w _).trans h4
        replace H:=ifS_ H;obtain⟨c8,H⟩:=H;have f9:=decide_eq_true c8;clear c8
        replace H:=ifS_ H;obtain⟨c9,H⟩:=H;have f10:=decide_eq_true c9;clear c9;replace H:=bS_ H;obtain⟨t1,A1,H⟩:=H;(try dsimp only at H);have H':=Aside0.mk H;clear H;have p2:0≤((j2):Int):=of_decide_eq_true za_;have q2:(j2)<(a0.size:Int):=of_decide_eq_true za_;have h6:=bt_at a0 (j2);replace p2:=eq_true p2;replace q2:=eq_true q2;go_wp2_with (first|(go_at_call 153;(with_reducible refine(impl_hexOf.calls k0 (bt a0 (j2)) t1 _ A1.out).mono ?_);rintro e w' ⟨rfl,⟨nd,rfl⟩⟩))
        go_meet
        case rel=>exact⟨_,(decide (t1<0)),zr_,H',⟨zz17⟩,⟨(kr_ O0)⟩,⟨zb_⟩⟩
     ·rw[if_neg c3]at H;obtain⟨f2,f3⟩:=bqF_ c3;(first|rw[f2]|(simp only[i64_w,i32_w];rw[f2])|rw[f3]|(rw[f4];simp only[Bool.not_true,Bool.not_false])|skip);have H':=Aside0.mk H;clear H;go_wp2
      go_meet
      case rel=>exact⟨_,(true),zr_,H',⟨zz17⟩,⟨(kr_ O0)⟩,⟨zb_⟩⟩
    case rest=>
     clear C0;(try clear c0);(try clear p3);(try clear q3);(try clear h7);(try clear c1);(try clear f0);(try clear p4);(try clear c2);(try clear f1);(try clear p0);(try clear q0);(try clear h0);(try clear p5);(try clear c3);(try clear f2);(try clear f3);(try clear c4);(try clear f5);(try clear c5);(try clear f6);(try clear c6);(try clear f7);(try clear p1);(try clear q1);(try clear h3);(try clear c10);(try clear c7);(try clear f8);(try clear c8);(try clear f9);(try clear c9);(try clear f10);(try clear p2);(try clear q2);(try clear h6);(try clear p1);(try clear p2);(try clear p0);(try clear q1);(try clear q2);(try clear q0);obtain⟨kq,x2,rfl,HA,J0,O0,HB⟩:=hcut
     cases kq with
     |zero=>exact absurd HA.out (by simp[impl_unescaped.j1])
     |succ k1=>
      have H:=HA.out;clear HA;simp only[impl_unescaped.j1]at H
      by_cases c11:x2=true
      ·subst c11;rw[if_pos rfl]at H
       replace H:=ifS_ H;obtain⟨c12,H⟩:=H;have f11:=decide_eq_true c12;clear c12
       replace H:=ifS_ H;obtain⟨c13,H⟩:=H;have f12:=decide_eq_true c13;clear c13
       replace H:=ifS_ H;obtain⟨c14,H⟩:=H;have L0:=Aside0.mk c14;clear c14;generalize h8:(x0++ [bt a0 x1]:List Int)=y0 at H;have Y0:=Aside0.mk h8.symm;clear h8;have H':=Aside0.mk H;clear H;have p6:0≤(x1:Int):=of_decide_eq_true za_;have q4:x1<(a0.size:Int):=of_decide_eq_true za_;have h9:=bt_at a0 x1;replace p6:=eq_true p6;replace q4:=eq_true q4;go_wp2_with (first|((with_reducible refine gate_builtin (b:= .append) (xs:= #[.tmp 39,.tmp 43]) rfl ?_);(try(refine gate_guard (by rfl) ?_;dsimp only));at_builtin;refine Kd.R_append (Kd.int .u8) (w0:=w) w.heap.size rfl (.tmp 39) (.tmp 43) 40 5 (.int .u8 0) 1 rfl Tryz.underlying40 info5 rfl zz2 zz5 u3 x0 (bt a0 x1) [.int .u8 (bt a0 x1)] (fun _=>True) (fun _=>False) rfl rfl ?aP (fun _ hk=>hk.elim) ?aF ?aO ?aB ?aS ?aL ?_;(case aP=>exact rfl);(case aB=>exact zb_);(case aF=>exact(fun _ _=>trivial));(case aO=>exact (kr_ O0));(case aS=>exact(below_size zb_));(case aL=>have:=L0.out;omega);intro v3 w1 ho hb hg hat;rw[←Y0.out]at ho;replace HB:=Aside0.mk (hb);have O1:=Aside0.mk (ho);clear O0;clear ho hb hg hat))
       go_roundg k1
       (case measure=>have:=K0.out;have:=J0.out;omega);case rel=>exact⟨(y0),(wrap64 (x1+1)),zr_,H',⟨zz15⟩,⟨by(with_reducible repeat(first|apply Kd.R_alloc|apply Kd.R_drewN|apply Kd.R_drew));exact O1.out⟩,⟨zb_⟩⟩
      ·replace c11:=Bool.eq_false_iff.mpr c11;subst c11;rw[if_neg Bool.false_ne_true]at H;generalize h10:(wrap64 (x1+1))=j3 at H
       have h11:(IntKind.i64.wrap (x1+1))=j3:=(i64_w _).trans h10
       replace H:=ifS_ H;obtain⟨c15,H⟩:=H;have f13:=decide_eq_true c15;clear c15
       replace H:=ifS_ H;obtain⟨c16,H⟩:=H;have f14:=decide_eq_true c16;clear c16;replace H:=bS_ H;obtain⟨t2,A2,H⟩:=H;(try dsimp only at H);generalize h12:(wrap64 (x1+2))=j4 at H
       (try rw[h12]at A2);have h13:(IntKind.i64.wrap (x1+2))=j4:=(i64_w _).trans h12
       replace H:=ifS_ H;obtain⟨c17,H⟩:=H;have f15:=decide_eq_true c17;clear c17
       replace H:=ifS_ H;obtain⟨c18,H⟩:=H;have f16:=decide_eq_true c18;clear c18;replace H:=bS_ H;obtain⟨t3,A3,H⟩:=H;(try dsimp only at H);replace H:=bS_ H;obtain⟨t4,A4,H⟩:=H;(try dsimp only at H);have C3:=Aside0.mk H;clear H;(try go_wp2);replace O0:=Aside0.mk (Kd.R_drew O0.out);replace HB:=Aside0.mk (below_drew1 HB.out);have p7:0≤((j3):Int):=of_decide_eq_true za_;have q5:(j3)<(a0.size:Int):=of_decide_eq_true za_;have h14:=bt_at a0 (j3);replace p7:=eq_true p7;replace q5:=eq_true q5;have p8:0≤((j4):Int):=of_decide_eq_true za_;have q6:(j4)<(a0.size:Int):=of_decide_eq_true za_;have h15:=bt_at a0 (j4);replace p8:=eq_true p8;replace q6:=eq_true q6;refine st_ (n:=14) (S:=fun w'=>True) (ds:= []) trivial (fun hHeld=>?_);refine with_tabW impl_unescaped.tab7 impl_unescaped.bits7 (fun HT_ HW_=>?_);generalize wc.drew=w2 at O0 HB hHeld ⊢;refine pz 0 45 ?_;refine pz 1 46 ?_;refine pz 2 47 ?_;refine pz 6 51 ?_;refine pz 7 52 ?_;refine pz 8 53 ?_;refine tk (i:=3) (N:=some 48) (v:=?_) (a':=?_) rfl rfl (take_ofW HT_.out HW_.out zz0) (Or.inl ⟨by kernel_rfl,?_⟩) hHeld ?_ ?_;rotate_left
       ·intro w' _;go_simp;with_reducible rfl
       rotate_left
       ·simp only[Act.put,List.setIfInBounds_toArray,List.set_cons_zero,List.set_cons_succ,i64_w,i32_w];rfl
       refine tk (i:=9) (N:=some 54) (v:=?_) (a':=?_) rfl rfl (take_ofW HT_.out HW_.out zz0) (Or.inl ⟨by kernel_rfl,?_⟩) hHeld ?_ ?_;rotate_left
       ·intro w' _;go_simp;with_reducible rfl
       rotate_left
       ·simp only[Act.put,List.setIfInBounds_toArray,List.set_cons_zero,List.set_cons_succ,i64_w,i32_w];rfl
       refine oz 4 49 (fun K hK=>?_);refine goes_ Tryz.func153 zz0 rfl #[.int .u8 (bt a0 (j3))] zz0 rfl rfl (by(try simp only[List.map_toArray,List.map_cons,List.map_nil]);first|done|(simp only[h10];rfl)|rfl|(simp only[List.length_drop,List.length_take];rfl)) ?_;(with_reducible refine(impl_hexOf.calls k1 (bt a0 (j3)) t2 _ A2.out).mono ?_);rintro e w' ⟨rfl,⟨nd,rfl⟩⟩;refine⟨_,rfl,?_⟩;refine hK.out _ _ trivial (fun hHeld=>?_);clear hK K;refine nz ?_;refine pz 5 50 ?_;refine oz 10 55 (fun K hK=>?_);refine goes_ Tryz.func153 zz0 rfl #[.int .u8 (bt a0 (j4))] zz0 rfl rfl (by(try simp only[List.map_toArray,List.map_cons,List.map_nil]);first|done|(simp only[h12];rfl)|rfl|(simp only[List.length_drop,List.length_take];rfl)) ?_;(with_reducible refine(impl_hexOf.calls k1 (bt a0 (j4)) t3 _ A3.out).mono ?_);rintro e w' ⟨rfl,⟨nd,rfl⟩⟩;refine⟨_,rfl,?_⟩;refine hK.out _ _ trivial (fun hHeld=>?_);clear hK K;refine nz ?_;refine pz 11 56 ?_;refine pz 12 57 ?_;refine pz 13 5 ?_;refine done_ (done_of HT_.out zz0) ?_;go_upto_if 59 with(first|((with_reducible refine gc_ 154 rfl ?_);refine gR 59 Tryz.func154 (impl_isFree.calls ((wrap64 ((wrap64 (16*t2))+t3))%256) t4 _ A4.out) ?_;rintro w' ⟨nd,rfl⟩))
       (try simp only[Act.put,List.setIfInBounds_toArray,List.set_cons_zero,List.set_cons_succ]);(try simp only[World.drewN_drewN]);(try(rw[drewN_self w2];generalize hq_:World.drewN w2 _=w2;have n0_:Aside0 (Kd.R (Kd.int .u8) 5 w2 w.heap.size (fun _=>True) u3 x0):=⟨by rw[←hq_];exact (kr_ O0)⟩;have n1_:Aside0 (Below w.heap.size w w2):=⟨zz14⟩;clear O0 HB hq_;have O0:=n0_;have HB:=n1_;clear n0_ n1_));have H:=C3.out;clear C3
       by_cases c19:t4=true
       ·subst c19;rw[if_pos rfl]at H
        replace H:=ifS_ H;obtain⟨c20,H⟩:=H;have L1:=Aside0.mk c20;clear c20;generalize h16:(x0++ [(wrap64 ((wrap64 (16*t2))+t3))%256]:List Int)=y1 at H;have Y1:=Aside0.mk h16.symm;clear h16;have H':=Aside0.mk H;clear H;go_wp2_with (first|((with_reducible refine gate_builtin (b:= .append) (xs:= #[.tmp 60,.tmp 62]) rfl ?_);(try(refine gate_guard (by rfl) ?_;dsimp only));at_builtin;refine Kd.R_append (Kd.int .u8) (w0:=w) w.heap.size rfl (.tmp 60) (.tmp 62) 40 5 (.int .u8 0) 1 rfl Tryz.underlying40 info5 rfl zz2 zz5 u3 x0 ((wrap64 ((wrap64 (16*t2))+t3))%256) [.int .u8 ((wrap64 ((wrap64 (16*t2))+t3))%256)] (fun _=>True) (fun _=>False) rfl rfl ?aP (fun _ hk=>hk.elim) ?aF ?aO ?aB ?aS ?aL ?_;(case aP=>exact rfl);(case aB=>exact zb_);(case aF=>exact(fun _ _=>trivial));(case aO=>exact (kr_ O0));(case aS=>exact(below_size zb_));(case aL=>have:=L1.out;omega);intro v4 w3 ho hb hg hat;rw[←Y1.out]at ho;replace HB:=Aside0.mk (hb);have O2:=Aside0.mk (ho);clear O0;clear ho hb hg hat))
        go_roundg k1
        (case measure=>have:=K0.out;have:=J0.out;omega);case rel=>exact⟨(y1),(wrap64 ((j4)+1)),(by first|rfl|(simp;done)|(simp only[←h12]<;>(first|rfl|simp))|(simp[*];done)),H',⟨zz15⟩,⟨by(with_reducible repeat(first|apply Kd.R_alloc|apply Kd.R_drewN|apply Kd.R_drew));exact O2.out⟩,⟨zb_⟩⟩
       ·replace c19:=Bool.eq_false_iff.mpr c19;subst c19;rw[if_neg Bool.false_ne_true]at H;generalize h17:(((wrap64 ((wrap64 (16*t2))+t3))%256)/16)=j5 at H
        replace H:=ifS_ H;obtain⟨c21,H⟩:=H;have f17:=decide_eq_true c21;clear c21;(first|rw[f17]|(simp only[i64_w,i32_w];rw[f17])|skip)
        replace H:=ifS_ H;obtain⟨c22,H⟩:=H;have f18:=decide_eq_true c22;clear c22;generalize h18:(Go.bits .and .u8 ((wrap64 ((wrap64 (16*t2))+t3))%256) 15)=j6 at H
        replace H:=ifS_ H;obtain⟨c23,H⟩:=H;have f19:=decide_eq_true c23;clear c23
        replace H:=ifS_ H;obtain⟨c24,H⟩:=H;have f20:=decide_eq_true c24;clear c24;generalize h19:(([37,bt (⟨#[48,49,50,51,52,53,54,55,56,57,65,66,67,68,69,70]⟩:ByteArray) (j5),bt (⟨#[48,49,50,51,52,53,54,55,56,57,65,66,67,68,69,70]⟩:ByteArray) (j6)]:List Int):List Int)=y2 at H;have Y2:=Aside0.mk h19.symm;clear h19
        replace H:=ifS_ H;obtain⟨c25,H⟩:=H;have L2:=Aside0.mk c25;clear c25;generalize h20:(x0++y2:List Int)=y3 at H;have Y3:=Aside0.mk h20.symm;clear h20;have H':=Aside0.mk H;clear H;(try go_wp2);replace O0:=Aside0.mk (Kd.R_drew O0.out);replace HB:=Aside0.mk (below_drew1 HB.out);have p9:0≤((j5):Int):=of_decide_eq_true za_;have q7:(j5)<(16:Int):=of_decide_eq_true za_;have h21:=bt_at (⟨#[48,49,50,51,52,53,54,55,56,57,65,66,67,68,69,70]⟩:ByteArray) (j5);replace p9:=eq_true p9;replace q7:=eq_true q7;have p10:0≤((j6):Int):=of_decide_eq_true za_;have q8:(j6)<(16:Int):=of_decide_eq_true za_;have h22:=bt_at (⟨#[48,49,50,51,52,53,54,55,56,57,65,66,67,68,69,70]⟩:ByteArray) (j6);replace p10:=eq_true p10;replace q8:=eq_true q8;refine st_ (n:=10) (S:=fun w'=>True) (ds:= []) trivial (fun hHeld=>?_);refine with_tabW impl_unescaped.tab10 impl_unescaped.bits10 (fun HT_ HW_=>?_);generalize w2.drew=w4 at O0 HB hHeld ⊢;refine pz 0 64 ?_;refine pz 1 65 ?_;refine pz 2 66 ?_;refine pz 4 68 ?_;refine pz 5 69 ?_;refine tk (i:=3) (N:=some 67) (v:=?_) (a':=?_) rfl rfl (take_ofW HT_.out HW_.out zz0) (Or.inl ⟨by kernel_rfl,?_⟩) hHeld ?_ ?_;rotate_left
        ·intro w' _;go_simp;with_reducible rfl
        rotate_left
        ·simp only[Act.put,List.setIfInBounds_toArray,List.set_cons_zero,List.set_cons_succ,i64_w,i32_w];rfl
        refine tk (i:=6) (N:=some 70) (v:=?_) (a':=?_) rfl rfl (take_ofW HT_.out HW_.out zz0) (Or.inl ⟨by kernel_rfl,?_⟩) hHeld ?_ ?_;rotate_left
        ·intro w' _;go_simp;with_reducible rfl
        rotate_left
        ·simp only[Act.put,List.setIfInBounds_toArray,List.set_cons_zero,List.set_cons_succ,i64_w,i32_w];rfl
        refine oz 7 71 (fun K hK=>?_);refine Kd.R_lit_step (Kd.int .u8) _ 5 ?hg (N:=71) ?hd (xs:=([37,bt (⟨#[48,49,50,51,52,53,54,55,56,57,65,66,67,68,69,70]⟩:ByteArray) (j5),bt (⟨#[48,49,50,51,52,53,54,55,56,57,65,66,67,68,69,70]⟩:ByteArray) (j6)]:List Int)) (inner:= [.int .u8 37,.int .u8 (bt (⟨#[48,49,50,51,52,53,54,55,56,57,65,66,67,68,69,70]⟩:ByteArray) (j5)),.int .u8 (bt (⟨#[48,49,50,51,52,53,54,55,56,57,65,66,67,68,69,70]⟩:ByteArray) (j6))]) (ok:=fun _=>True) (okp:=fun _=>True) ?hr ?hp (fun _ hk=>hk) trivial (Below.refl _ _) (Nat.le_refl _) (by simp) ?_;(case hd=>rfl);(case hg=>rfl);(case hr=>first|(go_simp;done)|(go_simp;rfl));(case hp=>exact(Reps.one (show Kd.M (Kd.int .u8) _ _ _ 37 [.int .u8 37]from rfl) (Reps.one (show Kd.M (Kd.int .u8) _ _ _ (bt (⟨#[48,49,50,51,52,53,54,55,56,57,65,66,67,68,69,70]⟩:ByteArray) (j5)) [.int .u8 (bt (⟨#[48,49,50,51,52,53,54,55,56,57,65,66,67,68,69,70]⟩:ByteArray) (j5))]from rfl) (Reps.one (show Kd.M (Kd.int .u8) _ _ _ (bt (⟨#[48,49,50,51,52,53,54,55,56,57,65,66,67,68,69,70]⟩:ByteArray) (j6)) [.int .u8 (bt (⟨#[48,49,50,51,52,53,54,55,56,57,65,66,67,68,69,70]⟩:ByteArray) (j6))]from rfl) (Reps.none _ _)))));intro v5 w5 h23 hb hg_ hnew_;clear hg_ hnew_;(first|rw[←Y2.out]at h23|(simp only[Int.reduceToNat]at h23;rw[←Y2.out]at h23));have O3:=Aside0.mk (Kd.R_lower (Kd.R_new' h23 (Kd.R_lt (kr_ O0))) (below_size zb_));replace O0:=Aside0.mk (Kd.R_elder' (kr_ O0) (Kd.R_base h23) hb);replace HB:=Aside0.mk (below_step zb_ hb);clear hb h23;obtain⟨a1,o0,e0⟩:=Kd.R_slice O3.out;(first|subst e0|(injection e0 with f1_ f2_ f3_;have f4_:=f1_.symm;have f5_:=f3_.symm;clear f1_ f2_ f3_;subst f4_;subst f5_));refine hK.out _ _ trivial (fun hHeld=>?_);clear hK K;refine nz ?_;refine oz 8 72 (fun K hK=>?_);refine Kd.R_append_rows_step (Kd.int .u8) (w0:=w) w.heap.size (by rfl) (.tmp 64) (.tmp 71) 40 5 (.int .u8 0) 1 rfl Tryz.underlying40 info5 rfl zz2 zz5 u3 x0 y2 _ _ _ (fun k_=>some k_≠(.slice a1 y2.length o0:Value).ownBlock) (fun _=>False) rfl rfl ?aO ?aR (fun _ _ h=>h) (fun _ h=>h.elim) ?aF ?aB ?aS ?aL ?_;(case aR=>repeat(first|exact(Kd.R_reads' O3.out).2.2|(with_reducible refine Kd.C_alloc ?_ _)|(with_reducible refine Kd.C_drewN ?_ _)|(with_reducible refine Kd.C_drew ?_)));(case aB=>exact zb_);(case aF=>exact(fun k_ hk=>Kd.fresh' (Kd.R_lt (kr_ O3)) k_ hk));(case aO=>exact zz16);(case aS=>exact(below_size zb_));(case aL=>have:=L2.out;omega);intro v6 w6 ho hb hg hat;rw[←Y3.out]at ho;replace O3:=Aside0.mk (Kd.R_after (ok:=(fun _=>True)) (kr_ O3) hg hat);replace HB:=Aside0.mk (hb);have O4:=Aside0.mk (ho);clear O0;clear ho hb hg hat;refine hK.out _ _ trivial (fun hHeld=>?_);clear hK K;refine nz ?_;refine pz 9 3 ?_;refine done_ (done_of HT_.out zz0) ?_;(try go_wp2);go_roundg k1
        (case measure=>have:=K0.out;have:=J0.out;omega);case rel=>exact⟨(y3),(wrap64 ((j4)+1)),(by first|rfl|(simp;done)|(simp only[←h12]<;>(first|rfl|simp))|(simp[*];done)),H',⟨zz15⟩,⟨by(with_reducible repeat(first|apply Kd.R_alloc|apply Kd.R_drewN|apply Kd.R_drew));exact Kd.R_mono O4.out (fun _ hk=>trivial)⟩,⟨zb_⟩⟩
   ·rw[if_neg c1]at H;have f0:=decide_eq_false c1;clear c1;obtain rfl:=Option.some.inj H;have hcv57:=own_string (P:=Tryz.prog) Tryz.underlying40 Tryz.underlying5 Tryz.underlying9 (Kd.own_of_R O0.out);go_wp2
    go_ret;exact⟨ze_,zb_⟩
def strings_Join.f (l0:List ByteArray) (a0:ByteArray):Option (ByteArray):=if l0.length≤1099511627776∧(Lib.join (l0.map (·.data.toList)) a0.data.toList).length≤1099511627776 then some ⟨(Lib.join (l0.map (·.data.toList)) a0.data.toList).toArray⟩else none
theorem strings_Join.calls (A0:Option Addr) (c0:Nat) (l0:List ByteArray) (a0 r:ByteArray) (w:World) (h1:Kd.C Kd.string w A0 l0.length l0) (hc0:l0.length≤c0) (h:strings_Join.f l0 a0=some r):
  Calls Tryz.prog 133 #[.slice A0 l0.length c0,.string a0] w fun e w'=>e= .returned (.string r)∧Below w.heap.size w w':=by
 unfold strings_Join.f at h
 by_cases hs:l0.length≤1099511627776∧(Lib.join (l0.map (·.data.toList)) a0.data.toList).length≤1099511627776
 ·rw[if_pos hs]at h;obtain rfl:=Option.some.inj h
  rcases Nat.eq_zero_or_pos l0.length with h0|h0
  ·obtain rfl:=List.eq_nil_of_length_eq_zero h0;exact(Tryz.strings_Join_none A0 c0 a0 w).mono fun e w' ⟨he,hw⟩=>⟨he,hw ▸ Below.refl _ _⟩
  ·obtain⟨ad,rfl,hcell⟩:=Kd.at_string h1 0 zz5 zz5;have hsp:=World.cell?_spot hcell;have hlt:=World.block_lt_of_cell? w _ hcell;obtain⟨bk,o,sp⟩:=ad;obtain rfl:sp=none:=by simpa [Addr.add]using hsp
   refine Tryz.strings_Join bk o c0 l0 a0 w (fun j x hj=>?_) (by simpa [Addr.add]using hlt) zz5 hc0 zz5;have hjl:j<l0.length:=(List.getElem?_eq_some_iff.1 hj).1;obtain⟨ad,had,hc⟩:=Kd.at_string h1 (j:Int) zz5 zz5;obtain rfl:=Option.some.inj had
   rcases Nat.eq_zero_or_pos j with rfl|hj0
   ·simpa [Addr.add,rdOf,List.getD_eq_getElem?_getD,hj]using hc
   ·have hne:j≠0:=by omega
    simpa [Addr.add,rdOf,List.getD_eq_getElem?_getD,hj,hne]using hc
 ·rw[if_neg hs]at h;cases h
def impl_all__impl_isVisible.l0:Nat→ByteArray→Int→Option (Bool)
 |0,_,_=>none
 |k+1,x0,x1=>if x1<(x0.size:Int)then(if 0≤x1 then((impl_isVisible.f (bt x0 x1)).bind fun t0=>(if t0=true then(impl_all__impl_isVisible.l0 k x0 (wrap64 (x1+1)))else(some false)))else(none))else(some true)
def impl_all__impl_isVisible.f (k:Nat) (a0:ByteArray):Option (Bool):=impl_all__impl_isVisible.l0 k a0 0
theorem impl_all__impl_isVisible.calls (k:Nat) (a0:ByteArray) (r:Bool) (w:World) (H:impl_all__impl_isVisible.f k a0=some r):
  Calls Tryz.prog 83 #[.string a0,.func (.func 84) #[] #[]] w fun e w'=>e= .returned (.bool r)∧Drawn0 w w':=by
 unfold impl_all__impl_isVisible.f at H;have H':=Aside0.mk H;clear H;go_enter Tryz.func83,Tryz.ntmps83
 go_wp2
 go_loopg [5] k (fun kq v0 w'=> ∃(x0:Int),v0= .int .i64 x0∧Aside0 (impl_all__impl_isVisible.l0 kq a0 x0=some r)∧Aside0 (kq≤k)∧Drawn0 w w')
 case atStart=>exact⟨(0),zr_,H',⟨Nat.le_refl _⟩,zd_⟩
 case round=>
  clear H';obtain⟨x0,rfl,HA,K0,⟨m1,rfl⟩⟩:=hrel
  cases gk with
  |zero=>exact absurd HA.out (by simp[impl_all__impl_isVisible.l0])
  |succ k0=>
   have H:=HA.out;clear HA;simp only[impl_all__impl_isVisible.l0]at H
   by_cases c0:x0<(a0.size:Int)
   ·rw[if_pos c0]at H;have f0:=decide_eq_true c0;clear c0
    replace H:=ifS_ H;obtain⟨c1,H⟩:=H;have f1:=decide_eq_true c1;clear c1;replace H:=bS_ H;obtain⟨t0,A0,H⟩:=H;(try dsimp only at H);have C0:=Aside0.mk H;clear H;have p0:0≤(x0:Int):=of_decide_eq_true za_;have q0:x0<(a0.size:Int):=of_decide_eq_true za_;have h0:=bt_at a0 x0;replace p0:=eq_true p0;replace q0:=eq_true q0;go_upto_if 17 with(first|(go_at_call 84;(with_reducible refine(impl_isVisible.calls (bt a0 x0) t0 _ A0.out).mono ?_);rintro e w' ⟨rfl,⟨nd,rfl⟩⟩))
    (try simp only[Act.put,List.setIfInBounds_toArray,List.set_cons_zero,List.set_cons_succ]);have H:=C0.out;clear C0
    by_cases c2:t0=true
    ·subst c2;rw[if_pos rfl]at H;have H':=Aside0.mk H;clear H;go_wp2
     go_roundg k0
     (case measure=>have:=K0.out;omega);case rel=>exact⟨(wrap64 (x0+1)),zr_,H',⟨zz4⟩,zd_⟩
    ·replace c2:=Bool.eq_false_iff.mpr c2;subst c2;rw[if_neg Bool.false_ne_true]at H;obtain rfl:=Option.some.inj H;go_wp2
     go_ret;exact⟨zr_,zd_⟩
   ·rw[if_neg c0]at H;have f0:=decide_eq_false c0;clear c0;obtain rfl:=Option.some.inj H;go_wp2
    go_ret;exact⟨zr_,zd_⟩
end Go.Proofs.YthmehmehoehlpaaGreatDoor.GFnExactRecText
