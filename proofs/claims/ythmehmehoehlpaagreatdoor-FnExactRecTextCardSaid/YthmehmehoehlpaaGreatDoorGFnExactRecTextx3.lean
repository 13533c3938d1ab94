-- Printed by gen.py and its programs for this claim.
import Derived.Test.YthmehmehoehlpaaGreatDoorGFnExactRecTextx0
import Derived.Test.YthmehmehoehlpaaGreatDoorGFnExactRecTextx2
import Derived.Test.YthmehmehoehlpaaGreatDoorZFnExactRecText
namespace Go.Proofs.YthmehmehoehlpaaGreatDoor.GFnExactRecText
open Go.RowKit Go.Proofs.YthmehmehoehlpaaGreatDoorW.PrintWords Go.Proofs.YthmehmehoehlpaaGreatDoorW.PrintLast Go.Proofs.YthmehmehoehlpaaGreatDoorW.PrintMore Go.Proofs.YthmehmehoehlpaaGreatDoorW.Zs
set_option maxHeartbeats 40000000
set_option maxRecDepth 100000
attribute [local go_sem] max2_int min2_int max_two min_two max_three min_three max_four min_four
set_option linter.unusedVariables false
set_option linter.unusedSimpArgs false
def spec_l7upper.f (a0:Int):Option (Int):=if a0≥97 then(if a0≤122 then(some ((a0-32)%256))else(some a0))else(some a0)
theorem spec_l7upper.calls (a0 r:Int) (w:World) (H:spec_l7upper.f a0=some r):
  Calls Tryz.prog 147 #[.int .u8 a0] w fun e w'=>e= .returned (.int .u8 r)∧Drawn0 w w':=by
 unfold spec_l7upper.f at H
 by_cases c0:a0≥97
 ·rw[if_pos c0]at H;have f0:=decide_eq_true c0;clear c0
  by_cases c1:a0≤122
  ·rw[if_pos c1]at H;have f1:=decide_eq_true c1;clear c1;obtain rfl:=Option.some.inj H;go_enter Tryz.func147,Tryz.ntmps147
   go_wp2
   go_ret;exact⟨zr_,zd_⟩
  ·rw[if_neg c1]at H;have f1:=decide_eq_false c1;clear c1;obtain rfl:=Option.some.inj H;go_enter Tryz.func147,Tryz.ntmps147
   go_wp2
   go_ret;exact⟨zr_,zd_⟩
 ·rw[if_neg c0]at H;have f0:=decide_eq_false c0;clear c0;obtain rfl:=Option.some.inj H;go_enter Tryz.func147,Tryz.ntmps147
  go_wp2
  go_ret;exact⟨zr_,zd_⟩
mutual
def spec_l7percent.l0:Nat→ByteArray→List Int→Int→Option (ByteArray)
 |0,_,_,_=>none
 |k+1,x0,x1,x2=>if x2<(x0.size:Int)then(if 0≤x2 then(if(bt x0 x2)=37 then(spec_l7percent.j1 k x0 x1 x2 (decide ((wrap64 (x2+2))≥(x0.size:Int))))else(spec_l7percent.j1 k x0 x1 x2 true))else(none))else(some (strOfNums x1))
def spec_l7percent.j1:Nat→ByteArray→List Int→Int→Bool→Option (ByteArray)
 |0,_,_,_,_=>none
 |k+1,x0,x1,x2,x3=>if x3=true then(if 0≤x2 then(if x2<(x0.size:Int)then(if x1.length<140737488355328 then(spec_l7percent.l0 k x0 (x1++ [bt x0 x2]) (wrap64 (x2+1)))else(none))else(none))else(none))else(if 0≤(wrap64 (x2+1))then(if(wrap64 (x2+1))≤(wrap64 (x2+3))then(if(wrap64 (x2+3))≤(x0.size:Int)then((spec_ReadHex.f k (x0.extract ((wrap64 (x2+1)):Int).toNat ((wrap64 (x2+3)):Int).toNat)).bind fun b0=>(if b0.2=true then((spec_l7free.f k ((b0.1)%256)).bind fun t0=>(if t0=true then(if x1.length<140737488355328 then(spec_l7percent.l0 k x0 (x1++ [(b0.1)%256]) (wrap64 ((wrap64 (x2+2))+1)))else(none))else(if(wrap64 (x2+1))<(x0.size:Int)then((spec_l7upper.f (bt x0 (wrap64 (x2+1)))).bind fun t1=>(if 0≤(wrap64 (x2+2))then(if(wrap64 (x2+2))<(x0.size:Int)then((spec_l7upper.f (bt x0 (wrap64 (x2+2)))).bind fun t2=>((some (([37,t1,t2]:List Int):List Int)).bind fun y0=>(if x1.length+y0.length<140737488355328 then(spec_l7percent.l0 k x0 (x1++y0) (wrap64 ((wrap64 (x2+2))+1)))else(none))))else(none))else(none)))else(none))))else(if 0≤x2 then(if x2<(x0.size:Int)then(if x1.length<140737488355328 then(spec_l7percent.l0 k x0 (x1++ [bt x0 x2]) (wrap64 (x2+1)))else(none))else(none))else(none))))else(none))else(none))else(none))
end
def spec_l7percent.f (k:Nat) (a0:ByteArray):Option (ByteArray):=spec_l7percent.l0 k a0 ([]:List Int) 0
def spec_l7percent.T8:Bool×List (List Nat×List Nat):=(true,[([],[]),([],[]),([],[]),([2],[2]),([1,3],[1,3]),([4],[4]),([],[]),([],[]),([7],[7]),([6,8],[6,8]),([9,5],[9]),([5,10],[5,10]),([0,11,10],[0,11]),([12,12,0,1,2,3,4,5,6,7,8,9,10,11,12],[0,12])])
def spec_l7percent.B8:List Nat:= [0,0,0,4,14,30,0,0,128,448,1022,2046,4095,8191]
theorem spec_l7percent.tab8:rtab .any (opsOf Tryz.f112 8)=spec_l7percent.T8:=by kernel_rfl
theorem spec_l7percent.bits8:waitsOk spec_l7percent.T8.2 spec_l7percent.B8=true:=by kernel_rfl
theorem spec_l7percent.calls (k:Nat) (a0 r:ByteArray) (w:World) (H:spec_l7percent.f k a0=some r):
  Calls Tryz.prog 112 #[.string a0] w fun e w'=>e= .returned (.string r)∧Below w.heap.size w w':=by
 have HB:=Aside0.mk (Below.refl w.heap.size w);unfold spec_l7percent.f at H;have H':=Aside0.mk H;clear H;go_enter Tryz.func112,Tryz.ntmps112
 go_wp2
 go_loopg [3,4] k (fun kq v0 v1 w'=> ∃(x0:List Int) (x1:Int),v1= .int .i64 x1∧Aside0 (spec_l7percent.l0 kq a0 x0 x1=some r)∧Aside0 (kq≤k)∧Aside0 (Kd.R (Kd.int .u8) 5 w' w.heap.size (fun _=>True) v0 x0)∧Aside0 (Below w.heap.size w w'))
 case atStart=>exact⟨(([]:List Int)),(0),zr_,H',⟨Nat.le_refl _⟩,⟨zn_⟩,⟨zb_⟩⟩
 case round=>
  clear H';(try clear c0);obtain⟨x0,x1,rfl,HA,K0,O0,HB⟩:=hrel
  cases gk with
  |zero=>exact absurd HA.out (by simp[spec_l7percent.l0])
  |succ k0=>
   have H:=HA.out;clear HA;simp only[spec_l7percent.l0]at H
   by_cases c1:x1<(a0.size:Int)
   ·rw[if_pos c1]at H;have f0:=decide_eq_true c1;clear c1;have C0:=Aside0.mk H;clear H;go_upto_region 5 with(fail)
    go_cut [23] (fun v2 wc=> ∃(kq:Nat) (x2:Bool),v2= .bool x2∧Aside0 (spec_l7percent.j1 kq a0 x0 x1 x2=some r)∧Aside0 (kq≤k0)∧Aside0 (Kd.R (Kd.int .u8) 5 wc w.heap.size (fun _=>True) u3 x0)∧Aside0 (Below w.heap.size w wc))
    case first=>
     have H:=C0.out;clear C0
     replace H:=ifS_ H;obtain⟨c2,H⟩:=H;have f1:=decide_eq_true c2;clear c2;(first|rw[f1]|(simp only[i64_w,i32_w];rw[f1])|skip);have C1:=Aside0.mk H;clear H;have p0:0≤(x1:Int):=of_decide_eq_true za_;have q0:x1<(a0.size:Int):=of_decide_eq_true za_;have h0:=bt_at a0 x1;replace p0:=eq_true p0;replace q0:=eq_true q0
     repeat' (first|(go_big_may;(fail))|go_values|go_skip|go_big_skip|go_big_want|((first|(with_reducible refine gate_nog rfl ?_)|(fail_if_success with_reducible refine gate_any ?_));go_step)|go_upon|simp only[Bool.not_true,Bool.not_false,Bool.true_and,Bool.false_and,Bool.true_or,Bool.false_or]|dsimp only)
     have H:=C1.out;clear C1
     by_cases c3:(bt a0 x1)=37
     ·rw[if_pos c3]at H;obtain⟨f2,f3⟩:=bqT_ c3;clear c3;(first|rw[f2]|(simp only[i64_w,i32_w];rw[f2])|rw[f3]|(rw[f4];simp only[Bool.not_true,Bool.not_false])|skip);have H':=Aside0.mk H;clear H;go_wp2
      go_meet
      case rel=>exact⟨_,(decide ((wrap64 (x1+2))≥(a0.size:Int))),zr_,H',⟨zz17⟩,⟨(kr_ O0)⟩,⟨zb_⟩⟩
     ·rw[if_neg c3]at H;obtain⟨f2,f3⟩:=bqF_ c3;(first|rw[f2]|(simp only[i64_w,i32_w];rw[f2])|rw[f3]|(rw[f4];simp only[Bool.not_true,Bool.not_false])|skip);have H':=Aside0.mk H;clear H;go_wp2
      go_meet
      case rel=>exact⟨_,(true),zr_,H',⟨zz17⟩,⟨(kr_ O0)⟩,⟨zb_⟩⟩
    case rest=>
     clear C0;(try clear c0);(try clear c1);(try clear f0);(try clear p1);(try clear c2);(try clear f1);(try clear p0);(try clear q0);(try clear h0);(try clear p2);(try clear c3);(try clear f2);(try clear f3);(try clear p0);(try clear q0);obtain⟨kq,x2,rfl,HA,J0,O0,HB⟩:=hcut
     cases kq with
     |zero=>exact absurd HA.out (by simp[spec_l7percent.j1])
     |succ k1=>
      have H:=HA.out;clear HA;simp only[spec_l7percent.j1]at H
      by_cases c4:x2=true
      ·subst c4;rw[if_pos rfl]at H
       replace H:=ifS_ H;obtain⟨c5,H⟩:=H;have f5:=decide_eq_true c5;clear c5
       replace H:=ifS_ H;obtain⟨c6,H⟩:=H;have f6:=decide_eq_true c6;clear c6
       replace H:=ifS_ H;obtain⟨c7,H⟩:=H;have L0:=Aside0.mk c7;clear c7;generalize h1:(x0++ [bt a0 x1]:List Int)=y0 at H;have Y0:=Aside0.mk h1.symm;clear h1;have H':=Aside0.mk H;clear H;have p3:0≤(x1:Int):=of_decide_eq_true za_;have q1:x1<(a0.size:Int):=of_decide_eq_true za_;have h2:=bt_at a0 x1;replace p3:=eq_true p3;replace q1:=eq_true q1;go_wp2_with (first|((with_reducible refine gate_builtin (b:= .append) (xs:= #[.tmp 24,.tmp 28]) rfl ?_);(try(refine gate_guard (by rfl) ?_;dsimp only));at_builtin;refine Kd.R_append (Kd.int .u8) (w0:=w) w.heap.size rfl (.tmp 24) (.tmp 28) 40 5 (.int .u8 0) 1 rfl Tryz.underlying40 info5 rfl zz2 zz5 u3 x0 (bt a0 x1) [.int .u8 (bt a0 x1)] (fun _=>True) (fun _=>False) rfl rfl ?aP (fun _ hk=>hk.elim) ?aF ?aO ?aB ?aS ?aL ?_;(case aP=>exact rfl);(case aB=>exact zb_);(case aF=>exact(fun _ _=>trivial));(case aO=>exact (kr_ O0));(case aS=>exact(below_size zb_));(case aL=>have:=L0.out;omega);intro v3 w1 ho hb hg hat;rw[←Y0.out]at ho;replace HB:=Aside0.mk (hb);have O1:=Aside0.mk (ho);clear O0;clear ho hb hg hat))
       go_roundg k1
       (case measure=>have:=K0.out;have:=J0.out;omega);case rel=>exact⟨(y0),(wrap64 (x1+1)),zr_,H',⟨zz15⟩,⟨by(with_reducible repeat(first|apply Kd.R_alloc|apply Kd.R_drewN|apply Kd.R_drew));exact O1.out⟩,⟨zb_⟩⟩
      ·replace c4:=Bool.eq_false_iff.mpr c4;subst c4;rw[if_neg Bool.false_ne_true]at H;generalize h3:(wrap64 (x1+1))=j0 at H
       have h4:(IntKind.i64.wrap (x1+1))=j0:=(i64_w _).trans h3
       replace H:=ifS_ H;obtain⟨c8,H⟩:=H;obtain⟨f7,f8⟩:=dT_ c8;clear c8
       replace H:=ifS_ H;obtain⟨c9,H⟩:=H;obtain⟨f9,f10⟩:=dT_ c9
       replace H:=ifS_ H;obtain⟨c10,H⟩:=H;obtain⟨f11,f12⟩:=dT_ c10;replace H:=bS_ H;obtain⟨⟨t0,t1⟩,A0,H⟩:=H;(try dsimp only at H);have C2:=Aside0.mk H;clear H;go_upto_if 53 with(first|((with_reducible refine gc_ 145 rfl ?_);refine goesL_ (some 37) rfl rfl Tryz.func145 zz0 rfl #[.string (a0.extract ((j0):Int).toNat ((wrap64 (x1+3)):Int).toNat)] rfl zz24 ?_;(with_reducible refine(spec_ReadHex.calls k1 (a0.extract ((j0):Int).toNat ((wrap64 (x1+3)):Int).toNat) t0 t1 _ A0.out).mono ?_);rintro e w' ⟨rfl,⟨nd,rfl⟩⟩;refine⟨_,rfl,?_⟩))
       (try simp only[Act.put,List.setIfInBounds_toArray,List.set_cons_zero,List.set_cons_succ]);(try(rw[drewN_self wc];generalize hq_:World.drewN wc _=wc;have n0_:Aside0 (Kd.R (Kd.int .u8) 5 wc w.heap.size (fun _=>True) u3 x0):=⟨by rw[←hq_];exact (kr_ O0)⟩;have n1_:Aside0 (Below w.heap.size w wc):=⟨zz14⟩;clear O0 HB hq_;have O0:=n0_;have HB:=n1_;clear n0_ n1_));have H:=C2.out;clear C2
       by_cases c11:t1=true
       ·subst c11;rw[if_pos rfl]at H;replace H:=bS_ H;obtain⟨t2,A1,H⟩:=H;(try dsimp only at H);have C3:=Aside0.mk H;clear H;go_upto_if 62 with(first|((with_reducible refine gc_ 146 rfl ?_);refine gR 65 Tryz.func146 (spec_l7free.calls k1 ((t0)%256) t2 _ A1.out) ?_;rintro w' ⟨nd,rfl⟩))
        (try simp only[Act.put,List.setIfInBounds_toArray,List.set_cons_zero,List.set_cons_succ]);(try(rw[drewN_self wc];generalize hq_:World.drewN wc _=wc;have n0_:Aside0 (Kd.R (Kd.int .u8) 5 wc w.heap.size (fun _=>True) u3 x0):=⟨by rw[←hq_];exact (kr_ O0)⟩;have n1_:Aside0 (Below w.heap.size w wc):=⟨zz14⟩;clear O0 HB hq_;have O0:=n0_;have HB:=n1_;clear n0_ n1_));have H:=C3.out;clear C3
        by_cases c12:t2=true
        ·subst c12;rw[if_pos rfl]at H
         replace H:=ifS_ H;obtain⟨c13,H⟩:=H;have L1:=Aside0.mk c13;clear c13;generalize h5:(x0++ [(t0)%256]:List Int)=y1 at H;have Y1:=Aside0.mk h5.symm;clear h5;have H':=Aside0.mk H;clear H;go_wp2_with (first|((with_reducible refine gate_builtin (b:= .append) (xs:= #[.tmp 66,.tmp 69]) rfl ?_);(try(refine gate_guard (by rfl) ?_;dsimp only));at_builtin;refine Kd.R_append (Kd.int .u8) (w0:=w) w.heap.size rfl (.tmp 66) (.tmp 69) 40 5 (.int .u8 0) 1 rfl Tryz.underlying40 info5 rfl zz2 zz5 u3 x0 ((t0)%256) [.int .u8 ((t0)%256)] (fun _=>True) (fun _=>False) rfl rfl ?aP (fun _ hk=>hk.elim) ?aF ?aO ?aB ?aS ?aL ?_;(case aP=>exact rfl);(case aB=>exact zb_);(case aF=>exact(fun _ _=>trivial));(case aO=>exact (kr_ O0));(case aS=>exact(below_size zb_));(case aL=>have:=L1.out;omega);intro v4 w2 ho hb hg hat;rw[←Y1.out]at ho;replace HB:=Aside0.mk (hb);have O2:=Aside0.mk (ho);clear O0;clear ho hb hg hat))
         go_roundg k1
         (case measure=>have:=K0.out;have:=J0.out;omega);case rel=>exact⟨(y1),(wrap64 ((wrap64 (x1+2))+1)),zr_,H',⟨zz15⟩,⟨by(with_reducible repeat(first|apply Kd.R_alloc|apply Kd.R_drewN|apply Kd.R_drew));exact O2.out⟩,⟨zb_⟩⟩
        ·replace c12:=Bool.eq_false_iff.mpr c12;subst c12;rw[if_neg Bool.false_ne_true]at H
         replace H:=ifS_ H;obtain⟨c14,H⟩:=H;have f13:=decide_eq_true c14;clear c14;(first|rw[f13]|(simp only[i64_w,i32_w];rw[f13])|skip);replace H:=bS_ H;obtain⟨t3,A2,H⟩:=H;(try dsimp only at H);generalize h6:(wrap64 (x1+2))=j2 at H
         (try rw[h6]at A2);have h7:(IntKind.i64.wrap (x1+2))=j2:=(i64_w _).trans h6
         replace H:=ifS_ H;obtain⟨c15,H⟩:=H;have f14:=decide_eq_true c15;clear c15
         replace H:=ifS_ H;obtain⟨c16,H⟩:=H;have f15:=decide_eq_true c16;clear c16;replace H:=bS_ H;obtain⟨t4,A3,H⟩:=H;(try dsimp only at H);generalize h8:(([37,t3,t4]:List Int):List Int)=y2 at H;have Y2:=Aside0.mk h8.symm;clear h8
         replace H:=ifS_ H;obtain⟨c17,H⟩:=H;have L2:=Aside0.mk c17;clear c17;generalize h9:(x0++y2:List Int)=y3 at H;have Y3:=Aside0.mk h9.symm;clear h9;have H':=Aside0.mk H;clear H;(try go_wp2);replace O0:=Aside0.mk (Kd.R_drew O0.out);replace HB:=Aside0.mk (below_drew1 HB.out);have p4:0≤((j0):Int):=of_decide_eq_true za_;have q2:(j0)<(a0.size:Int):=of_decide_eq_true za_;have h10:=bt_at a0 (j0);replace p4:=eq_true p4;replace q2:=eq_true q2;have p5:0≤((j2):Int):=of_decide_eq_true za_;have q3:(j2)<(a0.size:Int):=of_decide_eq_true za_;have h11:=bt_at a0 (j2);replace p5:=eq_true p5;replace q3:=eq_true q3;refine st_ (n:=14) (S:=fun w'=>True) (ds:= []) trivial (fun hHeld=>?_);refine with_tabW spec_l7percent.tab8 spec_l7percent.bits8 (fun HT_ HW_=>?_);generalize wc.drew=w3 at O0 HB hHeld ⊢;refine pz 0 40 ?_;refine pz 1 41 ?_;refine pz 2 42 ?_;refine pz 3 43 ?_;refine pz 6 46 ?_;refine pz 7 47 ?_;refine pz 8 48 ?_;refine tk (i:=4) (N:=some 44) (v:=?_) (a':=?_) rfl rfl (take_ofW HT_.out HW_.out zz0) (Or.inl ⟨by kernel_rfl,?_⟩) hHeld ?_ ?_;rotate_left
         ·intro w' _;go_simp;with_reducible rfl
         rotate_left
         ·simp only[Act.put,List.setIfInBounds_toArray,List.set_cons_zero,List.set_cons_succ,i64_w,i32_w];rfl
         refine tk (i:=9) (N:=some 49) (v:=?_) (a':=?_) rfl rfl (take_ofW HT_.out HW_.out zz0) (Or.inl ⟨by kernel_rfl,?_⟩) hHeld ?_ ?_;rotate_left
         ·intro w' _;go_simp;with_reducible rfl
         rotate_left
         ·simp only[Act.put,List.setIfInBounds_toArray,List.set_cons_zero,List.set_cons_succ,i64_w,i32_w];rfl
         refine oz 5 45 (fun K hK=>?_);refine goes_ Tryz.func147 zz0 rfl #[.int .u8 (bt a0 (j0))] zz0 rfl rfl zz24 ?_;(with_reducible refine(spec_l7upper.calls (bt a0 (j0)) t3 _ A2.out).mono ?_);rintro e w' ⟨rfl,⟨nd,rfl⟩⟩;refine⟨_,rfl,?_⟩;refine hK.out _ _ trivial (fun hHeld=>?_);clear hK K;refine nz ?_;refine oz 10 50 (fun K hK=>?_);refine goes_ Tryz.func147 zz0 rfl #[.int .u8 (bt a0 (j2))] zz0 rfl rfl (by(try simp only[List.map_toArray,List.map_cons,List.map_nil]);first|done|(simp only[h6];rfl)|rfl|(simp only[List.length_drop,List.length_take];rfl)) ?_;(with_reducible refine(spec_l7upper.calls (bt a0 (j2)) t4 _ A3.out).mono ?_);rintro e w' ⟨rfl,⟨nd,rfl⟩⟩;refine⟨_,rfl,?_⟩;refine hK.out _ _ trivial (fun hHeld=>?_);clear hK K;refine nz ?_;refine oz 11 51 (fun K hK=>?_);refine Kd.R_lit_step (Kd.int .u8) _ 5 ?hg (N:=51) ?hd (xs:=([37,t3,t4]:List Int)) (inner:= [.int .u8 37,.int .u8 t3,.int .u8 t4]) (ok:=fun _=>True) (okp:=fun _=>True) ?hr ?hp (fun _ hk=>hk) trivial (Below.refl _ _) (Nat.le_refl _) (by simp) ?_;(case hd=>rfl);(case hg=>rfl);(case hr=>first|(go_simp;done)|(go_simp;rfl));(case hp=>exact(Reps.one (show Kd.M (Kd.int .u8) _ _ _ 37 [.int .u8 37]from rfl) (Reps.one (show Kd.M (Kd.int .u8) _ _ _ t3 [.int .u8 t3]from rfl) (Reps.one (show Kd.M (Kd.int .u8) _ _ _ t4 [.int .u8 t4]from rfl) (Reps.none _ _)))));intro v5 w4 h12 hb hg_ hnew_;clear hg_ hnew_;(first|rw[←Y2.out]at h12|(simp only[Int.reduceToNat]at h12;rw[←Y2.out]at h12));have O3:=Aside0.mk (Kd.R_lower (Kd.R_new' h12 (Kd.R_lt (kr_ O0))) (below_size zb_));replace O0:=Aside0.mk (Kd.R_elder' (kr_ O0) (Kd.R_base h12) hb);replace HB:=Aside0.mk (below_step zb_ hb);clear hb h12;obtain⟨a1,o0,e0⟩:=Kd.R_slice O3.out;(first|subst e0|(injection e0 with f1_ f2_ f3_;have f4_:=f1_.symm;have f5_:=f3_.symm;clear f1_ f2_ f3_;subst f4_;subst f5_));refine hK.out _ _ trivial (fun hHeld=>?_);clear hK K;refine nz ?_;refine oz 12 52 (fun K hK=>?_);refine Kd.R_append_rows_step (Kd.int .u8) (w0:=w) w.heap.size (by rfl) (.tmp 40) (.tmp 51) 40 5 (.int .u8 0) 1 rfl Tryz.underlying40 info5 rfl zz2 zz5 u3 x0 y2 _ _ _ (fun k_=>some k_≠(.slice a1 y2.length o0:Value).ownBlock) (fun _=>False) rfl rfl ?aO ?aR (fun _ _ h=>h) (fun _ h=>h.elim) ?aF ?aB ?aS ?aL ?_;(case aR=>repeat(first|exact(Kd.R_reads' O3.out).2.2|(with_reducible refine Kd.C_alloc ?_ _)|(with_reducible refine Kd.C_drewN ?_ _)|(with_reducible refine Kd.C_drew ?_)));(case aB=>exact zb_);(case aF=>exact(fun k_ hk=>Kd.fresh' (Kd.R_lt (kr_ O3)) k_ hk));(case aO=>exact zz16);(case aS=>exact(below_size zb_));(case aL=>have:=L2.out;omega);intro v6 w5 ho hb hg hat;rw[←Y3.out]at ho;replace O3:=Aside0.mk (Kd.R_after (ok:=(fun _=>True)) (kr_ O3) hg hat);replace HB:=Aside0.mk (hb);have O4:=Aside0.mk (ho);clear O0;clear ho hb hg hat;refine hK.out _ _ trivial (fun hHeld=>?_);clear hK K;refine nz ?_;refine pz 13 3 ?_;refine done_ (done_of HT_.out zz0) ?_;(try go_wp2);go_roundg k1
         (case measure=>have:=K0.out;have:=J0.out;omega);case rel=>exact⟨(y3),(wrap64 ((j2)+1)),(by first|rfl|(simp;done)|(simp only[←h6]<;>(first|rfl|simp))|(simp[*];done)),H',⟨zz15⟩,⟨by(with_reducible repeat(first|apply Kd.R_alloc|apply Kd.R_drewN|apply Kd.R_drew));exact Kd.R_mono O4.out (fun _ hk=>trivial)⟩,⟨zb_⟩⟩
       ·replace c11:=Bool.eq_false_iff.mpr c11;subst c11;rw[if_neg Bool.false_ne_true]at H
        replace H:=ifS_ H;obtain⟨c18,H⟩:=H;have f16:=decide_eq_true c18;clear c18;(first|rw[f16]|(simp only[i64_w,i32_w];rw[f16])|skip)
        replace H:=ifS_ H;obtain⟨c19,H⟩:=H;have f17:=decide_eq_true c19;clear c19
        replace H:=ifS_ H;obtain⟨c20,H⟩:=H;have L3:=Aside0.mk c20;clear c20;generalize h13:(x0++ [bt a0 x1]:List Int)=y4 at H;have Y4:=Aside0.mk h13.symm;clear h13;have H':=Aside0.mk H;clear H;have p6:0≤(x1:Int):=of_decide_eq_true za_;have q4:x1<(a0.size:Int):=of_decide_eq_true za_;have h14:=bt_at a0 x1;replace p6:=eq_true p6;replace q4:=eq_true q4;go_wp2_with (first|((with_reducible refine gate_builtin (b:= .append) (xs:= #[.tmp 56,.tmp 60]) rfl ?_);(try(refine gate_guard (by rfl) ?_;dsimp only));at_builtin;refine Kd.R_append (Kd.int .u8) (w0:=w) w.heap.size rfl (.tmp 56) (.tmp 60) 40 5 (.int .u8 0) 1 rfl Tryz.underlying40 info5 rfl zz2 zz5 u3 x0 (bt a0 x1) [.int .u8 (bt a0 x1)] (fun _=>True) (fun _=>False) rfl rfl ?aP (fun _ hk=>hk.elim) ?aF ?aO ?aB ?aS ?aL ?_;(case aP=>exact rfl);(case aB=>exact zb_);(case aF=>exact(fun _ _=>trivial));(case aO=>exact (kr_ O0));(case aS=>exact(below_size zb_));(case aL=>have:=L3.out;omega);intro v7 w6 ho hb hg hat;rw[←Y4.out]at ho;replace HB:=Aside0.mk (hb);have O5:=Aside0.mk (ho);clear O0;clear ho hb hg hat))
        go_roundg k1
        (case measure=>have:=K0.out;have:=J0.out;omega);case rel=>exact⟨(y4),(j0),(by first|rfl|(simp;done)|(simp only[←h3]<;>(first|rfl|simp))|(simp[*];done)),H',⟨zz15⟩,⟨by(with_reducible repeat(first|apply Kd.R_alloc|apply Kd.R_drewN|apply Kd.R_drew));exact O5.out⟩,⟨zb_⟩⟩
   ·rw[if_neg c1]at H;have f0:=decide_eq_false c1;clear c1;obtain rfl:=Option.some.inj H;have hcv45:=own_string (P:=Tryz.prog) Tryz.underlying40 Tryz.underlying5 Tryz.underlying9 (Kd.own_of_R O0.out);go_wp2
    go_ret;exact⟨ze_,zb_⟩
end Go.Proofs.YthmehmehoehlpaaGreatDoor.GFnExactRecText
