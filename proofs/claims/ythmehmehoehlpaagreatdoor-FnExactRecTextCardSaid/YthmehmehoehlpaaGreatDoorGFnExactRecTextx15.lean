-- Printed by gen.py and its programs for this claim.
import Derived.Test.YthmehmehoehlpaaGreatDoorGFnExactRecTextx0
import Derived.Test.YthmehmehoehlpaaGreatDoorGFnExactRecTextx8
import Derived.Test.YthmehmehoehlpaaGreatDoorGFnExactRecTextx14
import Derived.Test.YthmehmehoehlpaaGreatDoorZFnExactRecText
namespace Go.Proofs.YthmehmehoehlpaaGreatDoor.GFnExactRecText
open Go.RowKit Go.Proofs.YthmehmehoehlpaaGreatDoorW.PrintWords Go.Proofs.YthmehmehoehlpaaGreatDoorW.PrintLast Go.Proofs.YthmehmehoehlpaaGreatDoorW.PrintMore Go.Proofs.YthmehmehoehlpaaGreatDoorW.Zs
set_option maxHeartbeats 40000000
set_option maxRecDepth 100000
attribute [local go_sem] max2_int min2_int max_two min_two max_three min_three max_four min_four
set_option linter.unusedVariables false
set_option linter.unusedSimpArgs false
mutual
def spec_ReadBase32.l0:Nat→ByteArray→List Int→Int→Option (ByteArray×Bool)
 |0,_,_,_=>none
 |k+1,x0,x1,x2=>if x2<(x0.size:Int)then(if 0≤x2 then((spec_l1five.f k (bt x0 x2)).bind fun t0=>(if t0<0 then(some ((⟨#[]⟩:ByteArray),false))else(spec_ReadBase32.l1 k x0 x1 x2 t0 0)))else(none))else((spec_Base32.f k (strOfNums x1)).bind fun t1=>(if t1.toList=x0.toList then(some (strOfNums x1,true))else(some ((⟨#[]⟩:ByteArray),false))))
def spec_ReadBase32.l1:Nat→ByteArray→List Int→Int→Int→Int→Option (ByteArray×Bool)
 |0,_,_,_,_,_=>none
 |k+1,x0,x1,x2,x3,x4=>if x4<5 then(if(wrap64 (Int.tdiv (wrap64 ((wrap64 (5*x2))+x4)) 8))<(x1.length:Int)then(if 0≤(wrap64 (4-x4))then(if(Go.bits .and .i64 (shr .i64 x3 (wrap64 (4-x4))) 1)=1 then(if 0≤(wrap64 (Int.tdiv (wrap64 ((wrap64 (5*x2))+x4)) 8))then(if 0≤(wrap64 (7-(Int.tmod (wrap64 ((wrap64 (5*x2))+x4)) 8)))then(spec_ReadBase32.l1 k x0 (x1.set ((wrap64 (Int.tdiv (wrap64 ((wrap64 (5*x2))+x4)) 8)):Int).toNat (((rd x1 (wrap64 (Int.tdiv (wrap64 ((wrap64 (5*x2))+x4)) 8)))+(shl .u8 1 (wrap64 (7-(Int.tmod (wrap64 ((wrap64 (5*x2))+x4)) 8)))))%256)) x2 x3 (wrap64 (x4+1)))else(none))else(none))else(spec_ReadBase32.l1 k x0 x1 x2 x3 (wrap64 (x4+1))))else(none))else(spec_ReadBase32.l1 k x0 x1 x2 x3 (wrap64 (x4+1))))else(spec_ReadBase32.l0 k x0 x1 (wrap64 (x2+1)))
end
def spec_ReadBase32.f (k:Nat) (a0:ByteArray):Option (ByteArray×Bool):=if(a0.size:Int)>6400 then(some ((⟨#[]⟩:ByteArray),false))else(if 0≤(wrap64 (Int.tdiv (wrap64 ((a0.size:Int)*5)) 8))then(if(wrap64 (Int.tdiv (wrap64 ((a0.size:Int)*5)) 8):Int).toNat≤281474976710656 then(spec_ReadBase32.l0 k a0 (List.replicate (wrap64 (Int.tdiv (wrap64 ((a0.size:Int)*5)) 8):Int).toNat 0) 0)else(none))else(none))
def spec_ReadBase32.T15:Bool×List (List Nat×List Nat):=(true,[([],[]),([],[]),([1],[1]),([],[]),([],[]),([4],[4]),([3,5],[3,5]),([6],[6]),([],[]),([8],[8]),([9],[9]),([10],[10]),([7,11],[7,11]),([0,2,0,1,2,3,4,5,6,7,8,9,10,11,12],[0,2]),([13,12,0,1,2,3,4,5,6,7,8,9,10,11,12],[12,13])])
def spec_ReadBase32.B15:List Nat:= [0,0,2,0,0,16,56,120,0,256,768,1792,4088,8191,16383]
theorem spec_ReadBase32.tab15:rtab .any (opsOf Tryz.f39 15)=spec_ReadBase32.T15:=by kernel_rfl
theorem spec_ReadBase32.bits15:waitsOk spec_ReadBase32.T15.2 spec_ReadBase32.B15=true:=by kernel_rfl
theorem spec_ReadBase32.calls (k:Nat) (a0 r1:ByteArray) (r2:Bool) (w:World) (H:spec_ReadBase32.f k a0=some (r1,r2)):
  Calls Tryz.prog 39 #[.string a0] w fun e w'=>e= .returned (.tuple #[.string r1,.bool r2])∧Below w.heap.size w w':=by
 have HB:=Aside0.mk (Below.refl w.heap.size w);unfold spec_ReadBase32.f at H
 by_cases c0:(a0.size:Int)>6400
 ·rw[if_pos c0]at H;have f0:=decide_eq_true c0;have f1:decide (6400<a0.size)=true:=decide_eq_true zz5;clear c0;simp only[Option.some.injEq,Prod.mk.injEq]at H;obtain⟨rfl,rfl⟩:=H;go_enter Tryz.func39,Tryz.ntmps39
  go_wp2
  go_ret2
  exact⟨ze_,zb_⟩
 ·rw[if_neg c0]at H;have f0:=decide_eq_false c0;have f1:decide (6400<a0.size)=false:=decide_eq_false zz5;clear c0;generalize h0:(wrap64 (Int.tdiv (wrap64 ((a0.size:Int)*5)) 8))=j0 at H
  have h1:(IntKind.i64.wrap (Int.tdiv (wrap64 ((a0.size:Int)*5)) 8))=j0:=(i64_w _).trans h0
  replace H:=ifS_ H;obtain⟨c1,H⟩:=H;obtain⟨f2,f3⟩:=dT_ c1;clear c1
  replace H:=ifS_ H;obtain⟨c2,H⟩:=H;obtain⟨f4,f5⟩:=dT_ c2;clear c2;generalize h2:(List.replicate (j0:Int).toNat 0:List Int)=y0 at H;have Y0:=Aside0.mk h2.symm;clear h2;have H':=Aside0.mk H;clear H;go_enter Tryz.func39,Tryz.ntmps39
  go_wp2_with (first|((with_reducible refine gate_dst (N:=16) rfl ?_);refine Kd.R_make (Kd.int .u8) _ 5 rfl (N:=16) rfl 40 _ _ rfl j0 rfl rfl Tryz.underlying40 (.int .u8 0) 1 info5 rfl zz2 zz5 0 (ok:=fun _=>True) (okp:=fun _=>True) rfl (fun _ hk=>hk) trivial (of_decide_eq_true za_) (Nat.le_trans (Nat.mul_le_mul_right _ (of_decide_eq_true za_:j0.toNat≤281474976710656)) zz5) (Below.refl _ _) (Nat.le_refl _) ?_;intro v0 w0 h3 hb hg_ hnew_;clear hg_ hnew_;(first|rw[←Y0.out]at h3|(simp only[Int.reduceToNat]at h3;rw[←Y0.out]at h3));have O0:=Aside0.mk (Kd.R_lower h3 (below_size zb_));replace HB:=Aside0.mk (below_step zb_ hb);clear hb h3))
  go_loopg [5] k (fun kq v1 w'=> ∃(x0:List Int) (x1:Int),v1= .int .i64 x1∧Aside0 (spec_ReadBase32.l0 kq a0 x0 x1=some (r1,r2))∧Aside0 (kq≤k)∧Aside0 (Kd.R (Kd.int .u8) 5 w' w.heap.size (fun _=>True) v0 x0)∧Aside0 (Below w.heap.size w w'))
  case atStart=>exact⟨(y0),(0),zr_,H',⟨Nat.le_refl _⟩,⟨by(with_reducible repeat(first|apply Kd.R_alloc|apply Kd.R_drewN|apply Kd.R_drew));exact O0.out⟩,⟨zb_⟩⟩
  case round=>
   clear H';(try clear c0);(try clear f0);(try clear f1);(try clear p0);(try clear c3);(try clear c1);(try clear f2);(try clear f3);(try clear c2);(try clear f4);(try clear f5);(try clear p1);obtain⟨x0,x1,rfl,HA,K0,O1,HB⟩:=hrel
   cases gk with
   |zero=>exact absurd HA.out (by simp[spec_ReadBase32.l0])
   |succ k0=>
    have H:=HA.out;clear HA;simp only[spec_ReadBase32.l0]at H
    by_cases c4:x1<(a0.size:Int)
    ·rw[if_pos c4]at H;have f6:=decide_eq_true c4;clear c4
     replace H:=ifS_ H;obtain⟨c5,H⟩:=H;have f7:=decide_eq_true c5;clear c5;replace H:=bS_ H;obtain⟨t0,A0,H⟩:=H;(try dsimp only at H);have C0:=Aside0.mk H;clear H;have p2:0≤(x1:Int):=of_decide_eq_true za_;have q0:x1<(a0.size:Int):=of_decide_eq_true za_;have h4:=bt_at a0 x1;replace p2:=eq_true p2;replace q0:=eq_true q0;go_upto_if 28 with(first|((with_reducible refine gc_ 58 rfl ?_);refine gR 26 Tryz.func58 (spec_l1five.calls k0 (bt a0 x1) t0 _ A0.out) ?_;rintro w' ⟨nd,rfl⟩))
     (try simp only[Act.put,List.setIfInBounds_toArray,List.set_cons_zero,List.set_cons_succ]);(try(rw[drewN_self wr];generalize hq_:World.drewN wr _=wr;have n0_:Aside0 (Kd.R (Kd.int .u8) 5 wr w.heap.size (fun _=>True) v0 x0):=⟨by rw[←hq_];exact (kr_ O1)⟩;have n1_:Aside0 (Below w.heap.size w wr):=⟨zz14⟩;clear O1 HB hq_;have O1:=n0_;have HB:=n1_;clear n0_ n1_));have H:=C0.out;clear C0
     by_cases c6:t0<0
     ·rw[if_pos c6]at H;have f8:=decide_eq_true c6;clear c6;(first|rw[f8]|(simp only[i64_w,i32_w];rw[f8])|skip);simp only[Option.some.injEq,Prod.mk.injEq]at H;obtain⟨rfl,rfl⟩:=H;go_wp2
      go_ret2
      exact⟨zz13,zb_⟩
     ·rw[if_neg c6]at H;have f8:=decide_eq_false c6;clear c6;(first|rw[f8]|(simp only[i64_w,i32_w];rw[f8])|skip);have H':=Aside0.mk H;clear H;go_wp2
      go_loopg [7] k0 (fun kq v2 w'=> ∃(x2:List Int) (x3:Int),v2= .int .i64 x3∧Aside0 (spec_ReadBase32.l1 kq a0 x2 x1 t0 x3=some (r1,r2))∧Aside0 (kq≤k0)∧Aside0 (Kd.R (Kd.int .u8) 5 w' w.heap.size (fun _=>True) v0 x2)∧Aside0 (Below w.heap.size w w'))
      case atStart=>exact⟨(x0),(0),zr_,H',⟨Nat.le_refl _⟩,⟨(kr_ O1)⟩,⟨zb_⟩⟩
      case round=>
       clear H';(try clear c7);(try clear p3);(try clear q1);(try clear h5);(try clear c0);(try clear f0);(try clear f1);(try clear p0);(try clear c3);(try clear c1);(try clear f2);(try clear f3);(try clear c2);(try clear f4);(try clear f5);(try clear p1);(try clear c4);(try clear f6);(try clear c5);(try clear f7);(try clear p2);(try clear q0);(try clear h4);(try clear c6);(try clear f8);(try clear p2);(try clear p0);(try clear p1);(try clear q0);obtain⟨x2,x3,rfl,HA,K1,O1,HB⟩:=hrel
       cases gk with
       |zero=>exact absurd HA.out (by simp[spec_ReadBase32.l1])
       |succ k1=>
        have H:=HA.out;clear HA;simp only[spec_ReadBase32.l1]at H
        by_cases c8:x3<5
        ·rw[if_pos c8]at H;have f9:=decide_eq_true c8;clear c8;have C1:=Aside0.mk H;clear H;obtain⟨a1,o0,e0⟩:=Kd.R_slice O1.out;subst e0
         repeat' (first|(go_big_may;(fail))|go_values|go_skip|go_big_skip|go_big_want|((first|(with_reducible refine gate_nog rfl ?_)|(fail_if_success with_reducible refine gate_any ?_));go_step)|go_upon|simp only[Bool.not_true,Bool.not_false,Bool.true_and,Bool.false_and,Bool.true_or,Bool.false_or]|dsimp only)
         have H:=C1.out;clear C1
         by_cases c9:(wrap64 (Int.tdiv (wrap64 ((wrap64 (5*x1))+x3)) 8))<(x2.length:Int)
         ·rw[if_pos c9]at H;have f10:=decide_eq_true c9;clear c9;(first|rw[f10]|(simp only[i64_w,i32_w];rw[f10])|skip);generalize h6:(wrap64 (4-x3))=j1 at H
          have h7:(IntKind.i64.wrap (4-x3))=j1:=(i64_w _).trans h6
          replace H:=ifS_ H;obtain⟨c10,H⟩:=H;obtain⟨f11,f12⟩:=dT_ c10;clear c10;generalize h8:(shr .i64 t0 (j1))=j2 at H
          have h9:(t0/2^min (j1).toNat 64)=j2:=h8;have h10:(j1)≤64→(t0/2^(j1).toNat)=j2:=shr_small h8
          by_cases c11:(Go.bits .and .i64 (j2) 1)=1
          ·rw[if_pos c11]at H;obtain⟨f13,f14⟩:=bqT_ c11;clear c11;generalize h11:(wrap64 (Int.tdiv (wrap64 ((wrap64 (5*x1))+x3)) 8))=j3 at H
           (try rw[h11]at f10);have h12:(IntKind.i64.wrap (Int.tdiv (wrap64 ((wrap64 (5*x1))+x3)) 8))=j3:=(i64_w _).trans h11
           replace H:=ifS_ H;obtain⟨c12,H⟩:=H;have f15:=decide_eq_true c12;clear c12;generalize h13:(wrap64 (7-(Int.tmod (wrap64 ((wrap64 (5*x1))+x3)) 8)))=j4 at H
           have h14:(IntKind.i64.wrap (7-(Int.tmod (wrap64 ((wrap64 (5*x1))+x3)) 8)))=j4:=(i64_w _).trans h13
           replace H:=ifS_ H;obtain⟨c13,H⟩:=H;obtain⟨f16,f17⟩:=dT_ c13;clear c13;generalize h15:(shl .u8 1 (j4))=j5 at H
           have h16:(IntKind.u8.wrap (1*2^min (j4).toNat 8))=j5:=h15;have h17:(j4)≤8→(IntKind.u8.wrap (1*2^(j4).toNat))=j5:=shl_small h15;have h18:(IntKind.u8.wrap (2^min (j4).toNat 8))=j5:=by have h_:=h16;rw[Int.one_mul]at h_;exact h_
           have h19:(j4)≤8→(IntKind.u8.wrap (2^(j4).toNat))=j5:=fun hle_=>by have h_:=h17 hle_;rw[Int.one_mul]at h_;exact h_
           generalize h20:(x2.set ((j3):Int).toNat (((rd x2 (j3))+(j5))%256):List Int)=y1 at H;have Y1:=Aside0.mk h20.symm;clear h20;have H':=Aside0.mk H;clear H;(try go_wp2);replace O1:=Aside0.mk (Kd.R_drew O1.out);replace HB:=Aside0.mk (below_drew1 HB.out);have p4:0≤((j3):Int):=of_decide_eq_true za_;have q2:(j3)<(x2.length:Int):=of_decide_eq_true za_;obtain⟨d0,e1,h21⟩:=Kd.at_int (Kd.R_reads' O1.out).2.2 (j3) p4 q2;cases e1;replace p4:=eq_true p4;replace q2:=eq_true q2;have p5:0≤((j3):Int):=of_decide_eq_true za_;have q3:((j3):Int)<((x2.length:Int):Int):=of_decide_eq_true za_;obtain⟨go27,o1,e2,g0,gl27,cl27,HG27⟩:=Kd.R_form O1.out zz5;(first|cases e2|(injection e2 with ea_ en_ ec_;(first|subst ea_|(injection ea_ with ea_;subst ea_));subst ec_;clear en_));have GB27:=Aside0.mk g0;have GG27:=Aside0.mk HG27;clear g0 gl27 HG27;(first|simp only[add_plain]at h21|skip);obtain⟨h22,hf27_0⟩:=Kd.R_celln 0 O1.out ((j3):Int) p5 q3;replace p5:=eq_true p5;replace q3:=eq_true q3;have HP29:=Kd.R_putn O1.out ((j3):Int) (((rd x2 (j3))+(j5))%256);rw[←Y1.out]at HP29;have HQ29:=Aside0.mk HP29;clear HP29;refine st_ (n:=15) (S:=fun w'=>w'.cell? ⟨go27,((j3)).toNat,none⟩=some (.int .u8 (rd x2 (j3)))) (ds:= [14]) (h21) (fun hHeld=>?_);refine with_tabW spec_ReadBase32.tab15 spec_ReadBase32.bits15 (fun HT_ HW_=>?_);generalize wr.drew=w2 at O1 HB GG27 HQ29 hf27_0 h22 h21 hHeld ⊢;refine pz 0 50 ?_;refine pz 1 51 ?_;refine pz 2 52 ?_;refine pz 3 53 ?_;refine pz 4 54 ?_;refine pz 5 55 ?_;refine pz 6 56 ?_;refine pz 8 58 ?_;refine pz 9 59 ?_;refine pz 10 60 ?_;refine pz 11 61 ?_;refine tk (i:=7) (N:=some 57) (v:=?_) (a':=?_) rfl rfl (take_ofW HT_.out HW_.out zz0) (Or.inl ⟨by kernel_rfl,?_⟩) hHeld ?_ ?_;rotate_left
           ·intro w' s0;go_simp;with_reducible rfl
           rotate_left
           ·simp only[Act.put,List.setIfInBounds_toArray,List.set_cons_zero,List.set_cons_succ,i64_w,i32_w];rfl
           refine pz 12 62 ?_;refine pz 13 63 ?_;refine last_ (i:=14) (N:=none) #[true,true,true,true,true,true,true,true,true,true,true,true,true,true,true] rfl rfl (one_of HT_.out zz0) zz2 (fun K hK=>?_);refine skip_ (w1:=?_) (by rfl) rfl ?_ ?_;rotate_left
           ·go_simp;rfl
           refine hK.out _ _ ?_;clear hK K;refine done_ (done_of HT_.out zz0) ?_;(try go_wp2);go_roundg k1
           (case measure=>have:=K0.out;have:=K1.out;omega);case rel=>exact⟨(y1),(wrap64 (x3+1)),zr_,H',⟨zz8⟩,⟨by(with_reducible repeat(first|apply Kd.R_alloc|apply Kd.R_drewN|apply Kd.R_drew));exact HQ29.out⟩,⟨by repeat(first|(with_reducible first|exact HB.out|apply below_alloc|apply pw_below_drewN|apply below_drew1|refine below_set ?_ GB27.out)|exact HB.out)⟩⟩
          ·rw[if_neg c11]at H;obtain⟨f13,f14⟩:=bqF_ c11;have H':=Aside0.mk H;clear H;go_wp2
           go_roundg k1
           (case measure=>have:=K0.out;have:=K1.out;omega);case rel=>exact⟨(x2),(wrap64 (x3+1)),zr_,H',⟨zz8⟩,⟨(kr_ O1)⟩,⟨zb_⟩⟩
         ·rw[if_neg c9]at H;have f10:=decide_eq_false c9;clear c9;(first|rw[f10]|(simp only[i64_w,i32_w];rw[f10])|skip);have H':=Aside0.mk H;clear H;go_wp2
          go_roundg k1
          (case measure=>have:=K0.out;have:=K1.out;omega);case rel=>exact⟨(x2),(wrap64 (x3+1)),zr_,H',⟨zz8⟩,⟨(kr_ O1)⟩,⟨zb_⟩⟩
        ·rw[if_neg c8]at H;have f9:=decide_eq_false c8;clear c8;have H':=Aside0.mk H;clear H;go_wp2
         go_roundg k1
         (case measure=>have:=K0.out;have:=K1.out;omega);case rel=>exact⟨(x2),(wrap64 (x1+1)),zr_,H',⟨zz8⟩,⟨(kr_ O1)⟩,⟨zb_⟩⟩
    ·rw[if_neg c4]at H;have f6:=decide_eq_false c4;clear c4;replace H:=bS_ H;obtain⟨t1,A1,H⟩:=H;(try dsimp only at H);have C2:=Aside0.mk H;clear H;have hcv32:=own_string (P:=Tryz.prog) Tryz.underlying40 Tryz.underlying5 Tryz.underlying9 (Kd.own_of_R O1.out);go_upto_if 68 with(first|((with_reducible refine gc_ 37 rfl ?_);refine gR 66 Tryz.func37 (spec_Base32.calls k0 (strOfNums x0) t1 _ A1.out) ?_;rintro w3 hb;replace O1:=Aside0.mk (Kd.R_below (kr_ O1) hb);replace HB:=Aside0.mk (below_step zb_ hb);(try clear hb)))
     (try simp only[Act.put,List.setIfInBounds_toArray,List.set_cons_zero,List.set_cons_succ]);have H:=C2.out;clear C2
     by_cases c14:t1.toList=a0.toList
     ·rw[if_pos c14]at H;obtain⟨f18,f19⟩:=bqT_ c14;clear c14;(first|rw[f18]|(simp only[i64_w,i32_w];rw[f18])|rw[f19]|(rw[f20];simp only[Bool.not_true,Bool.not_false])|skip);simp only[Option.some.injEq,Prod.mk.injEq]at H;obtain⟨rfl,rfl⟩:=H;have hcv35:=own_string (P:=Tryz.prog) Tryz.underlying40 Tryz.underlying5 Tryz.underlying9 (Kd.own_of_R O1.out);go_wp2
      go_ret2
      exact⟨zz13,zb_⟩
     ·rw[if_neg c14]at H;obtain⟨f18,f19⟩:=bqF_ c14;(first|rw[f18]|(simp only[i64_w,i32_w];rw[f18])|rw[f19]|(rw[f20];simp only[Bool.not_true,Bool.not_false])|skip);simp only[Option.some.injEq,Prod.mk.injEq]at H;obtain⟨rfl,rfl⟩:=H;go_wp2
      go_ret2
      exact⟨zz13,zb_⟩
def spec_ReadLabel.f (k:Nat) (a0:ByteArray):Option (ByteArray×Bool):=if(a0.size:Int)=37 then(if 0≤5 then(if 5≤(a0.size:Int)then(if(a0.extract 0 5).toList=([115,104,97,49,58]:List UInt8)then((spec_ReadBase32.f k (a0.extract 5 a0.size)).bind fun b0=>(some (b0.1,b0.2)))else(some ((⟨#[]⟩:ByteArray),false)))else(none))else(none))else(some ((⟨#[]⟩:ByteArray),false))
theorem spec_ReadLabel.calls (k:Nat) (a0 r1:ByteArray) (r2:Bool) (w:World) (H:spec_ReadLabel.f k a0=some (r1,r2)):
  Calls Tryz.prog 16 #[.string a0] w fun e w'=>e= .returned (.tuple #[.string r1,.bool r2])∧Below w.heap.size w w':=by
 have HB:=Aside0.mk (Below.refl w.heap.size w);unfold spec_ReadLabel.f at H
 by_cases c0:(a0.size:Int)=37
 ·rw[if_pos c0]at H;obtain⟨f0,f1⟩:=bqT_ c0;clear c0
  replace H:=ifS_ H;obtain⟨c1,H⟩:=H;obtain⟨f2,f3⟩:=dT_ c1;clear c1
  replace H:=ifS_ H;obtain⟨c2,H⟩:=H;obtain⟨f4,f5⟩:=dT_ c2;clear c2
  by_cases c3:(a0.extract 0 5).toList=([115,104,97,49,58]:List UInt8)
  ·rw[if_pos c3]at H;obtain⟨f6,f7⟩:=bqT_ c3;clear c3;have f8:=eq_true (of_decide_eq_true za_:5≤(a0.size:Int));replace H:=bS_ H;obtain⟨⟨t0,t1⟩,A0,H⟩:=H;(try dsimp only at H);simp only[Option.some.injEq,Prod.mk.injEq]at H;obtain⟨rfl,rfl⟩:=H;go_enter Tryz.func16,Tryz.ntmps16
   go_wp2_with (first|((with_reducible refine gc_ 39 rfl ?_);refine gR 14 Tryz.func39 (spec_ReadBase32.calls k (a0.extract 5 a0.size) t0 t1 _ A0.out) ?_;rintro w0 hb;replace HB:=Aside0.mk (below_step zb_ hb);(try clear hb)))
   go_ret2
   exact⟨ze_,zb_⟩
  ·rw[if_neg c3]at H;obtain⟨f6,f7⟩:=bqF_ c3;simp only[Option.some.injEq,Prod.mk.injEq]at H;obtain⟨rfl,rfl⟩:=H;go_enter Tryz.func16,Tryz.ntmps16
   go_wp2
   go_ret2
   exact⟨ze_,zb_⟩
 ·rw[if_neg c0]at H;obtain⟨f0,f1⟩:=bqF_ c0;simp only[Option.some.injEq,Prod.mk.injEq]at H;obtain⟨rfl,rfl⟩:=H;go_enter Tryz.func16,Tryz.ntmps16
  go_wp2
  go_ret2
  exact⟨ze_,zb_⟩
end Go.Proofs.YthmehmehoehlpaaGreatDoor.GFnExactRecText
