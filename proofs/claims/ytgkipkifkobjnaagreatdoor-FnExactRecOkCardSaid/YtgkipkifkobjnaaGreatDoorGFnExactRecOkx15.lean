-- Printed by gen.py and its programs for this claim.
import Derived.Test.YtgkipkifkobjnaaGreatDoorGFnExactRecOkx0
import Derived.Test.YtgkipkifkobjnaaGreatDoorGFnExactRecOkx8
import Derived.Test.YtgkipkifkobjnaaGreatDoorGFnExactRecOkx14
import Derived.Test.YtgkipkifkobjnaaGreatDoorZFnExactRecOk
namespace Go.Proofs.YtgkipkifkobjnaaGreatDoor.GFnExactRecOk
open Go.RowKit Go.Proofs.YtgkipkifkobjnaaGreatDoorW.PrintWords Go.Proofs.YtgkipkifkobjnaaGreatDoorW.PrintLast Go.Proofs.YtgkipkifkobjnaaGreatDoorW.PrintMore Go.Proofs.YtgkipkifkobjnaaGreatDoorW.Zs
set_option maxHeartbeats 40000000
set_option maxRecDepth 100000
attribute [local go_sem] max2_int min2_int max_two min_two max_three min_three max_four min_four
set_option linter.unusedVariables false
set_option linter.unusedSimpArgs false
mutual
def spec_ReadBase32.l0:Nat→ByteArray→List Int→Int→Option (ByteArray×Bool)
 |0,_,_,_=>none
 |k+1,x0,x4,x5=>if x5<(x0.size:Int)then(if 0≤x5 then((spec_l1five.f k (bt x0 x5)).bind fun t316=>(if t316<0 then(some ((⟨#[]⟩:ByteArray),false))else(spec_ReadBase32.l1 k x0 x4 x5 t316 0)))else(none))else((spec_Base32.f k (strOfNums x4)).bind fun t315=>(if t315.toList=x0.toList then(some (strOfNums x4,true))else(some ((⟨#[]⟩:ByteArray),false))))
def spec_ReadBase32.l1:Nat→ByteArray→List Int→Int→Int→Int→Option (ByteArray×Bool)
 |0,_,_,_,_,_=>none
 |k+1,x0,x4,x5,x6,x7=>if x7<5 then(if(wrap64 (Int.tdiv (wrap64 ((wrap64 (5*x5))+x7)) 8))<(x4.length:Int)then(if 0≤(wrap64 (4-x7))then(if(Go.bits .and .i64 (shr .i64 x6 (wrap64 (4-x7))) 1)=1 then(if 0≤(wrap64 (Int.tdiv (wrap64 ((wrap64 (5*x5))+x7)) 8))then(if 0≤(wrap64 (7-(Int.tmod (wrap64 ((wrap64 (5*x5))+x7)) 8)))then(spec_ReadBase32.l1 k x0 (x4.set ((wrap64 (Int.tdiv (wrap64 ((wrap64 (5*x5))+x7)) 8)):Int).toNat (((rd x4 (wrap64 (Int.tdiv (wrap64 ((wrap64 (5*x5))+x7)) 8)))+(shl .u8 1 (wrap64 (7-(Int.tmod (wrap64 ((wrap64 (5*x5))+x7)) 8)))))%256)) x5 x6 (wrap64 (x7+1)))else(none))else(none))else(spec_ReadBase32.l1 k x0 x4 x5 x6 (wrap64 (x7+1))))else(none))else(spec_ReadBase32.l1 k x0 x4 x5 x6 (wrap64 (x7+1))))else(spec_ReadBase32.l0 k x0 x4 (wrap64 (x5+1)))
end
def spec_ReadBase32.f (k:Nat) (a0:ByteArray):Option (ByteArray×Bool):=if(a0.size:Int)>6400 then(some ((⟨#[]⟩:ByteArray),false))else(if 0≤(wrap64 (Int.tdiv (wrap64 ((a0.size:Int)*5)) 8))then(if(wrap64 (Int.tdiv (wrap64 ((a0.size:Int)*5)) 8):Int).toNat≤281474976710656 then(spec_ReadBase32.l0 k a0 (List.replicate (wrap64 (Int.tdiv (wrap64 ((a0.size:Int)*5)) 8):Int).toNat 0) 0)else(none))else(none))
def spec_ReadBase32.T15:Bool×List (List Nat×List Nat):=(true,[([],[]),([],[]),([1],[1]),([],[]),([],[]),([4],[4]),([3,5],[3,5]),([6],[6]),([],[]),([8],[8]),([9],[9]),([10],[10]),([7,11],[7,11]),([0,2,0,1,2,3,4,5,6,7,8,9,10,11,12],[0,2]),([13,12,0,1,2,3,4,5,6,7,8,9,10,11,12],[12,13])])
def spec_ReadBase32.B15:List Nat:= [0,0,2,0,0,16,56,120,0,256,768,1792,4088,8191,16383]
theorem spec_ReadBase32.tab15:rtab .any (opsOf Tryz.f24 15)=spec_ReadBase32.T15:=by kernel_rfl
theorem spec_ReadBase32.bits15:waitsOk spec_ReadBase32.T15.2 spec_ReadBase32.B15=true:=by kernel_rfl
theorem spec_ReadBase32.calls (k:Nat) (a0 r1:ByteArray) (r2:Bool) (w:World) (h:spec_ReadBase32.f k a0=some (r1,r2)):
  Calls Tryz.prog 24 #[.string a0] w fun e w'=>e= .returned (.tuple #[.string r1,.bool r2])∧Below w.heap.size w w':=by
 have HB:=Aside0.mk (Below.refl w.heap.size w);have H:(if(a0.size:Int)>6400 then(some ((⟨#[]⟩:ByteArray),false))else(if 0≤(wrap64 (Int.tdiv (wrap64 ((a0.size:Int)*5)) 8))then(if(wrap64 (Int.tdiv (wrap64 ((a0.size:Int)*5)) 8):Int).toNat≤281474976710656 then(spec_ReadBase32.l0 k a0 (List.replicate (wrap64 (Int.tdiv (wrap64 ((a0.size:Int)*5)) 8):Int).toNat 0) 0)else(none))else(none)))=some (r1,r2):=h;clear h
 by_cases c2:(a0.size:Int)>6400
 ·rw[if_pos c2]at H;have c2b0:decide (6400<(a0.size:Int))=true:=decide_eq_true c2;have c2b1:decide (6400<a0.size)=true:=decide_eq_true (by omega);clear c2;simp only[Option.some.injEq,Prod.mk.injEq]at H;obtain⟨rfl,rfl⟩:=H;go_enter Tryz.func24,Tryz.ntmps24
  go_wp2
  go_ret2
  exact⟨zz2,zz0⟩
 ·as_aux_lemma=>
  rw[if_neg c2]at H;have c2b0:decide (6400<(a0.size:Int))=false:=decide_eq_false c2;have c2b1:decide (6400<a0.size)=false:=decide_eq_false (by omega);clear c2;obtain⟨ji3,hji3⟩: ∃j_:Int,(wrap64 (Int.tdiv (wrap64 ((a0.size:Int)*5)) 8))=j_:=⟨_,rfl⟩;replace H:(if 0≤(ji3)then(if(ji3:Int).toNat≤281474976710656 then(spec_ReadBase32.l0 k a0 (List.replicate (ji3:Int).toNat 0) 0)else(none))else(none))=some (r1,r2):=by first|(rw[hji3]at H;exact H)|(simp only[hji3]at H ⊢;exact H)
  have hji3w:(IntKind.i64.wrap (Int.tdiv (wrap64 ((a0.size:Int)*5)) 8))=ji3:=(i64_w _).trans hji3
  by_cases c4:0≤(ji3)
  ·as_aux_lemma=>
   rw[if_pos c4]at H;have c4b0:=eq_true c4;have c4b1:decide (0≤(ji3))=true:=decide_eq_true c4;clear c4
   by_cases c5:(ji3:Int).toNat≤281474976710656
   ·as_aux_lemma=>
    rw[if_pos c5]at H;have c5b0:=eq_true c5;have c5b1:decide ((ji3:Int).toNat≤281474976710656)=true:=decide_eq_true c5;clear c5;obtain⟨y312,hy312⟩: ∃y_:List Int,y_=(List.replicate (ji3:Int).toNat 0):=⟨_,rfl⟩;replace H:(spec_ReadBase32.l0 k a0 y312 0)=some (r1,r2):=by first|(rw[hy312];with_reducible exact H)|(have H2_:=(Option.bind_some _ _).symm.trans H;rw[hy312];with_reducible exact H2_)|(have H2_:=(Option.bind_some _ _).symm.trans H;with_reducible exact H2_)|with_reducible exact H|(rw[hy312];exact H)|exact H
    have Ny312:=Aside0.mk hy312;clear hy312;have H':=Aside0.mk H;clear H;go_enter Tryz.func24,Tryz.ntmps24
    go_wp2_with (first|((with_reducible refine gate_dst (N:=16) rfl ?_);refine Kd.R_make (Kd.int .u8) _ 5 rfl (N:=16) rfl 45 _ _ rfl ji3 rfl rfl Tryz.underlying45 (.int .u8 0) 1 info5 rfl (by decide) (by omega) 0 (ok:=fun _=>True) (okp:=fun _=>True) rfl (fun _ hk=>hk) trivial (of_decide_eq_true zz3) (Nat.le_trans (Nat.mul_le_mul_right _ (of_decide_eq_true zz3:ji3.toNat≤281474976710656)) (by omega)) (Below.refl _ _) (Nat.le_refl _) ?_;intro v313 w6 ho7 hb hg_ hnew_;clear hg_ hnew_;(first|rw[←Ny312.out]at ho7|(simp only[Int.reduceToNat]at ho7;rw[←Ny312.out]at ho7));have HO314:=Aside0.mk (Kd.R_lower ho7 (below_size zz0));replace HB:=Aside0.mk (below_step zz0 hb);clear hb ho7))
    go_loopg [5] k (fun kq v5 w'=> ∃(x4_1:List Int) (x5_1:Int),v5= .int .i64 x5_1∧Aside0 (spec_ReadBase32.l0 kq a0 x4_1 x5_1=some (r1,r2))∧Aside0 (kq≤k)∧Aside0 (Kd.R (Kd.int .u8) 5 w' w.heap.size (fun _=>True) v313 x4_1)∧Aside0 (Below w.heap.size w w'))
    case atStart=>exact⟨(y312),(0),zz1,H',⟨Nat.le_refl _⟩,⟨by(with_reducible repeat(first|apply Kd.R_alloc|apply Kd.R_drewN|apply Kd.R_drew));exact HO314.out⟩,⟨zz0⟩⟩
    case round=>as_aux_lemma=>
     clear H';(try clear c2);(try clear c2b0);(try clear c2b1);(try clear p2);(try clear c4);(try clear c4b0);(try clear c4b1);(try clear c5);(try clear c5b0);(try clear c5b1);(try clear p6);obtain⟨x4_1,x5_1,rfl,HA,HK1,HO_4,HB⟩:=hrel
     cases gk with
     |zero=>exact absurd HA.out (by simp[spec_ReadBase32.l0])
     |succ k1=>
      have H:=HA.out;clear HA;simp only[spec_ReadBase32.l0]at H
      by_cases c8:x5_1<(a0.size:Int)
      ·as_aux_lemma=>
       rw[if_pos c8]at H;have c8b0:decide (x5_1<(a0.size:Int))=true:=decide_eq_true c8;clear c8
       by_cases c9:0≤x5_1
       ·as_aux_lemma=>
        rw[if_pos c9]at H;have c9b0:decide (0≤x5_1)=true:=decide_eq_true c9;clear c9;replace H:=Option.bind_eq_some_iff.mp H;obtain⟨t316,A110,H⟩:=H;(try dsimp only at H);have A11:=Aside0.mk A110;clear A110;have HC12:=Aside0.mk H;clear H;have p10:0≤(x5_1:Int):=of_decide_eq_true zz3;have q10:x5_1<(a0.size:Int):=of_decide_eq_true zz3;have hx10:=bt_at a0 x5_1;replace p10:=eq_true p10;replace q10:=eq_true q10;go_upto_if 28 with(first|((with_reducible refine gate_callee (f:=37) rfl ?_);refine goesR_ 26 Tryz.func37 #[.int .u8 (bt a0 x5_1)] (spec_l1five.calls k1 (bt a0 x5_1) t316 _ A11.out) ?_;rintro w' ⟨nd,rfl⟩))
        (try simp only[Act.put,List.setIfInBounds_toArray,List.set_cons_zero,List.set_cons_succ]);(try(rw[drewN_self wr];generalize hq_:World.drewN wr _=wr;have n0_:Aside0 (Kd.R (Kd.int .u8) 5 wr w.heap.size (fun _=>True) v313 x4_1):=⟨by rw[←hq_];exact zz28⟩;have n1_:Aside0 (Below w.heap.size w wr):=⟨zz107⟩;clear HO_4 HB hq_;have HO_4:=n0_;have HB:=n1_;clear n0_ n1_));have H:=HC12.out;clear HC12
        by_cases c13:t316<0
        ·rw[if_pos c13]at H;have c13b0:decide (t316<0)=true:=decide_eq_true c13;clear c13;(first|rw[c13b0]|(simp only[i64_w,i32_w];rw[c13b0])|skip);simp only[Option.some.injEq,Prod.mk.injEq]at H;obtain⟨rfl,rfl⟩:=H;go_wp2
         go_ret2
         exact⟨zz66,zz0⟩
        ·as_aux_lemma=>
         rw[if_neg c13]at H;have c13b0:decide (t316<0)=false:=decide_eq_false c13;clear c13;(first|rw[c13b0]|(simp only[i64_w,i32_w];rw[c13b0])|skip);have H':=Aside0.mk H;clear H;go_wp2
         go_loopg [7] k1 (fun kq v7 w'=> ∃(x4_2:List Int) (x7_2:Int),v7= .int .i64 x7_2∧Aside0 (spec_ReadBase32.l1 kq a0 x4_2 x5_1 t316 x7_2=some (r1,r2))∧Aside0 (kq≤k1)∧Aside0 (Kd.R (Kd.int .u8) 5 w' w.heap.size (fun _=>True) v313 x4_2)∧Aside0 (Below w.heap.size w w'))
         case atStart=>exact⟨(x4_1),(0),zz1,H',⟨Nat.le_refl _⟩,⟨zz28⟩,⟨zz0⟩⟩
         case round=>as_aux_lemma=>
          clear H';(try clear c1);(try clear p1);(try clear q1);(try clear hx1);(try clear c2);(try clear c2b0);(try clear c2b1);(try clear p2);(try clear c3);(try clear c4);(try clear c4b0);(try clear c4b1);(try clear c5);(try clear c5b0);(try clear c5b1);(try clear p6);(try clear c8);(try clear c8b0);(try clear c9);(try clear c9b0);(try clear p10);(try clear q10);(try clear hx10);(try clear c13);(try clear c13b0);(try clear p10);(try clear p2);(try clear p6);(try clear q10);obtain⟨x4_2,x7_2,rfl,HA,HK2,HO_4,HB⟩:=hrel
          cases gk with
          |zero=>exact absurd HA.out (by simp[spec_ReadBase32.l1])
          |succ k2=>
           have H:=HA.out;clear HA;simp only[spec_ReadBase32.l1]at H
           by_cases c14:x7_2<5
           ·as_aux_lemma=>
            rw[if_pos c14]at H;have c14b0:decide (x7_2<5)=true:=decide_eq_true c14;clear c14;have HC15:=Aside0.mk H;clear H;obtain⟨Ao16,co16,eo16⟩:=Kd.R_slice HO_4.out;subst eo16
            repeat' (first|(go_big_may;(fail))|go_values|go_skip|go_big_skip|go_big_want|((first|(with_reducible refine gate_nog rfl ?_)|(fail_if_success with_reducible refine gate_any ?_));go_step)|go_upon|simp only[Bool.not_true,Bool.not_false,Bool.true_and,Bool.false_and,Bool.true_or,Bool.false_or]|dsimp only)
            have H:=HC15.out;clear HC15
            by_cases c17:(wrap64 (Int.tdiv (wrap64 ((wrap64 (5*x5_1))+x7_2)) 8))<(x4_2.length:Int)
            ·as_aux_lemma=>
             rw[if_pos c17]at H;have c17b0:decide ((wrap64 (Int.tdiv (wrap64 ((wrap64 (5*x5_1))+x7_2)) 8))<(x4_2.length:Int))=true:=decide_eq_true c17;clear c17;(first|rw[c17b0]|(simp only[i64_w,i32_w];rw[c17b0])|skip);obtain⟨ji18,hji18⟩: ∃j_:Int,(wrap64 (4-x7_2))=j_:=⟨_,rfl⟩;replace H:(if 0≤(ji18)then(if(Go.bits .and .i64 (shr .i64 t316 (ji18)) 1)=1 then(if 0≤(wrap64 (Int.tdiv (wrap64 ((wrap64 (5*x5_1))+x7_2)) 8))then(if 0≤(wrap64 (7-(Int.tmod (wrap64 ((wrap64 (5*x5_1))+x7_2)) 8)))then(spec_ReadBase32.l1 k2 a0 (x4_2.set ((wrap64 (Int.tdiv (wrap64 ((wrap64 (5*x5_1))+x7_2)) 8)):Int).toNat (((rd x4_2 (wrap64 (Int.tdiv (wrap64 ((wrap64 (5*x5_1))+x7_2)) 8)))+(shl .u8 1 (wrap64 (7-(Int.tmod (wrap64 ((wrap64 (5*x5_1))+x7_2)) 8)))))%256)) x5_1 t316 (wrap64 (x7_2+1)))else(none))else(none))else(spec_ReadBase32.l1 k2 a0 x4_2 x5_1 t316 (wrap64 (x7_2+1))))else(none))=some (r1,r2):=by first|(rw[hji18]at H;exact H)|(simp only[hji18]at H ⊢;exact H)
             have hji18w:(IntKind.i64.wrap (4-x7_2))=ji18:=(i64_w _).trans hji18
             by_cases c19:0≤(ji18)
             ·rw[if_pos c19]at H;have c19b0:=eq_true c19;have c19b1:decide (0≤(ji18))=true:=decide_eq_true c19;clear c19;obtain⟨ji20,hji20⟩: ∃j_:Int,(shr .i64 t316 (ji18))=j_:=⟨_,rfl⟩;replace H:(if(Go.bits .and .i64 (ji20) 1)=1 then(if 0≤(wrap64 (Int.tdiv (wrap64 ((wrap64 (5*x5_1))+x7_2)) 8))then(if 0≤(wrap64 (7-(Int.tmod (wrap64 ((wrap64 (5*x5_1))+x7_2)) 8)))then(spec_ReadBase32.l1 k2 a0 (x4_2.set ((wrap64 (Int.tdiv (wrap64 ((wrap64 (5*x5_1))+x7_2)) 8)):Int).toNat (((rd x4_2 (wrap64 (Int.tdiv (wrap64 ((wrap64 (5*x5_1))+x7_2)) 8)))+(shl .u8 1 (wrap64 (7-(Int.tmod (wrap64 ((wrap64 (5*x5_1))+x7_2)) 8)))))%256)) x5_1 t316 (wrap64 (x7_2+1)))else(none))else(none))else(spec_ReadBase32.l1 k2 a0 x4_2 x5_1 t316 (wrap64 (x7_2+1))))=some (r1,r2):=by first|(rw[hji20]at H;exact H)|(simp only[hji20]at H ⊢;exact H)
              have hji20_:(t316/2^min (ji18).toNat 64)=ji20:=hji20;have hji20z:(ji18)≤64→(t316/2^(ji18).toNat)=ji20:=shr_small hji20
              by_cases c21:(Go.bits .and .i64 (ji20) 1)=1
              ·rw[if_pos c21]at H;have c21b0:((Go.bits .and .i64 (ji20) 1)==1)=true:=beq_iff_eq.mpr c21;have c21b1:((Go.bits .and .i64 (ji20) 1)!=1)=false:=bne_eq_false_iff_eq.mpr c21;clear c21;obtain⟨ji22,hji22⟩: ∃j_:Int,(wrap64 (Int.tdiv (wrap64 ((wrap64 (5*x5_1))+x7_2)) 8))=j_:=⟨_,rfl⟩;replace H:(if 0≤(ji22)then(if 0≤(wrap64 (7-(Int.tmod (wrap64 ((wrap64 (5*x5_1))+x7_2)) 8)))then(spec_ReadBase32.l1 k2 a0 (x4_2.set ((ji22):Int).toNat (((rd x4_2 (ji22))+(shl .u8 1 (wrap64 (7-(Int.tmod (wrap64 ((wrap64 (5*x5_1))+x7_2)) 8)))))%256)) x5_1 t316 (wrap64 (x7_2+1)))else(none))else(none))=some (r1,r2):=by first|(rw[hji22]at H;exact H)|(simp only[hji22]at H ⊢;exact H)
               (try rw[hji22]at c17b0);have hji22w:(IntKind.i64.wrap (Int.tdiv (wrap64 ((wrap64 (5*x5_1))+x7_2)) 8))=ji22:=(i64_w _).trans hji22
               by_cases c23:0≤(ji22)
               ·rw[if_pos c23]at H;have c23b0:decide (0≤(ji22))=true:=decide_eq_true c23;clear c23;obtain⟨ji24,hji24⟩: ∃j_:Int,(wrap64 (7-(Int.tmod (wrap64 ((wrap64 (5*x5_1))+x7_2)) 8)))=j_:=⟨_,rfl⟩;replace H:(if 0≤(ji24)then(spec_ReadBase32.l1 k2 a0 (x4_2.set ((ji22):Int).toNat (((rd x4_2 (ji22))+(shl .u8 1 (ji24)))%256)) x5_1 t316 (wrap64 (x7_2+1)))else(none))=some (r1,r2):=by first|(rw[hji24]at H;exact H)|(simp only[hji24]at H ⊢;exact H)
                have hji24w:(IntKind.i64.wrap (7-(Int.tmod (wrap64 ((wrap64 (5*x5_1))+x7_2)) 8)))=ji24:=(i64_w _).trans hji24
                by_cases c25:0≤(ji24)
                ·rw[if_pos c25]at H;have c25b0:=eq_true c25;have c25b1:decide (0≤(ji24))=true:=decide_eq_true c25;clear c25;obtain⟨ji26,hji26⟩: ∃j_:Int,(shl .u8 1 (ji24))=j_:=⟨_,rfl⟩;replace H:(spec_ReadBase32.l1 k2 a0 (x4_2.set ((ji22):Int).toNat (((rd x4_2 (ji22))+(ji26))%256)) x5_1 t316 (wrap64 (x7_2+1)))=some (r1,r2):=by first|(rw[hji26]at H;exact H)|(simp only[hji26]at H ⊢;exact H)
                 have hji26_:(IntKind.u8.wrap (1*2^min (ji24).toNat 8))=ji26:=hji26;have hji26z:(ji24)≤8→(IntKind.u8.wrap (1*2^(ji24).toNat))=ji26:=shl_small hji26;have hji26u:(IntKind.u8.wrap (2^min (ji24).toNat 8))=ji26:=by have h_:=hji26_;rw[Int.one_mul]at h_;exact h_
                 have hji26v:(ji24)≤8→(IntKind.u8.wrap (2^(ji24).toNat))=ji26:=fun hle_=>by have h_:=hji26z hle_;rw[Int.one_mul]at h_;exact h_
                 obtain⟨y318,hy318⟩: ∃y_:List Int,y_=(x4_2.set ((ji22):Int).toNat (((rd x4_2 (ji22))+(ji26))%256)):=⟨_,rfl⟩;replace H:(spec_ReadBase32.l1 k2 a0 y318 x5_1 t316 (wrap64 (x7_2+1)))=some (r1,r2):=by first|(rw[hy318];with_reducible exact H)|(have H2_:=(Option.bind_some _ _).symm.trans H;rw[hy318];with_reducible exact H2_)|(have H2_:=(Option.bind_some _ _).symm.trans H;with_reducible exact H2_)|with_reducible exact H|(rw[hy318];exact H)|exact H
                 have Ny318:=Aside0.mk hy318;clear hy318;have H':=Aside0.mk H;clear H;(try go_wp2);replace HO_4:=Aside0.mk (Kd.R_drew HO_4.out);replace HB:=Aside0.mk (below_drew1 HB.out);have p317:0≤((ji22):Int):=of_decide_eq_true zz3;have q317:(ji22)<(x4_2.length:Int):=of_decide_eq_true zz3;obtain⟨ad317,e317,hx317_0⟩:=Kd.at_int (Kd.R_reads' HO_4.out).2.2 (ji22) p317 q317;cases e317;replace p317:=eq_true p317;replace q317:=eq_true q317;have p27:0≤((ji22):Int):=of_decide_eq_true zz3;have q27:((ji22):Int)<((x4_2.length:Int):Int):=of_decide_eq_true zz3;obtain⟨go27,co27,eo27,gb27,gl27,cl27,HG27⟩:=Kd.R_form HO_4.out (by omega);(first|cases eo27|(injection eo27 with ea_ en_ ec_;(first|subst ea_|(injection ea_ with ea_;subst ea_));subst ec_;clear en_));have GB27:=Aside0.mk gb27;have GG27:=Aside0.mk HG27;clear gb27 gl27 HG27;(first|simp only[add_plain]at hx317_0|skip);obtain⟨hx27_0,hf27_0⟩:=Kd.R_celln 0 HO_4.out ((ji22):Int) p27 q27;replace p27:=eq_true p27;replace q27:=eq_true q27;have HP29:=Kd.R_putn HO_4.out ((ji22):Int) (((rd x4_2 (ji22))+(ji26))%256);rw[←Ny318.out]at HP29;have HQ29:=Aside0.mk HP29;clear HP29;refine st_ (n:=15) (S:=fun w'=>w'.cell? ⟨go27,((ji22)).toNat,none⟩=some (.int .u8 (rd x4_2 (ji22)))) (ds:= [14]) (hx317_0) (fun hHeld=>?_);refine with_tabW spec_ReadBase32.tab15 spec_ReadBase32.bits15 (fun HT_ HW_=>?_);generalize wr.drew=w28 at HO_4 HB GG27 HQ29 hf27_0 hx27_0 hx317_0 hHeld ⊢;refine pz 0 50 ?_;refine pz 1 51 ?_;refine pz 2 52 ?_;refine pz 3 53 ?_;refine pz 4 54 ?_;refine pz 5 55 ?_;refine pz 6 56 ?_;refine pz 8 58 ?_;refine pz 9 59 ?_;refine pz 10 60 ?_;refine pz 11 61 ?_;refine tk (i:=7) (N:=some 57) (v:=?_) (a':=?_) rfl rfl (take_ofW HT_.out HW_.out (by kernel_rfl)) (Or.inl ⟨by kernel_rfl,?_⟩) hHeld ?_ ?_;rotate_left
                 ·intro w' s0;go_simp;with_reducible rfl
                 rotate_left
                 ·simp only[Act.put,List.setIfInBounds_toArray,List.set_cons_zero,List.set_cons_succ,i64_w,i32_w];rfl
                 refine pz 12 62 ?_;refine pz 13 63 ?_;refine last_ (i:=14) (N:=none) #[true,true,true,true,true,true,true,true,true,true,true,true,true,true,true] rfl rfl (one_of HT_.out (by kernel_rfl)) (by decide) (fun K hK=>?_);refine skip_ (w1:=?_) (by rfl) rfl ?_ ?_;rotate_left
                 ·go_simp;rfl
                 refine hK.out _ _ ?_;clear hK K;refine done_ (done_of HT_.out (by kernel_rfl)) ?_;(try go_wp2);go_roundg k2
                 (case measure=>have:=HK1.out;have:=HK2.out;omega);case rel=>exact⟨(y318),(wrap64 (x7_2+1)),zz1,H',⟨zz65⟩,⟨by(with_reducible repeat(first|apply Kd.R_alloc|apply Kd.R_drewN|apply Kd.R_drew));exact HQ29.out⟩,⟨by repeat(first|(with_reducible first|exact HB.out|apply below_alloc|apply pw_below_drewN|apply below_drew1|refine below_set ?_ GB27.out)|exact HB.out)⟩⟩
                ·rw[if_neg c25]at H;exact absurd H (by simp)
               ·rw[if_neg c23]at H;exact absurd H (by simp)
              ·rw[if_neg c21]at H;have c21b0:((Go.bits .and .i64 (ji20) 1)==1)=false:=beq_eq_false_iff_ne.mpr c21;have c21b1:((Go.bits .and .i64 (ji20) 1)!=1)=true:=bne_iff_ne.mpr c21;have H':=Aside0.mk H;clear H;go_wp2
               go_roundg k2
               (case measure=>have:=HK1.out;have:=HK2.out;omega);case rel=>exact⟨(x4_2),(wrap64 (x7_2+1)),zz1,H',⟨zz65⟩,⟨zz28⟩,⟨zz0⟩⟩
             ·rw[if_neg c19]at H;exact absurd H (by simp)
            ·rw[if_neg c17]at H;have c17b0:decide ((wrap64 (Int.tdiv (wrap64 ((wrap64 (5*x5_1))+x7_2)) 8))<(x4_2.length:Int))=false:=decide_eq_false c17;clear c17;(first|rw[c17b0]|(simp only[i64_w,i32_w];rw[c17b0])|skip);have H':=Aside0.mk H;clear H;go_wp2
             go_roundg k2
             (case measure=>have:=HK1.out;have:=HK2.out;omega);case rel=>exact⟨(x4_2),(wrap64 (x7_2+1)),zz1,H',⟨zz65⟩,⟨zz28⟩,⟨zz0⟩⟩
           ·rw[if_neg c14]at H;have c14b0:decide (x7_2<5)=false:=decide_eq_false c14;clear c14;have H':=Aside0.mk H;clear H;go_wp2
            go_roundg k2
            (case measure=>have:=HK1.out;have:=HK2.out;omega);case rel=>exact⟨(x4_2),(wrap64 (x5_1+1)),zz1,H',⟨zz65⟩,⟨zz28⟩,⟨zz0⟩⟩
       ·rw[if_neg c9]at H;exact absurd H (by simp)
      ·rw[if_neg c8]at H;have c8b0:decide (x5_1<(a0.size:Int))=false:=decide_eq_false c8;clear c8;replace H:=Option.bind_eq_some_iff.mp H;obtain⟨t315,A300,H⟩:=H;(try dsimp only at H);have A30:=Aside0.mk A300;clear A300;have HC31:=Aside0.mk H;clear H;have hcv32:=own_string (P:=Tryz.prog) Tryz.underlying45 Tryz.underlying5 Tryz.underlying9 (Kd.own_of_R HO_4.out);go_upto_if 68 with(first|((with_reducible refine gate_callee (f:=22) rfl ?_);refine goesR_ 66 Tryz.func22 #[.string (strOfNums x4_1)] (spec_Base32.calls k1 (strOfNums x4_1) t315 _ A30.out) ?_;rintro w33 hb;replace HO_4:=Aside0.mk (Kd.R_below zz28 hb);replace HB:=Aside0.mk (below_step zz0 hb);(try clear hb)))
       (try simp only[Act.put,List.setIfInBounds_toArray,List.set_cons_zero,List.set_cons_succ]);have H:=HC31.out;clear HC31
       by_cases c34:t315.toList=a0.toList
       ·rw[if_pos c34]at H;have c34b0:(t315.toList==a0.toList)=true:=beq_iff_eq.mpr c34;have c34b1:(t315.toList !=a0.toList)=false:=bne_eq_false_iff_eq.mpr c34;clear c34;(first|rw[c34b0]|(simp only[i64_w,i32_w];rw[c34b0])|rw[c34b1]|(rw[c34b2];simp only[Bool.not_true,Bool.not_false])|skip);simp only[Option.some.injEq,Prod.mk.injEq]at H;obtain⟨rfl,rfl⟩:=H;have hcv35:=own_string (P:=Tryz.prog) Tryz.underlying45 Tryz.underlying5 Tryz.underlying9 (Kd.own_of_R HO_4.out);go_wp2
        go_ret2
        exact⟨zz66,zz0⟩
       ·rw[if_neg c34]at H;have c34b0:(t315.toList==a0.toList)=false:=beq_eq_false_iff_ne.mpr c34;have c34b1:(t315.toList !=a0.toList)=true:=bne_iff_ne.mpr c34;(first|rw[c34b0]|(simp only[i64_w,i32_w];rw[c34b0])|rw[c34b1]|(rw[c34b2];simp only[Bool.not_true,Bool.not_false])|skip);simp only[Option.some.injEq,Prod.mk.injEq]at H;obtain⟨rfl,rfl⟩:=H;go_wp2
        go_ret2
        exact⟨zz66,zz0⟩
   ·rw[if_neg c5]at H;exact absurd H (by simp)
  ·rw[if_neg c4]at H;exact absurd H (by simp)
def spec_ReadLabel.f (k:Nat) (a0:ByteArray):Option (ByteArray×Bool):=if(a0.size:Int)=37 then(if 0≤5 then(if 5≤(a0.size:Int)then(if(a0.extract 0 5).toList=([115,104,97,49,58]:List UInt8)then((spec_ReadBase32.f k (a0.extract 5 a0.size)).bind fun bt319=>(some (bt319.1,bt319.2)))else(some ((⟨#[]⟩:ByteArray),false)))else(none))else(none))else(some ((⟨#[]⟩:ByteArray),false))
theorem spec_ReadLabel.calls (k:Nat) (a0 r1:ByteArray) (r2:Bool) (w:World) (h:spec_ReadLabel.f k a0=some (r1,r2)):
  Calls Tryz.prog 12 #[.string a0] w fun e w'=>e= .returned (.tuple #[.string r1,.bool r2])∧Below w.heap.size w w':=by
 have HB:=Aside0.mk (Below.refl w.heap.size w);have H:(if(a0.size:Int)=37 then(if 0≤5 then(if 5≤(a0.size:Int)then(if(a0.extract 0 5).toList=([115,104,97,49,58]:List UInt8)then((spec_ReadBase32.f k (a0.extract 5 a0.size)).bind fun bt319=>(some (bt319.1,bt319.2)))else(some ((⟨#[]⟩:ByteArray),false)))else(none))else(none))else(some ((⟨#[]⟩:ByteArray),false)))=some (r1,r2):=h;clear h
 by_cases c2:(a0.size:Int)=37
 ·rw[if_pos c2]at H;have c2b0:((a0.size:Int)==37)=true:=beq_iff_eq.mpr c2;have c2b1:((a0.size:Int)!=37)=false:=bne_eq_false_iff_eq.mpr c2;clear c2
  by_cases c3:0≤5
  ·rw[if_pos c3]at H;have c3b0:=eq_true c3;have c3b1:decide (0≤5)=true:=decide_eq_true c3;clear c3
   by_cases c4:5≤(a0.size:Int)
   ·rw[if_pos c4]at H;have c4b0:=eq_true c4;have c4b1:decide (5≤(a0.size:Int))=true:=decide_eq_true c4;clear c4
    by_cases c5:(a0.extract 0 5).toList=([115,104,97,49,58]:List UInt8)
    ·rw[if_pos c5]at H;have c5b0:((a0.extract 0 5).toList==([115,104,97,49,58]:List UInt8))=true:=beq_iff_eq.mpr c5;have c5b1:((a0.extract 0 5).toList !=([115,104,97,49,58]:List UInt8))=false:=bne_eq_false_iff_eq.mpr c5;clear c5;have c6b0:=eq_true (of_decide_eq_true zz3:5≤(a0.size:Int));replace H:=Option.bind_eq_some_iff.mp H;obtain⟨⟨t319,t320⟩,A70,H⟩:=H;(try dsimp only at H);have A7:=Aside0.mk A70;clear A70;simp only[Option.some.injEq,Prod.mk.injEq]at H;obtain⟨rfl,rfl⟩:=H;go_enter Tryz.func12,Tryz.ntmps12
     go_wp2_with (first|((with_reducible refine gate_callee (f:=24) rfl ?_);refine goesR_ 14 Tryz.func24 #[.string (a0.extract 5 a0.size)] (spec_ReadBase32.calls k (a0.extract 5 a0.size) t319 t320 _ A7.out) ?_;rintro w8 hb;replace HB:=Aside0.mk (below_step zz0 hb);(try clear hb)))
     go_ret2
     exact⟨zz2,zz0⟩
    ·rw[if_neg c5]at H;have c5b0:((a0.extract 0 5).toList==([115,104,97,49,58]:List UInt8))=false:=beq_eq_false_iff_ne.mpr c5;have c5b1:((a0.extract 0 5).toList !=([115,104,97,49,58]:List UInt8))=true:=bne_iff_ne.mpr c5;simp only[Option.some.injEq,Prod.mk.injEq]at H;obtain⟨rfl,rfl⟩:=H;go_enter Tryz.func12,Tryz.ntmps12
     go_wp2
     go_ret2
     exact⟨zz2,zz0⟩
   ·rw[if_neg c4]at H;exact absurd H (by simp)
  ·rw[if_neg c3]at H;exact absurd H (by simp)
 ·rw[if_neg c2]at H;have c2b0:((a0.size:Int)==37)=false:=beq_eq_false_iff_ne.mpr c2;have c2b1:((a0.size:Int)!=37)=true:=bne_iff_ne.mpr c2;simp only[Option.some.injEq,Prod.mk.injEq]at H;obtain⟨rfl,rfl⟩:=H;go_enter Tryz.func12,Tryz.ntmps12
  go_wp2
  go_ret2
  exact⟨zz2,zz0⟩
end Go.Proofs.YtgkipkifkobjnaaGreatDoor.GFnExactRecOk
