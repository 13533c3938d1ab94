-- Printed by gen.py and its programs for this claim.
import Derived.Test.YtgkipkifkobjnaaGreatDoorGFnExactRecOkx0
import Derived.Test.YtgkipkifkobjnaaGreatDoorGFnExactRecOkx9
import Derived.Test.YtgkipkifkobjnaaGreatDoorZFnExactRecOk
namespace Go.Proofs.YtgkipkifkobjnaaGreatDoor.GFnExactRecOk
open Go.RowKit Go.Proofs.YtgkipkifkobjnaaGreatDoorW.PrintWords Go.Proofs.YtgkipkifkobjnaaGreatDoorW.PrintLast Go.Proofs.YtgkipkifkobjnaaGreatDoorW.PrintMore Go.Proofs.YtgkipkifkobjnaaGreatDoorW.Zs
set_option maxHeartbeats 40000000
set_option maxRecDepth 100000
attribute [local go_sem] max2_int min2_int max_two min_two max_three min_three max_four min_four
set_option linter.unusedVariables false
set_option linter.unusedSimpArgs false
def spec_Schedule.l0:Nat→ByteArray→List Int→Int→Option (List Int)
 |0,_,_,_=>none
 |k+1,x0,x3,x4=>if x4<80 then(if x4<16 then(if 0≤(wrap64 (4*x4))then(if(wrap64 (4*x4))<(x0.size:Int)then(if 0≤(wrap64 ((wrap64 (4*x4))+1))then(if(wrap64 ((wrap64 (4*x4))+1))<(x0.size:Int)then(if 0≤(wrap64 ((wrap64 (4*x4))+2))then(if(wrap64 ((wrap64 (4*x4))+2))<(x0.size:Int)then(if 0≤(wrap64 ((wrap64 (4*x4))+3))then(if(wrap64 ((wrap64 (4*x4))+3))<(x0.size:Int)then(if 0≤x4 then(if x4<(x3.length:Int)then(spec_Schedule.l0 k x0 (x3.set (x4:Int).toNat (Go.bits .or .i64 (Go.bits .or .i64 (Go.bits .or .i64 (wrap64 ((wrap64 (bt x0 (wrap64 (4*x4))))*16777216)) (wrap64 ((wrap64 (bt x0 (wrap64 ((wrap64 (4*x4))+1))))*65536))) (wrap64 ((wrap64 (bt x0 (wrap64 ((wrap64 (4*x4))+2))))*256))) (wrap64 (bt x0 (wrap64 ((wrap64 (4*x4))+3)))))) (wrap64 (x4+1)))else(none))else(none))else(none))else(none))else(none))else(none))else(none))else(none))else(none))else(none))else(if 0≤(wrap64 (x4-3))then(if(wrap64 (x4-3))<(x3.length:Int)then(if 0≤(wrap64 (x4-8))then(if(wrap64 (x4-8))<(x3.length:Int)then(if 0≤(wrap64 (x4-14))then(if(wrap64 (x4-14))<(x3.length:Int)then(if 0≤(wrap64 (x4-16))then(if(wrap64 (x4-16))<(x3.length:Int)then((spec_l3turn.f (Go.bits .xor .i64 (Go.bits .xor .i64 (Go.bits .xor .i64 (rd x3 (wrap64 (x4-3))) (rd x3 (wrap64 (x4-8)))) (rd x3 (wrap64 (x4-14)))) (rd x3 (wrap64 (x4-16)))) 1).bind fun t229=>(if 0≤x4 then(if x4<(x3.length:Int)then(spec_Schedule.l0 k x0 (x3.set (x4:Int).toNat t229) (wrap64 (x4+1)))else(none))else(none)))else(none))else(none))else(none))else(none))else(none))else(none))else(none))else(none)))else(some x3)
def spec_Schedule.f (k:Nat) (a0:ByteArray):Option (List Int):=if(a0.size:Int)=64 then(if 80≤35184372088832 then(spec_Schedule.l0 k a0 (List.replicate 80 0) 0)else(none))else(some ([]:List Int))
def spec_Schedule.T8:Bool×List (List Nat×List Nat):=(true,[([],[]),([],[]),([],[]),([],[]),([3],[3]),([2,4],[2,4]),([5],[5]),([6],[6]),([],[]),([],[]),([9],[9]),([10],[10]),([8,11],[8,11]),([12],[12]),([13],[13]),([7,14],[7,14]),([],[]),([],[]),([17],[17]),([18],[18]),([16,19],[16,19]),([20],[20]),([21],[21]),([15,22],[15,22]),([],[]),([],[]),([25],[25]),([26],[26]),([24,27],[24,27]),([28],[28]),([23,29],[23,29]),([0,1,0,1,2,3,4,5,6,7,8,9,10,11,12,13,14,15,16,17,18,19,20,21,22,23,24,25,26,27,28,29,30],[0,1]),([31,30,0,1,2,3,4,5,6,7,8,9,10,11,12,13,14,15,16,17,18,19,20,21,22,23,24,25,26,27,28,29,30],[30,31])])
def spec_Schedule.B8:List Nat:= [0,0,0,0,8,28,60,124,0,0,512,1536,3840,7936,16128,32764,0,0,131072,393216,983040,2031616,4128768,8388604,0,0,33554432,100663296,251658240,520093696,1073741820,2147483647,4294967295]
theorem spec_Schedule.tab8:rtab .any (opsOf Tryz.f84 8)=spec_Schedule.T8:=by kernel_rfl
theorem spec_Schedule.bits8:waitsOk spec_Schedule.T8.2 spec_Schedule.B8=true:=by kernel_rfl
def spec_Schedule.T9:Bool×List (List Nat×List Nat):=(true,[([],[]),([],[]),([],[]),([],[]),([3],[3]),([2,4],[2,4]),([5],[5]),([],[]),([],[]),([8],[8]),([7,9],[7,9]),([10],[10]),([6,11],[6,11]),([],[]),([],[]),([14],[14]),([13,15],[13,15]),([16],[16]),([12,17],[12,17]),([],[]),([],[]),([20],[20]),([19,21],[19,21]),([22],[22]),([18,23],[18,23]),([24],[24]),([0,1,0,1,2,3,4,5,6,7,8,9,10,11,12,13,14,15,16,17,18,19,20,21,22,23,24,25],[0,1]),([26,25,25,0,1,2,3,4,5,6,7,8,9,10,11,12,13,14,15,16,17,18,19,20,21,22,23,24,25],[25,26])])
def spec_Schedule.B9:List Nat:= [0,0,0,0,8,28,60,0,0,256,896,1920,4092,0,0,16384,57344,122880,262140,0,0,1048576,3670016,7864320,16777212,33554428,67108863,134217727]
theorem spec_Schedule.tab9:rtab .any (opsOf Tryz.f84 9)=spec_Schedule.T9:=by kernel_rfl
theorem spec_Schedule.bits9:waitsOk spec_Schedule.T9.2 spec_Schedule.B9=true:=by kernel_rfl
theorem spec_Schedule.calls (k:Nat) (a0:ByteArray) (r:List Int) (w:World) (h:spec_Schedule.f k a0=some r):
  Calls Tryz.prog 84 #[.string a0] w fun e w'=> ∃v0_:Value,e= .returned (v0_)∧Kd.R (Kd.int .i64) 3 w' w.heap.size (fun _=>True) v0_ r∧Below w.heap.size w w':=by
 have HB:=Aside0.mk (Below.refl w.heap.size w);have H:(if(a0.size:Int)=64 then(if 80≤35184372088832 then(spec_Schedule.l0 k a0 (List.replicate 80 0) 0)else(none))else(some ([]:List Int)))=some r:=h;clear h
 by_cases c2:(a0.size:Int)=64
 ·as_aux_lemma=>
  rw[if_pos c2]at H;have c2b0:((a0.size:Int)==64)=true:=beq_iff_eq.mpr c2;have c2b1:((a0.size:Int)!=64)=false:=bne_eq_false_iff_eq.mpr c2;clear c2
  by_cases c3:80≤35184372088832
  ·as_aux_lemma=>
   rw[if_pos c3]at H;have c3b0:=eq_true c3;have c3b1:decide (80≤35184372088832)=true:=decide_eq_true c3;clear c3;obtain⟨y221,hy221⟩: ∃y_:List Int,y_=(List.replicate 80 0):=⟨_,rfl⟩;replace H:(spec_Schedule.l0 k a0 y221 0)=some r:=by first|(rw[hy221];with_reducible exact H)|(have H2_:=(Option.bind_some _ _).symm.trans H;rw[hy221];with_reducible exact H2_)|(have H2_:=(Option.bind_some _ _).symm.trans H;with_reducible exact H2_)|with_reducible exact H|(rw[hy221];exact H)|exact H
   have Ny221:=Aside0.mk hy221;clear hy221;have H':=Aside0.mk H;clear H;go_enter Tryz.func84,Tryz.ntmps84
   go_wp2_with (first|((with_reducible refine gate_dst (N:=8) rfl ?_);refine Kd.R_make (Kd.int .i64) _ 3 rfl (N:=8) rfl 48 _ _ rfl 80 rfl rfl Tryz.underlying48 (.int .i64 0) 8 info3 rfl (by decide) (by omega) 0 (ok:=fun _=>True) (okp:=fun _=>True) rfl (fun _ hk=>hk) trivial (by omega) (by omega) (Below.refl _ _) (Nat.le_refl _) ?_;intro v222 w4 ho5 hb hg_ hnew_;clear hg_ hnew_;(first|rw[←Ny221.out]at ho5|(simp only[Int.reduceToNat]at ho5;rw[←Ny221.out]at ho5));have HO223:=Aside0.mk (Kd.R_lower ho5 (below_size zz0));replace HB:=Aside0.mk (below_step zz0 hb);clear hb ho5))
   go_loopg [4] k (fun kq v4 w'=> ∃(x3_1:List Int) (x4_1:Int),v4= .int .i64 x4_1∧Aside0 (spec_Schedule.l0 kq a0 x3_1 x4_1=some r)∧Aside0 (kq≤k)∧Aside0 (Kd.R (Kd.int .i64) 3 w' w.heap.size (fun _=>True) v222 x3_1)∧Aside0 (Below w.heap.size w w'))
   case atStart=>exact⟨(y221),(0),zz1,H',⟨Nat.le_refl _⟩,⟨by(with_reducible repeat(first|apply Kd.R_alloc|apply Kd.R_drewN|apply Kd.R_drew));exact HO223.out⟩,⟨zz0⟩⟩
   case round=>as_aux_lemma=>
    clear H';(try clear c2);(try clear c2b0);(try clear c2b1);(try clear p2);(try clear c3);(try clear c3b0);(try clear c3b1);obtain⟨x3_1,x4_1,rfl,HA,HK1,HO_3,HB⟩:=hrel
    cases gk with
    |zero=>exact absurd HA.out (by simp[spec_Schedule.l0])
    |succ k1=>
     have H:=HA.out;clear HA;simp only[spec_Schedule.l0]at H
     by_cases c6:x4_1<80
     ·as_aux_lemma=>
      rw[if_pos c6]at H;have c6b0:decide (x4_1<80)=true:=decide_eq_true c6;clear c6
      by_cases c7:x4_1<16
      ·as_aux_lemma=>
       rw[if_pos c7]at H;have c7b0:decide (x4_1<16)=true:=decide_eq_true c7;clear c7;obtain⟨ji8,hji8⟩: ∃j_:Int,(wrap64 (4*x4_1))=j_:=⟨_,rfl⟩;replace H:(if 0≤(ji8)then(if(ji8)<(a0.size:Int)then(if 0≤(wrap64 ((ji8)+1))then(if(wrap64 ((ji8)+1))<(a0.size:Int)then(if 0≤(wrap64 ((ji8)+2))then(if(wrap64 ((ji8)+2))<(a0.size:Int)then(if 0≤(wrap64 ((ji8)+3))then(if(wrap64 ((ji8)+3))<(a0.size:Int)then(if 0≤x4_1 then(if x4_1<(x3_1.length:Int)then(spec_Schedule.l0 k1 a0 (x3_1.set (x4_1:Int).toNat (Go.bits .or .i64 (Go.bits .or .i64 (Go.bits .or .i64 (wrap64 ((wrap64 (bt a0 (ji8)))*16777216)) (wrap64 ((wrap64 (bt a0 (wrap64 ((ji8)+1))))*65536))) (wrap64 ((wrap64 (bt a0 (wrap64 ((ji8)+2))))*256))) (wrap64 (bt a0 (wrap64 ((ji8)+3)))))) (wrap64 (x4_1+1)))else(none))else(none))else(none))else(none))else(none))else(none))else(none))else(none))else(none))else(none))=some r:=by first|(rw[hji8]at H;exact H)|(simp only[hji8]at H ⊢;exact H)
       have hji8w:(IntKind.i64.wrap (4*x4_1))=ji8:=(i64_w _).trans hji8
       by_cases c9:0≤(ji8)
       ·as_aux_lemma=>
        rw[if_pos c9]at H;have c9b0:decide (0≤(ji8))=true:=decide_eq_true c9;clear c9
        by_cases c10:(ji8)<(a0.size:Int)
        ·as_aux_lemma=>
         rw[if_pos c10]at H;have c10b0:decide ((ji8)<(a0.size:Int))=true:=decide_eq_true c10;clear c10;obtain⟨ji12,hji12⟩: ∃j_:Int,(wrap64 ((ji8)+1))=j_:=⟨_,rfl⟩;replace H:(if 0≤(ji12)then(if(ji12)<(a0.size:Int)then(if 0≤(wrap64 ((ji8)+2))then(if(wrap64 ((ji8)+2))<(a0.size:Int)then(if 0≤(wrap64 ((ji8)+3))then(if(wrap64 ((ji8)+3))<(a0.size:Int)then(if 0≤x4_1 then(if x4_1<(x3_1.length:Int)then(spec_Schedule.l0 k1 a0 (x3_1.set (x4_1:Int).toNat (Go.bits .or .i64 (Go.bits .or .i64 (Go.bits .or .i64 (wrap64 ((wrap64 (bt a0 (ji8)))*16777216)) (wrap64 ((wrap64 (bt a0 (ji12)))*65536))) (wrap64 ((wrap64 (bt a0 (wrap64 ((ji8)+2))))*256))) (wrap64 (bt a0 (wrap64 ((ji8)+3)))))) (wrap64 (x4_1+1)))else(none))else(none))else(none))else(none))else(none))else(none))else(none))else(none))=some r:=by first|(rw[hji12]at H;exact H)|(simp only[hji12]at H ⊢;exact H)
         have hji12w:(IntKind.i64.wrap ((ji8)+1))=ji12:=(i64_w _).trans hji12
         by_cases c13:0≤(ji12)
         ·as_aux_lemma=>
          rw[if_pos c13]at H;have c13b0:decide (0≤(ji12))=true:=decide_eq_true c13;clear c13
          by_cases c14:(ji12)<(a0.size:Int)
          ·as_aux_lemma=>
           rw[if_pos c14]at H;have c14b0:decide ((ji12)<(a0.size:Int))=true:=decide_eq_true c14;clear c14;obtain⟨ji16,hji16⟩: ∃j_:Int,(wrap64 ((ji8)+2))=j_:=⟨_,rfl⟩;replace H:(if 0≤(ji16)then(if(ji16)<(a0.size:Int)then(if 0≤(wrap64 ((ji8)+3))then(if(wrap64 ((ji8)+3))<(a0.size:Int)then(if 0≤x4_1 then(if x4_1<(x3_1.length:Int)then(spec_Schedule.l0 k1 a0 (x3_1.set (x4_1:Int).toNat (Go.bits .or .i64 (Go.bits .or .i64 (Go.bits .or .i64 (wrap64 ((wrap64 (bt a0 (ji8)))*16777216)) (wrap64 ((wrap64 (bt a0 (ji12)))*65536))) (wrap64 ((wrap64 (bt a0 (ji16)))*256))) (wrap64 (bt a0 (wrap64 ((ji8)+3)))))) (wrap64 (x4_1+1)))else(none))else(none))else(none))else(none))else(none))else(none))=some r:=by first|(rw[hji16]at H;exact H)|(simp only[hji16]at H ⊢;exact H)
           have hji16w:(IntKind.i64.wrap ((ji8)+2))=ji16:=(i64_w _).trans hji16
           by_cases c17:0≤(ji16)
           ·rw[if_pos c17]at H;have c17b0:decide (0≤(ji16))=true:=decide_eq_true c17;clear c17
            by_cases c18:(ji16)<(a0.size:Int)
            ·rw[if_pos c18]at H;have c18b0:decide ((ji16)<(a0.size:Int))=true:=decide_eq_true c18;clear c18;obtain⟨ji20,hji20⟩: ∃j_:Int,(wrap64 ((ji8)+3))=j_:=⟨_,rfl⟩;replace H:(if 0≤(ji20)then(if(ji20)<(a0.size:Int)then(if 0≤x4_1 then(if x4_1<(x3_1.length:Int)then(spec_Schedule.l0 k1 a0 (x3_1.set (x4_1:Int).toNat (Go.bits .or .i64 (Go.bits .or .i64 (Go.bits .or .i64 (wrap64 ((wrap64 (bt a0 (ji8)))*16777216)) (wrap64 ((wrap64 (bt a0 (ji12)))*65536))) (wrap64 ((wrap64 (bt a0 (ji16)))*256))) (wrap64 (bt a0 (ji20))))) (wrap64 (x4_1+1)))else(none))else(none))else(none))else(none))=some r:=by first|(rw[hji20]at H;exact H)|(simp only[hji20]at H ⊢;exact H)
             have hji20w:(IntKind.i64.wrap ((ji8)+3))=ji20:=(i64_w _).trans hji20
             by_cases c21:0≤(ji20)
             ·rw[if_pos c21]at H;have c21b0:decide (0≤(ji20))=true:=decide_eq_true c21;clear c21
              by_cases c22:(ji20)<(a0.size:Int)
              ·rw[if_pos c22]at H;have c22b0:decide ((ji20)<(a0.size:Int))=true:=decide_eq_true c22;clear c22
               by_cases c24:0≤x4_1
               ·rw[if_pos c24]at H;have c24b0:decide (0≤x4_1)=true:=decide_eq_true c24;clear c24
                by_cases c25:x4_1<(x3_1.length:Int)
                ·rw[if_pos c25]at H;have c25b0:decide (x4_1<(x3_1.length:Int))=true:=decide_eq_true c25;clear c25;obtain⟨y224,hy224⟩: ∃y_:List Int,y_=(x3_1.set (x4_1:Int).toNat (Go.bits .or .i64 (Go.bits .or .i64 (Go.bits .or .i64 (wrap64 ((wrap64 (bt a0 (ji8)))*16777216)) (wrap64 ((wrap64 (bt a0 (ji12)))*65536))) (wrap64 ((wrap64 (bt a0 (ji16)))*256))) (wrap64 (bt a0 (ji20))))):=⟨_,rfl⟩;replace H:(spec_Schedule.l0 k1 a0 y224 (wrap64 (x4_1+1)))=some r:=by first|(rw[hy224];with_reducible exact H)|(have H2_:=(Option.bind_some _ _).symm.trans H;rw[hy224];with_reducible exact H2_)|(have H2_:=(Option.bind_some _ _).symm.trans H;with_reducible exact H2_)|with_reducible exact H|(rw[hy224];exact H)|exact H
                 have Ny224:=Aside0.mk hy224;clear hy224;have H':=Aside0.mk H;clear H;(try go_wp2);replace HO_3:=Aside0.mk (Kd.R_drew HO_3.out);replace HB:=Aside0.mk (below_drew1 HB.out);have p11:0≤((ji8):Int):=of_decide_eq_true zz3;have q11:(ji8)<(a0.size:Int):=of_decide_eq_true zz3;have hx11:=bt_at a0 (ji8);replace p11:=eq_true p11;replace q11:=eq_true q11;have p15:0≤((ji12):Int):=of_decide_eq_true zz3;have q15:(ji12)<(a0.size:Int):=of_decide_eq_true zz3;have hx15:=bt_at a0 (ji12);replace p15:=eq_true p15;replace q15:=eq_true q15;have p19:0≤((ji16):Int):=of_decide_eq_true zz3;have q19:(ji16)<(a0.size:Int):=of_decide_eq_true zz3;have hx19:=bt_at a0 (ji16);replace p19:=eq_true p19;replace q19:=eq_true q19;have p23:0≤((ji20):Int):=of_decide_eq_true zz3;have q23:(ji20)<(a0.size:Int):=of_decide_eq_true zz3;have hx23:=bt_at a0 (ji20);replace p23:=eq_true p23;replace q23:=eq_true q23;have p26:0≤(x4_1:Int):=of_decide_eq_true zz3;have q26:(x4_1:Int)<((x3_1.length:Int):Int):=of_decide_eq_true zz3;obtain⟨go26,co26,eo26,gb26,gl26,cl26,HG26⟩:=Kd.R_form HO_3.out (by omega);(first|cases eo26|(injection eo26 with ea_ en_ ec_;(first|subst ea_|(injection ea_ with ea_;subst ea_));subst ec_;clear en_));have GB26:=Aside0.mk gb26;have GG26:=Aside0.mk HG26;clear gb26 gl26 HG26;obtain⟨hx26_0,hf26_0⟩:=Kd.R_celln 0 HO_3.out (x4_1:Int) p26 q26;replace p26:=eq_true p26;replace q26:=eq_true q26;have HP28:=Kd.R_putn HO_3.out (x4_1:Int) (Go.bits .or .i64 (Go.bits .or .i64 (Go.bits .or .i64 (wrap64 ((wrap64 (bt a0 (ji8)))*16777216)) (wrap64 ((wrap64 (bt a0 (ji12)))*65536))) (wrap64 ((wrap64 (bt a0 (ji16)))*256))) (wrap64 (bt a0 (ji20))));rw[←Ny224.out]at HP28;have HQ28:=Aside0.mk HP28;clear HP28;refine st_ (n:=33) (S:=fun w'=>True) (ds:= [32]) trivial (fun hHeld=>?_);refine with_tabW spec_Schedule.tab8 spec_Schedule.bits8 (fun HT_ HW_=>?_);generalize wr.drew=w27 at HO_3 HB GG26 HQ28 hf26_0 hx26_0 hHeld ⊢;refine pz 0 15 ?_;refine pz 1 16 ?_;refine pz 2 17 ?_;refine pz 3 18 ?_;refine pz 4 19 ?_;refine pz 8 23 ?_;refine pz 9 24 ?_;refine pz 10 25 ?_;refine pz 11 26 ?_;refine pz 16 31 ?_;refine pz 17 32 ?_;refine pz 18 33 ?_;refine pz 19 34 ?_;refine pz 24 39 ?_;refine pz 25 40 ?_;refine pz 26 41 ?_;refine pz 27 42 ?_;refine tk (i:=5) (N:=some 20) (v:=?_) (a':=?_) rfl rfl (take_ofW HT_.out HW_.out (by kernel_rfl)) (Or.inl ⟨by kernel_rfl,?_⟩) hHeld ?_ ?_;rotate_left
                 ·intro w' _;go_simp;with_reducible rfl
                 rotate_left
                 ·simp only[Act.put,List.setIfInBounds_toArray,List.set_cons_zero,List.set_cons_succ,i64_w,i32_w];rfl
                 refine pz 6 21 ?_;refine pz 7 22 ?_;refine tk (i:=12) (N:=some 27) (v:=?_) (a':=?_) rfl rfl (take_ofW HT_.out HW_.out (by kernel_rfl)) (Or.inl ⟨by kernel_rfl,?_⟩) hHeld ?_ ?_;rotate_left
                 ·intro w' _;go_simp;with_reducible rfl
                 rotate_left
                 ·simp only[Act.put,List.setIfInBounds_toArray,List.set_cons_zero,List.set_cons_succ,i64_w,i32_w];rfl
                 refine pz 13 28 ?_;refine pz 14 29 ?_;refine pz 15 30 ?_;refine tk (i:=20) (N:=some 35) (v:=?_) (a':=?_) rfl rfl (take_ofW HT_.out HW_.out (by kernel_rfl)) (Or.inl ⟨by kernel_rfl,?_⟩) hHeld ?_ ?_;rotate_left
                 ·intro w' _;go_simp;with_reducible rfl
                 rotate_left
                 ·simp only[Act.put,List.setIfInBounds_toArray,List.set_cons_zero,List.set_cons_succ,i64_w,i32_w];rfl
                 refine pz 21 36 ?_;refine pz 22 37 ?_;refine pz 23 38 ?_;refine tk (i:=28) (N:=some 43) (v:=?_) (a':=?_) rfl rfl (take_ofW HT_.out HW_.out (by kernel_rfl)) (Or.inl ⟨by kernel_rfl,?_⟩) hHeld ?_ ?_;rotate_left
                 ·intro w' _;go_simp;with_reducible rfl
                 rotate_left
                 ·simp only[Act.put,List.setIfInBounds_toArray,List.set_cons_zero,List.set_cons_succ,i64_w,i32_w];rfl
                 refine pz 29 44 ?_;refine pz 30 45 ?_;refine pz 31 46 ?_;refine last_ (i:=32) (N:=none) #[true,true,true,true,true,true,true,true,true,true,true,true,true,true,true,true,true,true,true,true,true,true,true,true,true,true,true,true,true,true,true,true,true] rfl rfl (one_of HT_.out (by kernel_rfl)) (by decide) (fun K hK=>?_);refine skip_ (w1:=?_) (by rfl) rfl ?_ ?_;rotate_left
                 ·go_simp;rfl
                 refine hK.out _ _ ?_;clear hK K;refine done_ (done_of HT_.out (by kernel_rfl)) ?_;(try go_wp2);go_roundg k1
                 (case measure=>have:=HK1.out;omega);case rel=>exact⟨(y224),(wrap64 (x4_1+1)),zz1,H',⟨zz60⟩,⟨by(with_reducible repeat(first|apply Kd.R_alloc|apply Kd.R_drewN|apply Kd.R_drew));exact HQ28.out⟩,⟨by repeat(first|(with_reducible first|exact HB.out|apply below_alloc|apply pw_below_drewN|apply below_drew1|refine below_set ?_ GB26.out)|exact HB.out)⟩⟩
                ·rw[if_neg c25]at H;exact absurd H (by simp)
               ·rw[if_neg c24]at H;exact absurd H (by simp)
              ·rw[if_neg c22]at H;exact absurd H (by simp)
             ·rw[if_neg c21]at H;exact absurd H (by simp)
            ·rw[if_neg c18]at H;exact absurd H (by simp)
           ·rw[if_neg c17]at H;exact absurd H (by simp)
          ·rw[if_neg c14]at H;exact absurd H (by simp)
         ·rw[if_neg c13]at H;exact absurd H (by simp)
        ·rw[if_neg c10]at H;exact absurd H (by simp)
       ·rw[if_neg c9]at H;exact absurd H (by simp)
      ·as_aux_lemma=>
       rw[if_neg c7]at H;have c7b0:decide (x4_1<16)=false:=decide_eq_false c7;clear c7;obtain⟨ji29,hji29⟩: ∃j_:Int,(wrap64 (x4_1-3))=j_:=⟨_,rfl⟩;replace H:(if 0≤(ji29)then(if(ji29)<(x3_1.length:Int)then(if 0≤(wrap64 (x4_1-8))then(if(wrap64 (x4_1-8))<(x3_1.length:Int)then(if 0≤(wrap64 (x4_1-14))then(if(wrap64 (x4_1-14))<(x3_1.length:Int)then(if 0≤(wrap64 (x4_1-16))then(if(wrap64 (x4_1-16))<(x3_1.length:Int)then((spec_l3turn.f (Go.bits .xor .i64 (Go.bits .xor .i64 (Go.bits .xor .i64 (rd x3_1 (ji29)) (rd x3_1 (wrap64 (x4_1-8)))) (rd x3_1 (wrap64 (x4_1-14)))) (rd x3_1 (wrap64 (x4_1-16)))) 1).bind fun t229=>(if 0≤x4_1 then(if x4_1<(x3_1.length:Int)then(spec_Schedule.l0 k1 a0 (x3_1.set (x4_1:Int).toNat t229) (wrap64 (x4_1+1)))else(none))else(none)))else(none))else(none))else(none))else(none))else(none))else(none))else(none))else(none))=some r:=by first|(rw[hji29]at H;exact H)|(simp only[hji29]at H ⊢;exact H)
       have hji29w:(IntKind.i64.wrap (x4_1-3))=ji29:=(i64_w _).trans hji29
       by_cases c30:0≤(ji29)
       ·as_aux_lemma=>
        rw[if_pos c30]at H;have c30b0:decide (0≤(ji29))=true:=decide_eq_true c30;clear c30
        by_cases c31:(ji29)<(x3_1.length:Int)
        ·as_aux_lemma=>
         rw[if_pos c31]at H;have c31b0:decide ((ji29)<(x3_1.length:Int))=true:=decide_eq_true c31;clear c31;obtain⟨ji32,hji32⟩: ∃j_:Int,(wrap64 (x4_1-8))=j_:=⟨_,rfl⟩;replace H:(if 0≤(ji32)then(if(ji32)<(x3_1.length:Int)then(if 0≤(wrap64 (x4_1-14))then(if(wrap64 (x4_1-14))<(x3_1.length:Int)then(if 0≤(wrap64 (x4_1-16))then(if(wrap64 (x4_1-16))<(x3_1.length:Int)then((spec_l3turn.f (Go.bits .xor .i64 (Go.bits .xor .i64 (Go.bits .xor .i64 (rd x3_1 (ji29)) (rd x3_1 (ji32))) (rd x3_1 (wrap64 (x4_1-14)))) (rd x3_1 (wrap64 (x4_1-16)))) 1).bind fun t229=>(if 0≤x4_1 then(if x4_1<(x3_1.length:Int)then(spec_Schedule.l0 k1 a0 (x3_1.set (x4_1:Int).toNat t229) (wrap64 (x4_1+1)))else(none))else(none)))else(none))else(none))else(none))else(none))else(none))else(none))=some r:=by first|(rw[hji32]at H;exact H)|(simp only[hji32]at H ⊢;exact H)
         have hji32w:(IntKind.i64.wrap (x4_1-8))=ji32:=(i64_w _).trans hji32
         by_cases c33:0≤(ji32)
         ·as_aux_lemma=>
          rw[if_pos c33]at H;have c33b0:decide (0≤(ji32))=true:=decide_eq_true c33;clear c33
          by_cases c34:(ji32)<(x3_1.length:Int)
          ·as_aux_lemma=>
           rw[if_pos c34]at H;have c34b0:decide ((ji32)<(x3_1.length:Int))=true:=decide_eq_true c34;clear c34;obtain⟨ji35,hji35⟩: ∃j_:Int,(wrap64 (x4_1-14))=j_:=⟨_,rfl⟩;replace H:(if 0≤(ji35)then(if(ji35)<(x3_1.length:Int)then(if 0≤(wrap64 (x4_1-16))then(if(wrap64 (x4_1-16))<(x3_1.length:Int)then((spec_l3turn.f (Go.bits .xor .i64 (Go.bits .xor .i64 (Go.bits .xor .i64 (rd x3_1 (ji29)) (rd x3_1 (ji32))) (rd x3_1 (ji35))) (rd x3_1 (wrap64 (x4_1-16)))) 1).bind fun t229=>(if 0≤x4_1 then(if x4_1<(x3_1.length:Int)then(spec_Schedule.l0 k1 a0 (x3_1.set (x4_1:Int).toNat t229) (wrap64 (x4_1+1)))else(none))else(none)))else(none))else(none))else(none))else(none))=some r:=by first|(rw[hji35]at H;exact H)|(simp only[hji35]at H ⊢;exact H)
           have hji35w:(IntKind.i64.wrap (x4_1-14))=ji35:=(i64_w _).trans hji35
           by_cases c36:0≤(ji35)
           ·rw[if_pos c36]at H;have c36b0:decide (0≤(ji35))=true:=decide_eq_true c36;clear c36
            by_cases c37:(ji35)<(x3_1.length:Int)
            ·rw[if_pos c37]at H;have c37b0:decide ((ji35)<(x3_1.length:Int))=true:=decide_eq_true c37;clear c37;obtain⟨ji38,hji38⟩: ∃j_:Int,(wrap64 (x4_1-16))=j_:=⟨_,rfl⟩;replace H:(if 0≤(ji38)then(if(ji38)<(x3_1.length:Int)then((spec_l3turn.f (Go.bits .xor .i64 (Go.bits .xor .i64 (Go.bits .xor .i64 (rd x3_1 (ji29)) (rd x3_1 (ji32))) (rd x3_1 (ji35))) (rd x3_1 (ji38))) 1).bind fun t229=>(if 0≤x4_1 then(if x4_1<(x3_1.length:Int)then(spec_Schedule.l0 k1 a0 (x3_1.set (x4_1:Int).toNat t229) (wrap64 (x4_1+1)))else(none))else(none)))else(none))else(none))=some r:=by first|(rw[hji38]at H;exact H)|(simp only[hji38]at H ⊢;exact H)
             have hji38w:(IntKind.i64.wrap (x4_1-16))=ji38:=(i64_w _).trans hji38
             by_cases c39:0≤(ji38)
             ·rw[if_pos c39]at H;have c39b0:decide (0≤(ji38))=true:=decide_eq_true c39;clear c39
              by_cases c40:(ji38)<(x3_1.length:Int)
              ·rw[if_pos c40]at H;have c40b0:decide ((ji38)<(x3_1.length:Int))=true:=decide_eq_true c40;clear c40;replace H:=Option.bind_eq_some_iff.mp H;obtain⟨t229,A410,H⟩:=H;(try dsimp only at H);have A41:=Aside0.mk A410;clear A410
               by_cases c42:0≤x4_1
               ·rw[if_pos c42]at H;have c42b0:decide (0≤x4_1)=true:=decide_eq_true c42;clear c42
                by_cases c43:x4_1<(x3_1.length:Int)
                ·rw[if_pos c43]at H;have c43b0:decide (x4_1<(x3_1.length:Int))=true:=decide_eq_true c43;clear c43;obtain⟨y230,hy230⟩: ∃y_:List Int,y_=(x3_1.set (x4_1:Int).toNat t229):=⟨_,rfl⟩;replace H:(spec_Schedule.l0 k1 a0 y230 (wrap64 (x4_1+1)))=some r:=by first|(rw[hy230];with_reducible exact H)|(have H2_:=(Option.bind_some _ _).symm.trans H;rw[hy230];with_reducible exact H2_)|(have H2_:=(Option.bind_some _ _).symm.trans H;with_reducible exact H2_)|with_reducible exact H|(rw[hy230];exact H)|exact H
                 have Ny230:=Aside0.mk hy230;clear hy230;have H':=Aside0.mk H;clear H;(try go_wp2);replace HO_3:=Aside0.mk (Kd.R_drew HO_3.out);replace HB:=Aside0.mk (below_drew1 HB.out);obtain⟨Ao46,co46,eo46⟩:=Kd.R_slice HO_3.out;(first|subst eo46|(injection eo46 with f1_ f2_ f3_;have f4_:=f1_.symm;have f5_:=f3_.symm;clear f1_ f2_ f3_;subst f4_;subst f5_));have p225:0≤((ji29):Int):=of_decide_eq_true zz3;have q225:(ji29)<(x3_1.length:Int):=of_decide_eq_true zz3;obtain⟨ad225,e225,hx225_0⟩:=Kd.at_int (Kd.R_reads' HO_3.out).2.2 (ji29) p225 q225;cases e225;replace p225:=eq_true p225;replace q225:=eq_true q225;have p226:0≤((ji32):Int):=of_decide_eq_true zz3;have q226:(ji32)<(x3_1.length:Int):=of_decide_eq_true zz3;obtain⟨ad226,e226,hx226_0⟩:=Kd.at_int (Kd.R_reads' HO_3.out).2.2 (ji32) p226 q226;obtain rfl:ad225=ad226:=(by injection e226);replace p226:=eq_true p226;replace q226:=eq_true q226;have p227:0≤((ji35):Int):=of_decide_eq_true zz3;have q227:(ji35)<(x3_1.length:Int):=of_decide_eq_true zz3;obtain⟨ad227,e227,hx227_0⟩:=Kd.at_int (Kd.R_reads' HO_3.out).2.2 (ji35) p227 q227;obtain rfl:ad225=ad227:=(by injection e227);replace p227:=eq_true p227;replace q227:=eq_true q227;have p228:0≤((ji38):Int):=of_decide_eq_true zz3;have q228:(ji38)<(x3_1.length:Int):=of_decide_eq_true zz3;obtain⟨ad228,e228,hx228_0⟩:=Kd.at_int (Kd.R_reads' HO_3.out).2.2 (ji38) p228 q228;obtain rfl:ad225=ad228:=(by injection e228);replace p228:=eq_true p228;replace q228:=eq_true q228;refine st_ (n:=28) (S:=fun w'=>w'.cell? (ad225.add ((ji29)).toNat)=some (.int .i64 (rd x3_1 (ji29)))∧w'.cell? (ad225.add ((ji32)).toNat)=some (.int .i64 (rd x3_1 (ji32)))∧w'.cell? (ad225.add ((ji35)).toNat)=some (.int .i64 (rd x3_1 (ji35)))∧w'.cell? (ad225.add ((ji38)).toNat)=some (.int .i64 (rd x3_1 (ji38)))) (ds:= [27]) ⟨hx225_0,hx226_0,hx227_0,hx228_0⟩ (fun hHeld=>?_);refine with_tabW spec_Schedule.tab9 spec_Schedule.bits9 (fun HT_ HW_=>?_);generalize wr.drew=w45 at HO_3 HB hx225_0 hx226_0 hx227_0 hx228_0 hHeld ⊢;refine pz 0 47 ?_;refine pz 1 48 ?_;refine pz 2 49 ?_;refine pz 3 50 ?_;refine pz 4 51 ?_;refine pz 5 52 ?_;refine pz 7 54 ?_;refine pz 8 55 ?_;refine pz 9 56 ?_;refine pz 10 57 ?_;refine pz 13 60 ?_;refine pz 14 61 ?_;refine pz 15 62 ?_;refine pz 16 63 ?_;refine pz 19 66 ?_;refine pz 20 67 ?_;refine pz 21 68 ?_;refine pz 22 69 ?_;refine tk1_ 6 53 hHeld ?_;refine tk1_ 11 58 hHeld ?_;refine pz 12 59 ?_;refine tk1_ 17 64 hHeld ?_;refine pz 18 65 ?_;refine tk1_ 23 70 hHeld ?_;refine pz 24 71 ?_;refine oz 25 72 (fun K hK=>?_);refine goes_ Tryz.func85 (by kernel_rfl) rfl #[.int .i64 (Go.bits .xor .i64 (Go.bits .xor .i64 (Go.bits .xor .i64 (rd x3_1 (ji29)) (rd x3_1 (ji32))) (rd x3_1 (ji35))) (rd x3_1 (ji38))),.int .i64 1] (by kernel_rfl) rfl rfl (by(try simp only[List.map_toArray,List.map_cons,List.map_nil]);first|done|(simp only[hji29,hji32,hji35,hji38];rfl)|rfl|(simp only[List.length_drop,List.length_take];rfl)) ?_;(with_reducible refine(spec_l3turn.calls (Go.bits .xor .i64 (Go.bits .xor .i64 (Go.bits .xor .i64 (rd x3_1 (ji29)) (rd x3_1 (ji32))) (rd x3_1 (ji35))) (rd x3_1 (ji38))) 1 t229 _ A41.out).mono ?_);rintro e w' ⟨rfl,⟨nd,rfl⟩⟩;refine⟨_,rfl,?_⟩;have p44:0≤(x4_1:Int):=of_decide_eq_true zz3;have q44:(x4_1:Int)<((x3_1.length:Int):Int):=of_decide_eq_true zz3;obtain⟨go44,co44,eo44,gb44,gl44,cl44,HG44⟩:=Kd.R_form HO_3.out (by omega);(first|cases eo44|(injection eo44 with ea_ en_ ec_;(first|subst ea_|(injection ea_ with ea_;subst ea_));subst ec_;clear en_));have GB44:=Aside0.mk gb44;have GG44:=Aside0.mk HG44;clear gb44 gl44 HG44;(first|simp only[add_plain]at hx225_0|skip);(first|simp only[add_plain]at hx226_0|skip);(first|simp only[add_plain]at hx227_0|skip);(first|simp only[add_plain]at hx228_0|skip);obtain⟨hx44_0,hf44_0⟩:=Kd.R_celln 0 HO_3.out (x4_1:Int) p44 q44;replace p44:=eq_true p44;replace q44:=eq_true q44;have HP47:=Kd.R_putn HO_3.out (x4_1:Int) t229;rw[←Ny230.out]at HP47;have HQ47:=Aside0.mk HP47;clear HP47;refine hK.out _ _ ⟨hHeld.1,hHeld.2.1,hHeld.2.2.1,hHeld.2.2.2⟩ (fun hHeld=>?_);clear hK K;refine nz ?_;refine pz 26 73 ?_;refine last_ (i:=27) (N:=none) #[true,true,true,true,true,true,true,true,true,true,true,true,true,true,true,true,true,true,true,true,true,true,true,true,true,true,true,true] rfl rfl (one_of HT_.out (by kernel_rfl)) (by decide) (fun K hK=>?_);refine skip_ (w1:=?_) (by rfl) rfl ?_ ?_;rotate_left
                 ·go_simp;rfl
                 refine hK.out _ _ ?_;clear hK K;refine done_ (done_of HT_.out (by kernel_rfl)) ?_;(try go_wp2);go_roundg k1
                 (case measure=>have:=HK1.out;omega);case rel=>exact⟨(y230),(wrap64 (x4_1+1)),zz1,H',⟨zz60⟩,⟨by(with_reducible repeat(first|apply Kd.R_alloc|apply Kd.R_drewN|apply Kd.R_drew));exact HQ47.out⟩,⟨by repeat(first|(with_reducible first|exact HB.out|apply below_alloc|apply pw_below_drewN|apply below_drew1|refine below_set ?_ GB44.out)|exact HB.out)⟩⟩
                ·rw[if_neg c43]at H;exact absurd H (by simp)
               ·rw[if_neg c42]at H;exact absurd H (by simp)
              ·rw[if_neg c40]at H;exact absurd H (by simp)
             ·rw[if_neg c39]at H;exact absurd H (by simp)
            ·rw[if_neg c37]at H;exact absurd H (by simp)
           ·rw[if_neg c36]at H;exact absurd H (by simp)
          ·rw[if_neg c34]at H;exact absurd H (by simp)
         ·rw[if_neg c33]at H;exact absurd H (by simp)
        ·rw[if_neg c31]at H;exact absurd H (by simp)
       ·rw[if_neg c30]at H;exact absurd H (by simp)
     ·rw[if_neg c6]at H;have c6b0:decide (x4_1<80)=false:=decide_eq_false c6;clear c6;obtain rfl:=Option.some.inj H;go_wp2
      go_ret;exact⟨_,zz2,zz6,zz0⟩
  ·rw[if_neg c3]at H;exact absurd H (by simp)
 ·rw[if_neg c2]at H;have c2b0:((a0.size:Int)==64)=false:=beq_eq_false_iff_ne.mpr c2;have c2b1:((a0.size:Int)!=64)=true:=bne_iff_ne.mpr c2;obtain rfl:=Option.some.inj H;go_enter Tryz.func84,Tryz.ntmps84
  go_wp2
  go_ret;exact⟨_,zz2,zz21,zz0⟩
end Go.Proofs.YtgkipkifkobjnaaGreatDoor.GFnExactRecOk
